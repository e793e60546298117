import Derived.Test.YtkklchgmpejobaaGreatDoorGl13
open Nat renaming reduceEqDiff → rE, reduceAdd → rA
set_option maxHeartbeats 16000000
set_option linter.unusedSimpArgs false
set_option linter.unusedVariables false
namespace Go.Ev.Gl
variable {fns:T cV}
theorem sQ{cs e:List AV}{p t:Nat}(hp:p+e.length≤cs.length):(cs.take p++e++cs.drop (p+e.length))[t]? =if t<p then cs[t]? else if t<p+e.length then e[t - p]? else cs[t]? :=by
 have hl:(cs.take p).length=p:=by rw[Cc];omega
 rw[Ba];by_cases h1:t<p
 ·rw[if_pos h1,Av (by omega),Eo h1]
 ·rw[if_neg h1,Aw (by omega),hl];by_cases h2:t<p+e.length
  ·rw[if_pos h2,Av (by omega)]
  ·rw[if_neg h2,Aw (by omega),Ek];congr 1;omega
theorem aEg{S:St}{b p sz:Nat}{cs e:List AV}{o:Bool}(h:S.h.get b=some (.cells cs o sz))(hp:p+e.length≤cs.length):qH S b p e=some ⟨S.h.set b (some (.cells (cs.take p++e++cs.drop (p+e.length)) o sz)),S.nx⟩:=by
 simp only[qH,h,aK,zG,put_eq,if_pos hp]
theorem aMj{S:St}{b p sz n:Nat}{cs e:List AV}{o:Bool}(h:S.h.get b=some (.cells cs o sz))(hp:p+e.length≤cs.length)(hn:e.length=n):lI (.ptr b p) n e S=some (.undef,⟨S.h.set b (some (.cells (cs.take p++e++cs.drop (p+e.length)) o sz)),S.nx⟩):=by
 simp only[lI,dO,hn,aEg h hp];rw[show Nat.beq n n=true from Nat.beq_refl n,aL];subst hn;rfl
def kH{α:Type}(k:Nat)(E:List AV→α→Prop)(S0 X:St)(v:AV)(l:List α):Prop:=
 (v= .nilsl∧l= [])∨∃b c cs,v= .sl b 0 l.length c true∧l.length≤c∧cs.length=c * k∧S0.nx≤b∧b<X.nx∧X.h.get b=some (.cells cs true k)∧0<c∧∀ (i:Nat) (a:α),l[i]? =some a→∃e:List AV,e.length=k∧(∀ (j:Nat) (x:AV),e[j]? =some x→cs[i * k+j]? =some x)∧E e a
section
variable {α:Type}{k:Nat}{E E':List AV→α→Prop}{S0 X X':St}{v:AV}{l:List α}
theorem kH.none:kH k E S0 X .nilsl []:=.inl ⟨rfl,rfl⟩
theorem kH.move(h:kH k E S0 X v l)(hn:X.nx≤X'.nx)(hh:∀c,aT v=some c→X'.h.get c=X.h.get c)(hE:∀e a,E e a→E' e a):kH k E' S0 X' v l:=by
 rcases h with h | ⟨b,c,cs,rfl,h1,h2,h3,h4,h5,h6,h7⟩
 ·exact .inl h
 ·refine .inr ⟨b,c,cs,rfl,h1,h2,h3,Ah h4 hn,(hh b rfl).trans h5,h6,fun i a hi=>?_⟩;obtain⟨e,e1,e2,e3⟩:=h7 i a hi;exact⟨e,e1,e2,hE e a e3⟩
theorem kH.blk(h:kH k E S0 X v l){c:Nat}(hc:aT v=some c):S0.nx≤c∧c<X.nx:=by
 rcases h with⟨rfl,_⟩ | ⟨b,c',cs,rfl,h1,h2,h3,h4,h5,h6,h7⟩
 ·cases hc
 ·cases hc;exact⟨h3,h4⟩
theorem kH.is{E2:St→List AV→α→Prop}(h:kH k E S0 X v l)(hE:∀e a,E e a→E2 X e a):bB k E2 X v l:=by
 rcases h with⟨rfl,rfl⟩ | ⟨b,c,cs,rfl,h1,h2,h3,h4,h5,h6,h7⟩
 ·exact .inl ⟨rfl,.inl rfl⟩
 ·refine .inr ⟨b,0,c,true,cs,rfl,h1,h4,by unfold cL;rw[h5];rfl,fun i a hi=>?_⟩;obtain⟨e,e1,e2,e3⟩:=h7 i a hi;exact⟨e,e1,fun j x hj=>by rw[Ao];exact e2 j x hj,hE e a e3⟩
theorem kH.cells(h:kH k E S0 X v l):v.cells=some [v]:=by
 rcases h with⟨rfl,_⟩ | ⟨b,c,cs,rfl,_⟩<;>rfl
theorem kH.self(h:kH k E S0 X v l):cM v v=true:=by
 rcases h with⟨rfl,_⟩ | ⟨b,c,cs,rfl,_⟩
 ·rfl
 ·exact tU ..
theorem kH.len(h:kH k E S0 X v l):lH v=some (.int .i64 ((l.length:Nat):Int)):=by
 rcases h with⟨rfl,rfl⟩ | ⟨b,c,cs,rfl,_⟩<;>rfl
theorem oI{i j k q:Nat}(h:i<j)(hq:q<k):i * k+q<j * k:=by
 have:(i+1) * k≤j * k:=Cm k h;rw[Dx,Fm] at this;omega
theorem kH.push{bytes:Nat}{x:AV}{e:List AV}{a:α}(h:kH k E S0 X v l)(hk:0<k)(hS:S0.nx≤X.nx)(hl:nE x=some 1)(hs:eG x X.h k 1=some e)(he:e.length=k)(hE:E e a)(h1:l.length+1≤room)(h2:(l.length+1) * bytes≤room):
  ∃v' X',iA bytes k v x X=some (v',X')∧kH k E S0 X' v' (l++ [a])∧X.nx≤X'.nx∧(∀c,c<X.nx→aT v≠some c→X'.h.get c=X.h.get c)∧(∀c,aT v'=some c→aT v=some c∨X.nx≤c):=by
 rcases h with⟨rfl,rfl⟩ | ⟨b,c,cs,rfl,g1,g2,g3,g4,g5,g6,g7⟩
 ·refine⟨.sl X.nx 0 1 1 true,⟨X.h.set X.nx (some (.cells e true k)),X.nx+1⟩,?_,.inr ⟨X.nx,1,e,rfl,Ag _,by rw[he,Fm],hS,by simp,by simp only;rw[T.get_set,if_pos rfl],Nat.one_pos,fun i a' hi=>?_⟩,by simp,fun c hc _=>(Same.alloc X _).2 c hc,fun c hc=>by cases hc;exact .inr (Ag _)⟩
  ·show(aX (nE x) fun j=>aX (eG x X.h k j) fun new=>aCU .nilsl bytes k j new X)=_;rw[hl,aK,hs,aK];show sE bytes k 1 e X=_;have h1':1≤room:=by simpa using h1
   have h2':1 * bytes≤room:=by simpa using h2
   unfold sE;rw[show Nat.beq 1 0=false from rfl,aQ,Aj h1',aL,Aj h2',aL];rfl
  ·cases i with
   | zero=>
    simp at hi;subst hi;exact⟨e,he,fun j y hj=>by rw[Ey,Ao];exact hj,hE⟩
   | succ i=>simp at hi
 ·by_cases hc:l.length+1≤c
  ·have hp:l.length * k+e.length≤cs.length:=by
    rw[he,g2,←Dj];exact Cm k hc
   refine⟨.sl b 0 (l.length+1) c true,⟨X.h.set b (some (.cells (cs.take (l.length * k)++e++cs.drop (l.length * k+e.length)) true k)),X.nx⟩,?_,.inr ⟨b,c,cs.take (l.length * k)++e++cs.drop (l.length * k+e.length),by rw[Ai,An],by rw[Ai,An];exact hc,by simp;omega,g3,g4,by simp only;rw[T.get_set,if_pos rfl],g6,fun i a' hi=>?_⟩,Ag _,fun c' _ hne=>?_,fun c' hc'=>.inl hc'⟩
   ·show(aX (nE x) fun j=>aX (eG x X.h k j) fun new=>aCU (.sl b 0 l.length c true) bytes k j new X)=_;rw[hl,aK,hs,aK];show oV bytes k b 0 l.length c true 1 e X=_;unfold oV;rw[Aj hc,aL,show Nat.beq 1 0=false from rfl,aQ,Ao,aEg g5 hp,aK]
   ·rw[Ec] at hi;split at hi
    ·rename_i hlt;obtain⟨e',e1,e2,e3⟩:=g7 i a' hi;refine⟨e',e1,fun j y hj=>?_,e3⟩;have hjk:j<k:=by rw[←e1];exact(Af.1 hj).1
     rw[sQ hp,if_pos (oI hlt hjk)];exact e2 j y hj
    ·rename_i hlt;have h0:i - l.length=0:=by
      rcases Ca (i - l.length) with h0 | h0
      ·exact h0
      ·rw[Bn (by simp;omega)] at hi;cases hi
     rw[h0] at hi;cases hi;have hil:i=l.length:=by omega
     subst hil;refine⟨e,he,fun j y hj=>?_,hE⟩;have hjk:j<e.length:=(Af.1 hj).1;rw[sQ hp,if_neg (by omega),if_pos (by omega),Nat.add_sub_cancel_left];exact hj
   ·simp only;rw[T.get_set,if_neg (fun e=>hne (by rw[e];rfl))]
  ·obtain rfl:c=l.length:=by omega
   refine⟨.sl X.nx 0 (l.length+1) (l.length+1) true,⟨(X.h.set b Option.none).set X.nx (some (.cells (cs++e) true k)),X.nx+1⟩,?_,.inr ⟨X.nx,l.length+1,cs++e,by rw[Ai,An],by rw[Ai,An];exact Ag _,by rw[Ai,g2,he,Dj],hS,by simp,by simp only;rw[T.get_set,if_pos rfl],by omega,fun i a' hi=>?_⟩,by simp,fun c' hc' hne=>?_,fun c' hc'=>by cases hc';exact .inr (Ag _)⟩
   ·show(aX (nE x) fun j=>aX (eG x X.h k j) fun new=>aCU (.sl b 0 l.length l.length true) bytes k j new X)=_;rw[hl,aK,hs,aK];show oV bytes k b 0 l.length l.length true 1 e X=_;unfold oV;have e2:Nat.ble (l.length+1) l.length=false:=by rw[Bv];intro h;have:=Ar h;omega
    rw[e2,aQ,Aj h1,aL,Aj h2,aL,g5,aK];have e3:cut cs 0 (l.length * k)=some cs:=by
     unfold cut;rw[fI,fT,Ct,if_pos (by omega),Bj (by omega)]
    have e4:Nat.beq (0+l.length * k) (jK cs)=true:=by rw[dO,g2,Bb];omega
    have e5:Nat.beq k k=true:=Nat.beq_refl k;simp only[aBP,e3,aK,aL,e4,e5,grown,gD]
   ·rw[Ec] at hi;split at hi
    ·rename_i hlt;obtain⟨e',e1,e2,e3⟩:=g7 i a' hi;refine⟨e',e1,fun j y hj=>?_,e3⟩;have hjk:j<k:=by rw[←e1];exact(Af.1 hj).1
     rw[Av (by rw[g2];exact oI hlt hjk)];exact e2 j y hj
    ·rename_i hlt;have h0:i - l.length=0:=by
      rcases Ca (i - l.length) with h0 | h0
      ·exact h0
      ·rw[Bn (by simp;omega)] at hi;cases hi
     rw[h0] at hi;cases hi;have hil:i=l.length:=by omega
     subst hil;refine⟨e,he,fun j y hj=>?_,hE⟩;rw[Aw (by omega),g2,Nat.add_sub_cancel_left];exact hj
   ·simp only;have:c'≠b:=fun e=>hne (by rw[e];rfl);rw[T.get_set,if_neg (by omega),T.get_set,if_neg this]
theorem kH.set(h:kH k E S0 X v l){i:Nat}{a:α}{e:List AV}(hi:i<l.length)(he:e.length=k)(hE:E e a):
  ∃b p X',eS (.slice k) v i=some (.ptr b p)∧aT v=some b∧lI (.ptr b p) k e X=some (.undef,X')∧kH k E S0 X' v (l.set i a)∧X'.nx=X.nx∧∀c,c≠b→X'.h.get c=X.h.get c:=by
 rcases h with⟨rfl,rfl⟩ | ⟨b,c,cs,rfl,g1,g2,g3,g4,g5,g6,g7⟩
 ·exact absurd hi (Dy i)
 ·have hp:0+i * k+e.length≤cs.length:=by
   rw[he,g2,Ao,←Dj];exact Cm k (by omega)
  refine⟨b,0+i * k,_,?_,rfl,aMj g5 hp he,.inr ⟨b,c,cs.take (0+i * k)++e++cs.drop (0+i * k+e.length),by rw[Bm],by rw[Bm];exact g1,by simp;omega,g3,g4,by simp only;rw[T.get_set,if_pos rfl],g6,fun j a' hj=>?_⟩,rfl,fun c' hne=>by simp only;rw[T.get_set,if_neg hne]⟩
  ·show bN (Nat.blt i l.length) _ _=_;rw[show Nat.blt i l.length=true from Aj hi,aL]
  ·rw[Ef] at hj;split at hj
   ·rename_i e0;subst e0;try rw[if_pos hi] at hj
    cases hj;refine⟨e,he,fun q y hq=>?_,hE⟩;have hqk:q<e.length:=(Af.1 hq).1;rw[sQ hp,if_neg (by omega),if_pos (by omega)];rw[show i * k+q - (0+i * k)=q by omega];exact hq
   ·rename_i hne;obtain⟨e',e1,e2,e3⟩:=g7 j a' hj;refine⟨e',e1,fun q y hq=>?_,e3⟩;have hqk:q<k:=by rw[←e1];exact(Af.1 hq).1
    rw[sQ hp];rcases Nat.lt_or_gt_of_ne hne with h1 | h1
    ·have:i * k+e.length≤j * k:=by
      rw[he,←Dj];exact Cm k h1
     rw[if_neg (by omega),if_neg (by omega)];exact e2 q y hq
    ·rw[if_pos (by have:=oI h1 hqk;omega)];exact e2 q y hq
theorem kH.shrink(h:kH k E S0 X v l){n:Nat}(hn:l.length=n+1):∃v',(∀ (F:Fr) (hi:cK),fB (hi.val F)=some n→qX (.slice k) v Option.none (some hi) Option.none F=some v')∧kH k E S0 X v' l.dropLast∧aT v'=aT v:=by
 rcases h with⟨rfl,rfl⟩ | ⟨b,c,cs,rfl,g1,g2,g3,g4,g5,g6,g7⟩
 ·cases hn
 ·refine⟨.sl b 0 n c true,fun F hi hx=>?_,.inr ⟨b,c,cs,by rw[List.length_dropLast,hn];rfl,by rw[List.length_dropLast];omega,g2,g3,g4,g5,g6,fun i a hj=>?_⟩,rfl⟩
  ·show aIg k b 0 l.length c true Option.none (some hi) Option.none F=_;unfold aIg;have e1:jS l.length c Option.none (some hi) Option.none F=some (0,n,c):=by
    unfold jS;show(aX (some c) fun m=>aX (fB (hi.val F)) fun h=>aX (some 0) fun l'=>_)=_;rw[hx];simp only[aK];rw[Aj (Ag c),aL,Aj (show n≤c by omega),aL,Aj (Bt n),aL]
   rw[e1,aK];have e2:Nat.beq c 0=false:=by rw[Bv];intro h;rw[Bb] at h;omega
   simp only[e2,aQ,Ey,Bs,Nat.sub_zero];rfl
  ·have hlt:i<l.dropLast.length:=(Af.1 hj).1;rw[List.getElem?_dropLast] at hj;split at hj
   ·exact g7 i a hj
   ·cases hj
end
theorem aEn{S:St}{x n:Int}(H:Has fns)(h1:1≤n)(h2:n≤1000000000):fR fns (.fn 7 [] []) [.int .i64 x,.int .i64 n] S fun r X=>Same S X∧∃y,r= .int .i64 y∧0≤y∧y<n:=by
 have hr:=aEl (.p .int) (a:=x) (b:=n) (by omega);have hb1:=Int.tmod_lt_of_pos x (show 0<n by omega);have hb2:=Int.lt_tmod_of_pos x (show 0<n by omega);generalize x.tmod n=y at *;refine cE H.f7 (by simp) ?_;refine am ?_;refine cC ?_;refine am ?_;refine cC ?_;simp only[↓sU,sD,rE,↓reduceIte,rA,hr];refine iP ?_;simp only[↓sU,sD,rE,↓reduceIte,rA];by_cases hy:y<0
 ·have w1:IntKind.i64.wrap (y+n)=y+n:=wrap_i64 (by omega) (by omega);refine aR (by simp only[↓sU,sD,rE,↓reduceIte,rA,Ad hy]) ?_;refine aG ?_;simp only[↓sU,sD,rE,↓reduceIte,rA,w1];refine cC ?_;refine am ?_;refine aU ?_;simp only[↓sU,sD,rE,↓reduceIte,rA];exact⟨Same.refl _,y+n,rfl,by omega,by omega⟩
 ·refine aO (by simp only[↓sU,sD,rE,↓reduceIte,rA,Aa hy]) (aM ?_);try simp only[↓sU,sD,rE,↓reduceIte,rA]
  refine cC ?_;refine am ?_;refine aU ?_;simp only[↓sU,sD,rE,↓reduceIte,rA];exact⟨Same.refl _,y,rfl,by omega,by omega⟩
structure qJ(X:St)(db:Nat)(lv:AV)(l:List Int):Prop where
 lt:db<X.nx
 c:∃at':Nat,X.h.get db=some (.cells [lv,.int .i64 (at':Int)] false 0)∧at'≤l.length
 il:cD .i64 X lv l
 ne:aT lv≠some db
 bd:l.length≤140737488355328
theorem qJ.move{X X':St}{db:Nat}{lv:AV}{l:List Int}(h:qJ X db lv l)(hn:X.nx≤X'.nx)(hd:X'.h.get db=X.h.get db)(hl:∀c,aT lv=some c→X'.h.get c=X.h.get c):qJ X' db lv l:=by
 obtain⟨a,h1,h2⟩:=h.c;exact⟨Ah h.lt hn,⟨a,hd.trans h1,h2⟩,eY h.il hn hl,h.ne,h.bd⟩
theorem lB{X:St}{db:Nat}{lv:AV}{l:List Int}{n:Int}(H:Has fns)(h:qJ X db lv l)(h1:1≤n)(h2:n≤1000000000):fR fns (.fn 29 [] []) [.ptr db 0,.int .i64 n] X fun r X'=>bJ db X X'∧qJ X' db lv l∧∃y,r= .int .i64 y∧0≤y∧y<n:=by
 obtain⟨a,hc,ha⟩:=h.c;have hbd:=h.bd;have sl:=cD.self h.il;refine cE H.f29 (by simp) ?_;refine am ?_;refine cC ?_;refine am ?_;refine aC (aC (kO ?_));by_cases hlt:((l.length:Nat):Int)≤(a:Int)
 ·simp only[↓sU,sD,rE,↓reduceIte,rA,bE,bO,bF,aE,aW,aF,aMb hc,aJq hc,sl,h.il.len,Ak,Ad (show(a:Int)≥((l.length:Nat):Int) from hlt)];refine aR (aq) ?_;refine cC ?_;refine am ?_;refine aU ?_;simp only[↓sU,sD,rE,↓reduceIte,rA];exact⟨⟨Dd _ _,fun c _ _=>rfl⟩,h.move (Dd _ _) rfl fun _ _=>rfl,0,rfl,by omega,by omega⟩
 simp only[↓sU,sD,rE,↓reduceIte,rA,bE,bO,bF,aE,aW,aF,aMb hc,aJq hc,sl,h.il.len,Ak,Aa (show ¬ (a:Int)≥((l.length:Nat):Int) from hlt)];refine aO (by simp only[↓sU,sD,rE,↓reduceIte,rA,Aa (show ¬n<1 by omega)]) (aM ?_);try simp only[↓sU,sD,rE,↓reduceIte,rA]
 have hal:a<l.length:=by omega
 have w1:IntKind.i64.wrap ((a:Int)+1)=((a+1:Nat):Int):=by rw[wrap_i64 (by omega) (by omega)];omega
 have w2:IntKind.i64.wrap (((a+1:Nat):Int) - 1)=(a:Int):=by rw[wrap_i64 (by omega) (by omega)];omega
 generalize hX0:(⟨X.h,X.nx+_⟩:St)=X0;have e0:X0.h=X.h:=by rw[←hX0]
 have n0:X.nx≤X0.nx:=by rw[←hX0];exact Dd _ _
 clear hX0;have hc0:X0.h.get db=some (.cells [lv,.int .i64 (a:Int)] false 0):=by rw[e0];exact hc
 refine cC ?_;simp only[↓sU,sD,rE,↓reduceIte,rA,bE,bF,aE,aF,aJq hc0,w1];refine eR (v:=.undef) (S1:=⟨X0.h.set db (some (.cells [lv,.int .i64 ((a+1:Nat):Int)] false 0)),X0.nx⟩) (fun call=>by simp only[↓sU,sD,rE,↓reduceIte,rA,dD,cQ];exact xW (cs:=[lv,.int .i64 (a:Int)]) (p:=1) (S:=X0) hc0 (by simp)) ?_;simp only[↓sU,sD,rE,↓reduceIte,rA];generalize hX1:(⟨X0.h.set db (some (.cells [lv,.int .i64 ((a+1:Nat):Int)] false 0)),X0.nx⟩:St)=X1;have hc1:X1.h.get db=some (.cells [lv,.int .i64 ((a+1:Nat):Int)] false 0):=by rw[←hX1];simp only;rw[T.get_set,if_pos rfl]
 have k1:bJ db X X1:=by rw[←hX1];exact⟨n0,fun c _ hne=>by simp only;rw[T.get_set,if_neg hne,e0]⟩
 clear hX1;have hl1:cD .i64 X1 lv l:=eY h.il k1.1 fun c hcc=>k1.2 c (dG h.il hcc) fun e=>h.ne (by rw[hcc,e]);have D1:qJ X1 db lv l:=⟨Ah h.lt k1.1,⟨a+1,hc1,hal⟩,hl1,h.ne,h.bd⟩;have ia:=hl1.iaddr hal;have la:=hl1.ld hal;obtain⟨b1,o1,hp1,lb1⟩:=cD.place hl1 hal;rw[hp1] at ia la;have ldb:=D1.lt;refine aC (dK (fun _=>False) ?_);intro X2 x2;simp only[↓sU,sD,rE,↓reduceIte,rA,bE,bO,bF,aE,aW,aF,aMb hc1,aJq hc1,sl,ldb,Ay,w2,aH,ia,la,lb1];refine cP rfl ?_;refine am ?_;refine aP (aEn H h1 h2) ?_;rintro _ X3 ⟨x3,y,rfl,hy1,hy2⟩;refine⟨x3,?_⟩;try simp only[↓sU,sD,rE,↓reduceIte,rA]
 refine aU ?_;simp only[↓sU,sD,rE,↓reduceIte,rA];have s13:=x2.trans x3;exact⟨⟨Ap k1.1 s13.1,fun c hcx hne=>(s13.2 c (Ah hcx k1.1)).trans (k1.2 c hcx hne)⟩,D1.move s13.1 (s13.2 _ D1.lt) fun c hcc=>s13.2 c (dG hl1 hcc),y,rfl,hy1,hy2⟩
structure Mk where
 lvl:AV
 va:AV
 na:AV
 ia:AV
 lv:AV
 most:Int
 pend:Int
 ps:Int
 zero:Bool
 small:Bool
 dl:List Int
 nodes:List bU
 infos:List mT
 views:List (Int×Int×Int)
def PB(mb db:Nat)(m:Mk)(c:Nat):Prop:=c≠mb∧c≠db∧aT m.na≠some c∧aT m.ia≠some c∧aT m.va≠some c
def fD(mb db:Nat)(m:Mk)(X:St)(m':Mk)(X':St):Prop:=X.nx≤X'.nx∧∀c,c<X.nx→PB mb db m c→X'.h.get c=X.h.get c∧PB mb db m' c
theorem fD.refl{mb db:Nat}{m:Mk}{X:St}:fD mb db m X m X:=⟨Ag _,fun _ _ h=>⟨rfl,h⟩⟩
theorem fD.trans{mb db:Nat}{m m' m'':Mk}{X X' X'':St}(h:fD mb db m X m' X')(h':fD mb db m' X' m'' X''):fD mb db m X m'' X'':=
 ⟨Ap h.1 h'.1,fun c hc hp=>by
  obtain⟨a,b⟩:=h.2 c hc hp;obtain⟨a',b'⟩:=h'.2 c (Ah hc h.1) b;exact⟨a'.trans a,b'⟩⟩
theorem fD.same{mb db:Nat}{m:Mk}{X X':St}(h:Same X X'):fD mb db m X m X':=⟨h.1,fun c hc hp=>⟨h.2 c hc,hp⟩⟩
def aLY(mb db:Nat)(P:Nat→Prop)(m:Mk)(X:St)(m':Mk)(X':St):Prop:=X.nx≤X'.nx∧∀c,c<X.nx→PB mb db m c→P c→X'.h.get c=X.h.get c∧PB mb db m' c
theorem fD.p{mb db:Nat}{P:Nat→Prop}{m m':Mk}{X X':St}(h:fD mb db m X m' X'):aLY mb db P m X m' X':=⟨h.1,fun c hc hp _=>h.2 c hc hp⟩
theorem aLY.np{mb db:Nat}{P:Nat→Prop}{m m':Mk}{X X':St}(h:aLY mb db P m X m' X'):∀c,c<X.nx→(PB mb db m c∧P c)→X'.h.get c=X.h.get c∧(PB mb db m' c∧P c):=fun c hc hp=>⟨(h.2 c hc hp.1 hp.2).1,(h.2 c hc hp.1 hp.2).2,hp.2⟩
def PlE(_:St)(cs:List AV)(a:Int×Int×Int):Prop:=cs= [.int .i64 a.1,.int .i64 a.2.1,.int .i64 a.2.2]
def aMF(cs:List AV)(a:mT):Prop:=cs= [.int .i64 a.player,.int .i64 a.actions]
def VwE(X:St)(P:Nat→Prop)(cs:List AV)(a:Int×Int×Int):Prop:=∃sv l,cs= [.int .i64 a.1,.int .i64 a.2.1,sv,.int .i64 a.2.2]∧cD .i64 X sv l∧l.length≤1000∧∀c,aT sv=some c→P c
theorem VwE.move{X X':St}{P P':Nat→Prop}{e:List AV}{a:Int×Int×Int}(h:VwE X P e a)(hn:X.nx≤X'.nx)(hh:∀c,c<X.nx→P c→X'.h.get c=X.h.get c∧P' c):VwE X' P' e a:=by
 obtain⟨sv,l,rfl,h1,h2,h3⟩:=h;exact⟨sv,l,rfl,eY h1 hn fun c hc=>(hh c (dG h1 hc) (h3 c hc)).1,h2,fun c hc=>(hh c (dG h1 hc) (h3 c hc)).2⟩
structure MkP(P:Nat→Prop)(S0 X:St)(mb db:Nat)(m:Mk)(LV:List (Int×Int×Int)):Prop where
 lt:mb<X.nx
 ge:S0.nx≤mb
 dge:S0.nx≤db
 ne:mb≠db
 dr:qJ X db m.lv m.dl
 dp:∀c,aT m.lv=some c→PB mb db m c∧P c
 lev:bB 3 PlE X m.lvl LV
 levp:∀c,aT m.lvl=some c→PB mb db m c∧P c
 nod:kH 6 (aCc X fun c=>PB mb db m c∧P c) S0 X m.na m.nodes
 inf:kH 2 aMF S0 X m.ia m.infos
 vw:kH 4 (VwE X fun c=>PB mb db m c∧P c) S0 X m.va m.views
 d1:∀c,aT m.na=some c→c≠mb∧c≠db∧aT m.ia≠some c∧aT m.va≠some c
 d2:∀c,aT m.ia=some c→c≠mb∧c≠db∧aT m.va≠some c
 d3:∀c,aT m.va=some c→c≠mb∧c≠db
def dL(db:Nat)(m:Mk):List AV:=[.ptr db 0,m.lvl,m.va,.int .i64 m.most,.int .i64 m.pend,.bool m.zero,.bool m.small,.int .i64 m.ps,m.na,m.ia]
structure lR(P:Nat→Prop)(S0 X:St)(mb db:Nat)(m:Mk)(LV:List (Int×Int×Int)):Prop where
 p:MkP P S0 X mb db m LV
 g:X.h.get mb=some (.cells (dL db m) false 0)
section
variable {P:Nat→Prop}{S0 X X':St}{mb db:Nat}{m m':Mk}{LV:List (Int×Int×Int)}
theorem aCp{k:Nat}{α:Type}{E:St→List AV→α→Prop}{v:AV}{l:List α}{c:Nat}(h:bB k E X v l)(hc:aT v=some c):c<X.nx:=by
 rcases h with⟨_,rfl | rfl⟩ | ⟨b,off,cap,o,cs,rfl,_,hb,_⟩
 ·cases hc
 ·cases hc
 ·cases hc;exact hb
theorem MkP.of(h:MkP P S0 X mb db m LV)(K:aLY mb db P m X m' X')(e1:m'.lvl=m.lvl)(e2:m'.lv=m.lv)(e3:m'.dl=m.dl)(hdr:qJ X' db m.lv m.dl)(hna:kH 6 (aCc X' fun c=>PB mb db m' c∧P c) S0 X' m'.na m'.nodes)(hia:kH 2 aMF S0 X' m'.ia m'.infos)(hva:kH 4 (VwE X' fun c=>PB mb db m' c∧P c) S0 X' m'.va m'.views)
  (d1:∀c,aT m'.na=some c→c≠mb∧c≠db∧aT m'.ia≠some c∧aT m'.va≠some c) (d2:∀c,aT m'.ia=some c→c≠mb∧c≠db∧aT m'.va≠some c) (d3:∀c,aT m'.va=some c→c≠mb∧c≠db):MkP P S0 X' mb db m' LV where
 lt:=Ah h.lt K.1
 ge:=h.ge
 dge:=h.dge
 ne:=h.ne
 dr:=by rw[e2,e3];exact hdr
 dp:=fun c hc=>by rw[e2] at hc;exact(K.np c (dG h.dr.il hc) (h.dp c hc)).2
 lev:=by rw[e1];exact bB.moveB h.lev K.1 (fun c hc=>(K.np c (aCp h.lev hc) (h.levp c hc)).1) fun _ _ h=>h
 levp:=fun c hc=>by rw[e1] at hc;exact(K.np c (aCp h.lev hc) (h.levp c hc)).2
 nod:=hna
 inf:=hia
 vw:=hva
 d1:=d1
 d2:=d2
 d3:=d3
theorem MkP.keep(h:MkP P S0 X mb db m LV)(hn:X.nx≤X'.nx)(hk:∀c,c<X.nx→c≠mb→c≠db→X'.h.get c=X.h.get c)(hdr:qJ X' db m.lv m.dl)(e1:m'.lvl=m.lvl)(e2:m'.lv=m.lv)(e3:m'.dl=m.dl)(e4:m'.na=m.na)(e5:m'.nodes=m.nodes)(e6:m'.ia=m.ia)(e7:m'.infos=m.infos)(e8:m'.va=m.va)(e9:m'.views=m.views):MkP P S0 X' mb db m' LV∧fD mb db m X m' X':=by
 have K:fD mb db m X m' X':=⟨hn,fun c hc hp=>⟨hk c hc hp.1 hp.2.1,by unfold PB;rw[e4,e6,e8];exact hp⟩⟩;refine⟨h.of K.p e1 e2 e3 hdr ?_ ?_ ?_ ?_ ?_ ?_,K⟩
 ·rw[e4,e5];exact h.nod.move hn (fun c hc=>hk c (h.nod.blk hc).2 (h.d1 c hc).1 (h.d1 c hc).2.1) fun e a hE=>hE.move hn (fD.p K).np
 ·rw[e6,e7];exact h.inf.move hn (fun c hc=>hk c (h.inf.blk hc).2 (h.d2 c hc).1 (h.d2 c hc).2.1) fun e a hE=>hE
 ·rw[e8,e9];exact h.vw.move hn (fun c hc=>hk c (h.vw.blk hc).2 (h.d3 c hc).1 (h.d3 c hc).2) fun e a hE=>hE.move hn (fD.p K).np
 ·rw[e4,e6,e8];exact h.d1
 ·rw[e6,e8];exact h.d2
 ·rw[e8];exact h.d3
theorem lR.same(h:lR P S0 X mb db m LV)(hs:Same X X'):lR P S0 X' mb db m LV:=
 ⟨(h.p.keep hs.1 (fun c hc _ _=>hs.2 c hc) (h.p.dr.move hs.1 (hs.2 _ h.p.dr.lt) fun c hc=>hs.2 c (dG h.p.dr.il hc)) rfl rfl rfl rfl rfl rfl rfl rfl rfl).1,(hs.2 _ h.p.lt).trans h.g⟩
theorem lR.drawn(h:lR P S0 X mb db m LV)(hs:bJ db X X')(hd:qJ X' db m.lv m.dl):lR P S0 X' mb db m LV∧fD mb db m X m X':=by
 obtain⟨a,b⟩:=h.p.keep (m':=m) hs.1 (fun c hc _ h2=>hs.2 c hc h2) hd rfl rfl rfl rfl rfl rfl rfl rfl rfl;exact⟨⟨a,(hs.2 _ h.p.lt h.p.ne).trans h.g⟩,b⟩
theorem MkP.put(h:MkP P S0 X mb db m LV)(g:X'.h.get mb=some (.cells (dL db m) false 0))(hn:X.nx≤X'.nx)(hk:∀c,c<X.nx→c≠mb→X'.h.get c=X.h.get c):lR P S0 X' mb db m LV:=
 ⟨(h.keep (m':=m) hn (fun c hc h1 _=>hk c hc h1) (h.dr.move hn (hk _ h.dr.lt h.ne.symm) fun c hc=>hk c (dG h.dr.il hc) (h.dp c hc).1.1) rfl rfl rfl rfl rfl rfl rfl rfl rfl).1,g⟩
theorem lR.local(h:lR P S0 X mb db m LV)(hn:X.nx≤X'.nx)(hk:∀c,c<X.nx→(¬PB mb db m c∨P c)→X'.h.get c=X.h.get c):lR P S0 X' mb db m LV:=by
 have K:aLY mb db P m X m X':=⟨hn,fun c hc hp hP=>⟨hk c hc (.inr hP),hp⟩⟩;refine⟨h.p.of K rfl rfl rfl (h.p.dr.move hn (hk _ h.p.dr.lt (.inl fun hp=>hp.2.1 rfl)) fun c hc=>hk c (dG h.p.dr.il hc) (.inr (h.p.dp c hc).2)) (h.p.nod.move hn (fun c hc=>hk c (h.p.nod.blk hc).2 (.inl fun hp=>hp.2.2.1 hc)) fun e a hE=>hE.move hn K.np) (h.p.inf.move hn (fun c hc=>hk c (h.p.inf.blk hc).2 (.inl fun hp=>hp.2.2.2.1 hc)) fun e a hE=>hE) (h.p.vw.move hn (fun c hc=>hk c (h.p.vw.blk hc).2 (.inl fun hp=>hp.2.2.2.2 hc)) fun e a hE=>hE.move hn K.np) h.p.d1 h.p.d2 h.p.d3,?_⟩;exact(hk _ h.p.lt (.inl fun hp=>hp.1 rfl)).trans h.g
theorem MkP.mono{P':Nat→Prop}(h:MkP P S0 X mb db m LV)(hP:∀c,c<X.nx→P c→P' c):MkP P' S0 X mb db m LV where
 lt:=h.lt
 ge:=h.ge
 dge:=h.dge
 ne:=h.ne
 dr:=h.dr
 dp:=fun c hc=>⟨(h.dp c hc).1,hP c (dG h.dr.il hc) (h.dp c hc).2⟩
 lev:=h.lev
 levp:=fun c hc=>⟨(h.levp c hc).1,hP c (aCp h.lev hc) (h.levp c hc).2⟩
 nod:=h.nod.move (Ag _) (fun _ _=>rfl) fun e a hE=>hE.move (Ag _) fun c hc hp=>⟨rfl,hp.1,hP c hc hp.2⟩
 inf:=h.inf
 vw:=h.vw.move (Ag _) (fun _ _=>rfl) fun e a hE=>hE.move (Ag _) fun c hc hp=>⟨rfl,hp.1,hP c hc hp.2⟩
 d1:=h.d1
 d2:=h.d2
 d3:=h.d3
theorem lR.mono{P':Nat→Prop}(h:lR P S0 X mb db m LV)(hP:∀c,c<X.nx→P c→P' c):lR P' S0 X mb db m LV:=⟨h.p.mono hP,h.g⟩
theorem MkP.pushN(h:MkP P S0 X mb db m LV){v':AV}{l':List bU}(hn:X.nx≤X'.nx)(hk:∀c,c<X.nx→aT m.na≠some c→X'.h.get c=X.h.get c)(hb:∀c,aT v'=some c→aT m.na=some c∨X.nx≤c)(ha:kH 6 (aCc X fun c=>PB mb db m c∧P c) S0 X' v' l'):MkP P S0 X' mb db {m with na:=v',nodes:=l'} LV∧fD mb db m X {m with na:=v',nodes:=l'} X':=by
 have K:fD mb db m X {m with na:=v',nodes:=l'} X':=⟨hn,fun c hc hp=>⟨hk c hc hp.2.2.1,hp.1,hp.2.1,fun e=>(hb c e).elim (fun h1=>hp.2.2.1 h1) fun h1=>absurd hc (Nat.not_lt.2 h1),hp.2.2.2.1,hp.2.2.2.2⟩⟩;have old:∀ {c},aT m.na=some c→c<X.nx:=fun hc=>(h.nod.blk hc).2;refine⟨h.of K.p rfl rfl rfl (h.dr.move hn (hk _ h.dr.lt fun e=>(h.d1 _ e).2.1 rfl) fun c hc=>hk c (dG h.dr.il hc) (h.dp c hc).1.2.2.1) (ha.move (Ag _) (fun _ _=>rfl) fun e a hE=>hE.move hn (fD.p K).np) (h.inf.move hn (fun c hc=>hk c (h.inf.blk hc).2 fun e=>(h.d1 c e).2.2.1 hc) fun e a hE=>hE) (h.vw.move hn (fun c hc=>hk c (h.vw.blk hc).2 fun e=>(h.d1 c e).2.2.2 hc) fun e a hE=>hE.move hn (fD.p K).np) (fun c hc=>?_) h.d2 h.d3,K⟩;rcases hb c hc with h1 | h1
 ·exact h.d1 c h1
 ·exact⟨by have:=h.lt;omega,by have:=h.dr.lt;omega,fun e=>by have:=(h.inf.blk e).2;omega,fun e=>by have:=(h.vw.blk e).2;omega⟩
theorem MkP.pushI(h:MkP P S0 X mb db m LV){v':AV}{l':List mT}(hn:X.nx≤X'.nx)(hk:∀c,c<X.nx→aT m.ia≠some c→X'.h.get c=X.h.get c)(hb:∀c,aT v'=some c→aT m.ia=some c∨X.nx≤c)(ha:kH 2 aMF S0 X' v' l'):MkP P S0 X' mb db {m with ia:=v',infos:=l'} LV∧fD mb db m X {m with ia:=v',infos:=l'} X':=by
 have K:fD mb db m X {m with ia:=v',infos:=l'} X':=⟨hn,fun c hc hp=>⟨hk c hc hp.2.2.2.1,hp.1,hp.2.1,hp.2.2.1,fun e=>(hb c e).elim (fun h1=>hp.2.2.2.1 h1) fun h1=>absurd hc (Nat.not_lt.2 h1),hp.2.2.2.2⟩⟩;refine⟨h.of K.p rfl rfl rfl (h.dr.move hn (hk _ h.dr.lt fun e=>(h.d2 _ e).2.1 rfl) fun c hc=>hk c (dG h.dr.il hc) (h.dp c hc).1.2.2.2.1) (h.nod.move hn (fun c hc=>hk c (h.nod.blk hc).2 (h.d1 c hc).2.2.1) fun e a hE=>hE.move hn (fD.p K).np) ha (h.vw.move hn (fun c hc=>hk c (h.vw.blk hc).2 fun e=>(h.d2 c e).2.2 hc) fun e a hE=>hE.move hn (fD.p K).np) (fun c hc=>⟨(h.d1 c hc).1,(h.d1 c hc).2.1,fun e=>?_,(h.d1 c hc).2.2.2⟩) (fun c hc=>?_) h.d3,K⟩
 ·rcases hb c e with h1 | h1
  ·exact(h.d1 c hc).2.2.1 h1
  ·have:=(h.nod.blk hc).2;omega
 ·rcases hb c hc with h1 | h1
  ·exact h.d2 c h1
  ·exact⟨by have:=h.lt;omega,by have:=h.dr.lt;omega,fun e=>by have:=(h.vw.blk e).2;omega⟩
theorem MkP.pushV(h:MkP P S0 X mb db m LV){v':AV}{l':List (Int×Int×Int)}(hn:X.nx≤X'.nx)(hk:∀c,c<X.nx→aT m.va≠some c→X'.h.get c=X.h.get c)(hb:∀c,aT v'=some c→aT m.va=some c∨X.nx≤c)(ha:kH 4 (VwE X fun c=>PB mb db m c∧P c) S0 X' v' l'):MkP P S0 X' mb db {m with va:=v',views:=l'} LV∧fD mb db m X {m with va:=v',views:=l'} X':=by
 have K:fD mb db m X {m with va:=v',views:=l'} X':=⟨hn,fun c hc hp=>⟨hk c hc hp.2.2.2.2,hp.1,hp.2.1,hp.2.2.1,hp.2.2.2.1,fun e=>(hb c e).elim (fun h1=>hp.2.2.2.2 h1) fun h1=>absurd hc (Nat.not_lt.2 h1)⟩⟩;refine⟨h.of K.p rfl rfl rfl (h.dr.move hn (hk _ h.dr.lt fun e=>(h.d3 _ e).2 rfl) fun c hc=>hk c (dG h.dr.il hc) (h.dp c hc).1.2.2.2.2) (h.nod.move hn (fun c hc=>hk c (h.nod.blk hc).2 (h.d1 c hc).2.2.2) fun e a hE=>hE.move hn (fD.p K).np) (h.inf.move hn (fun c hc=>hk c (h.inf.blk hc).2 (h.d2 c hc).2.2) fun e a hE=>hE) (ha.move (Ag _) (fun _ _=>rfl) fun e a hE=>hE.move hn (fD.p K).np) (fun c hc=>⟨(h.d1 c hc).1,(h.d1 c hc).2.1,(h.d1 c hc).2.2.1,fun e=>?_⟩) (fun c hc=>⟨(h.d2 c hc).1,(h.d2 c hc).2.1,fun e=>?_⟩) (fun c hc=>?_),K⟩
 ·rcases hb c e with h1 | h1
  ·exact(h.d1 c hc).2.2.2 h1
  ·have:=(h.nod.blk hc).2;omega
 ·rcases hb c e with h1 | h1
  ·exact(h.d2 c hc).2.2 h1
  ·have:=(h.inf.blk hc).2;omega
 ·rcases hb c hc with h1 | h1
  ·exact h.d3 c h1
  ·exact⟨by have:=h.lt;omega,by have:=h.dr.lt;omega⟩
end
def aQZ(X:St)(F:Fr)(db:Nat)(lv pv:AV)(dl:List Int)(F':Fr)(Z:St)(ps:List iM):Prop:=∃w:Int, -3≤w∧w≤3∧ps= [⟨8,X.nx+8,.cells [.int .i64 w] false 0⟩]∧X.nx+12≤Z.nx∧bJ db X Z∧qJ Z db lv dl∧(∀j,j<6→aD j F'=aD j F)∧aD 17 F'=pv∧aD 24 F'= .sl (X.nx+8) 0 1 1 false
theorem aLy{ops:List AO}{P:Nat→Prop}{S0 Y0 X:St}{F:Fr}{inr:Bool}{mb db xb:Nat}{m:Mk}{LV:List (Int×Int×Int)}{k p f xa xw pv:AV}{l:List Int}{Q:Out→bQ→St→Prop}(H:Has fns)(he:ops=aLE++aLm)(hM:lR P S0 X mb db m LV)(p0:aD 0 F= .ptr mb 0)(p4:aD 4 F= .ptr xb 0)(gx:X.h.get xb=some (.cells [k,p,f,xa,xw,pv] false 0))(hx:PB mb db m xb∧¬P xb)(lx:xb<Y0.nx)(hY:Y0.nx≤X.nx)(hg:gQ 1 Y0 X pv l.length (bG l))(hb:∀c,aT pv=some c→PB mb db m c∧¬P c)(hP:∀c,X.nx≤c→¬P c)(hl:l.length≤1000)
  (hQ:∀F' Z pv' w,(∀j,j<6→aD j F'=aD j F)→lR P S0 Z mb db m LV→X.nx≤Z.nx→(∀c,c<X.nx→PB mb db m c→c≠xb→aT pv≠some c→Z.h.get c=X.h.get c)→Z.h.get xb=some (.cells [k,p,f,xa,xw,pv'] false 0)→gQ 1 Y0 Z pv' (l++ [w]).length (bG (l++ [w]))→(∀c,aT pv'=some c→X.nx≤c)→ -3≤w→w≤3→Q .normal ⟨F',inr⟩ Z):lJ fns (.drw ops) ⟨F,inr⟩ X Q:=by
 have hlen:ops.length=12:=by rw[he];rfl
 have lxX:xb<X.nx:=Ah lx hY;have lmX:=hM.p.lt;have nxd:xb≠db:=hx.1.2.1;have nmd:=hM.p.ne;have gm0:=cS (p:=0) hM.g rfl;have sp:=hg.self;refine uV (W:=fun c=>c=db) (K:=9) (R:=aQZ X F db m.lv pv m.dl) he rfl rfl (fun X1 x1 hh1 nn1=>?_) ?_
 ·have gxl:=cS (p:=5) gx rfl;unfold aLE;simp only[↓sU,sD,rE,↓reduceIte,rA,p0,p4,bE,bO,bF,aE,aW,aF,gxl,gm0,sp,lxX,lmX,nxd,nmd,Ay];refine jC rfl ?_;refine am ?_;refine aP (lB H (hM.same x1).p.dr (n:=7) (by decide) (by decide)) ?_;rintro _ X2 ⟨x2,d2,y,rfl,y1,y2⟩;refine⟨⟨x2.1,fun c hc hne=>x2.2 c (Ah hc x1.1) hne⟩,?_⟩;have w1:IntKind.i64.wrap (y - 3)=y - 3:=wrap_i64 (by omega) (by omega);have he1:=fun(F:Fr) (id:Nat) (h:aD 23 F= .int .i64 (y - 3))=>kQ (t:=3) (z:=.int .i64 0) (x:=.t 23) (F:=F) (id:=id) (k:=.i64) (n:=y - 3) h;simp only[↓sU,sD,rE,↓reduceIte,rA,w1,he1];refine⟨y - 3,by omega,by omega,aq,(by have h9:X1.nx≤X2.nx:=x2.1;omega),⟨Ap x1.1 x2.1,fun c hc hne=>(x2.2 c (Ah hc x1.1) hne).trans (x1.2 c hc)⟩,d2,fun j hj=>?_,by refine⟨?_,?_⟩<;>simp only[↓sU,sD,rE,↓reduceIte,rA]⟩;have:j=0∨j=1∨j=2∨j=3∨j=4∨j=5:=by omega
  rcases this with rfl | rfl | rfl | rfl | rfl | rfl<;>simp only[↓sU,sD,rE,↓reduceIte,rA]
 rintro F' S' ps hs ls ⟨w,w1,w2,rfl,nZ,sZ,dZ,hk,pA,pB⟩ hlast hld;have p4':aD 4 F'= .ptr xb 0:=(hk 4 (by omega)).trans p4;have m1:∀i,i<9→Nat.testBit 511 i=true:=by decide
 have hMZ:=(hM.drawn sZ dZ).1;obtain⟨U,hU⟩:∃U:St,U=⟨S'.h.set (X.nx+8) (some (.cells [.int .i64 w] false 0)),S'.nx⟩:=⟨_,rfl⟩;have nU:U.nx=S'.nx:=by rw[hU]
 have kU:∀c,c≠X.nx+8→U.h.get c=S'.h.get c:=fun c hc=>by rw[hU];simp only;rw[T.get_set,if_neg hc]
 have gU:U.h.get (X.nx+8)=some (.cells [.int .i64 w] false 0):=by rw[hU];simp only;rw[T.get_set,if_pos rfl]
 have lowv:∀ {c},aT pv=some c→Y0.nx≤c∧c<X.nx:=fun hc=>⟨(hg.blk hc).1,(hg.blk hc).2.1⟩;have hgU:gQ 1 ⟨U.h,Y0.nx⟩ U pv l.length (bG l):=hg.move (by omega) fun c hc=>by
  rw[kU c (by have:=(lowv hc).2;omega)];exact sZ.2 c (lowv hc).2 (hb c hc).1.2.1
 obtain⟨pv',V,eA,gA,bA,nA,rA⟩:=gQ.push (bytes:=8) (t:=X.nx+8) (w:=w) hgU ⟨by show Y0.nx≤U.nx;omega,fun _ _=>rfl⟩ gU (by unfold room;omega) (by unfold room;omega);have gxS:S'.h.get xb=some (.cells [k,p,f,xa,xw,pv] false 0):=(sZ.2 xb lxX nxd).trans gx;have gxV:V.h.get xb=some (.cells [k,p,f,xa,xw,pv] false 0):=by
  rw[rA xb (by omega) (fun e=>by have:=(lowv e).1;omega),kU xb (by omega)];exact gxS
 have hbA:∀ {c},aT pv'=some c→c=U.nx:=fun hc=>by rw[bA] at hc;exact(Cl hc).symm
 unfold aLm;refine jR (v:=pv') (S1:=V) (hlast _ m1) (fun call=>?_) ?_
 ·rw[dS (show Nat.testBit 511 8=true by decide),fJ];simp only[fW,pA,pB];rw[←hU];exact eA
 rw[dS (show Nat.testBit 511 8=true by decide)];simp only[nB,dV,aE,aF,aW,aQ,fW,cB,bS,p4',rE,↓reduceIte,rA];have gAc:pv'.cells=some [pv']:=gQ.cells gA;refine jR (v:=.undef) (S1:=⟨V.h.set xb (some (.cells [k,p,f,xa,xw,pv'] false 0)),V.nx⟩) (show Nat.testBit 2047 9=true by decide) (fun call=>?_) ?_
 ·rw[dD];simp only[fW,bS,rE,↓reduceIte,cB,gAc,aK];exact xW (cs:=[k,p,f,xa,xw,pv]) (p:=5) (S:=V) gxV (by simp)
 rw[iL];refine⟨?_,?_⟩
 ·simp only[Cn,Ba,Co,Bl,Bh];exact hld _ _ _ m1
 ·simp only[cB,dR];have kV:∀c,c<S'.nx→c≠X.nx+8→c≠xb→aT pv≠some c→(V.h.set xb (some (.cells [k,p,f,xa,xw,pv'] false 0))).get c=S'.h.get c:=fun c hc h1 h2 h3=>by
   rw[T.get_set,if_neg h2,rA c (by omega) h3,kU c h1]
  refine hQ _ _ pv' w (fun j hj=>?_) (hMZ.local (by show S'.nx≤V.nx;omega) fun c hc hor=>?_) (by show X.nx≤V.nx;omega) (fun c hc hp h1 h2=>?_) (by simp only;rw[T.get_set,if_pos rfl]) ?_ (fun c hc=>by have:=hbA hc;omega) w1 w2
  ·rw[bS,if_neg (by omega),bS,if_neg (by omega)];exact hk j hj
  ·refine kV c hc (fun e=>?_) (fun e=>?_) (fun e=>?_)
   ·rcases hor with h | h
    ·refine h ⟨by omega,?_,fun e'=>?_,fun e'=>?_,fun e'=>?_⟩
     ·have:=hM.p.dr.lt;omega
     ·have:=(hM.p.nod.blk e').2;omega
     ·have:=(hM.p.inf.blk e').2;omega
     ·have:=(hM.p.vw.blk e').2;omega
    ·exact hP c (by omega) h
   ·rcases hor with h | h
    ·exact h (by rw[e];exact hx.1)
    ·exact hx.2 (by rw[←e];exact h)
   ·rcases hor with h | h
    ·exact h (hb c e).1
    ·exact(hb c e).2 h
  ·simp only;rw[kV c (by omega) (by omega) h1 h2];exact sZ.2 c hc hp.2.1
  ·refine gQ.move (S:=V) (by exact gA) (Ag _) fun c hc=>?_;have:=hbA hc;simp only;rw[T.get_set,if_neg (by omega)]
def aQX(X:St)(F:Fr)(db:Nat)(lv pv:AV)(dl:List Int)(F':Fr)(Z:St)(ps:List iM):Prop:=∃w:Int,1≤w∧w≤3∧ps= [⟨8,X.nx+8,.cells [.int .i64 w] false 0⟩]∧X.nx+12≤Z.nx∧bJ db X Z∧qJ Z db lv dl∧(∀j,j<16→aD j F'=aD j F)∧aD 140 F'=pv∧aD 147 F'= .sl (X.nx+8) 0 1 1 false
theorem aLb{ops:List AO}{P:Nat→Prop}{S0 Y0 X:St}{F:Fr}{inr:Bool}{mb db xb:Nat}{m:Mk}{LV:List (Int×Int×Int)}{k p f xa pv xp:AV}{l:List Int}{Q:Out→bQ→St→Prop}(H:Has fns)(he:ops=aLq++aMA)(hM:lR P S0 X mb db m LV)(p0:aD 0 F= .ptr mb 0)(p4:aD 11 F= .ptr xb 0)(gx:X.h.get xb=some (.cells [k,p,f,xa,pv,xp] false 0))(hx:PB mb db m xb∧¬P xb)(lx:xb<Y0.nx)(hY:Y0.nx≤X.nx)(hg:gQ 1 Y0 X pv l.length (bG l))(hb:∀c,aT pv=some c→PB mb db m c∧¬P c)(hP:∀c,X.nx≤c→¬P c)(hl:l.length≤1000)
  (hQ:∀F' Z pv' w,(∀j,j<16→aD j F'=aD j F)→lR P S0 Z mb db m LV→X.nx≤Z.nx→(∀c,c<X.nx→PB mb db m c→c≠xb→aT pv≠some c→Z.h.get c=X.h.get c)→Z.h.get xb=some (.cells [k,p,f,xa,pv',xp] false 0)→gQ 1 Y0 Z pv' (l++ [w]).length (bG (l++ [w]))→(∀c,aT pv'=some c→X.nx≤c)→1≤w→w≤3→Q .normal ⟨F',inr⟩ Z):lJ fns (.drw ops) ⟨F,inr⟩ X Q:=by
 have hlen:ops.length=12:=by rw[he];rfl
 have lxX:xb<X.nx:=Ah lx hY;have lmX:=hM.p.lt;have nxd:xb≠db:=hx.1.2.1;have nmd:=hM.p.ne;have gm0:=cS (p:=0) hM.g rfl;have sp:=hg.self;refine uV (W:=fun c=>c=db) (K:=9) (R:=aQX X F db m.lv pv m.dl) he rfl rfl (fun X1 x1 hh1 nn1=>?_) ?_
 ·have gxl:=cS (p:=4) gx rfl;unfold aLq;simp only[↓sU,sD,rE,↓reduceIte,rA,p0,p4,bE,bO,bF,aE,aW,aF,gxl,gm0,sp,lxX,lmX,nxd,nmd,Ay];refine jC rfl ?_;refine am ?_;refine aP (lB H (hM.same x1).p.dr (n:=3) (by decide) (by decide)) ?_;rintro _ X2 ⟨x2,d2,y,rfl,y1,y2⟩;refine⟨⟨x2.1,fun c hc hne=>x2.2 c (Ah hc x1.1) hne⟩,?_⟩;have w1:IntKind.i64.wrap (1+y)=1+y:=wrap_i64 (by omega) (by omega);have he1:=fun(F:Fr) (id:Nat) (h:aD 146 F= .int .i64 (1+y))=>kQ (t:=3) (z:=.int .i64 0) (x:=.t 146) (F:=F) (id:=id) (k:=.i64) (n:=1+y) h;simp only[↓sU,sD,rE,↓reduceIte,rA,w1,he1];refine⟨1+y,by omega,by omega,aq,(by have h9:X1.nx≤X2.nx:=x2.1;omega),⟨Ap x1.1 x2.1,fun c hc hne=>(x2.2 c (Ah hc x1.1) hne).trans (x1.2 c hc)⟩,d2,fun j hj=>?_,by refine⟨?_,?_⟩<;>simp only[↓sU,sD,rE,↓reduceIte,rA]⟩;have:j=0∨j=1∨j=2∨j=3∨j=4∨j=5∨j=6∨j=7∨j=8∨j=9∨j=10∨j=11∨j=12∨j=13∨j=14∨j=15:=by omega
  rcases this with rfl | rfl | rfl | rfl | rfl | rfl | rfl | rfl | rfl | rfl | rfl | rfl | rfl | rfl | rfl | rfl<;>simp only[↓sU,sD,rE,↓reduceIte,rA]
 rintro F' S' ps hs ls ⟨w,w1,w2,rfl,nZ,sZ,dZ,hk,pA,pB⟩ hlast hld;have p4':aD 11 F'= .ptr xb 0:=(hk 11 (by omega)).trans p4;have m1:∀i,i<9→Nat.testBit 511 i=true:=by decide
 have hMZ:=(hM.drawn sZ dZ).1;obtain⟨U,hU⟩:∃U:St,U=⟨S'.h.set (X.nx+8) (some (.cells [.int .i64 w] false 0)),S'.nx⟩:=⟨_,rfl⟩;have nU:U.nx=S'.nx:=by rw[hU]
 have kU:∀c,c≠X.nx+8→U.h.get c=S'.h.get c:=fun c hc=>by rw[hU];simp only;rw[T.get_set,if_neg hc]
 have gU:U.h.get (X.nx+8)=some (.cells [.int .i64 w] false 0):=by rw[hU];simp only;rw[T.get_set,if_pos rfl]
 have lowv:∀ {c},aT pv=some c→Y0.nx≤c∧c<X.nx:=fun hc=>⟨(hg.blk hc).1,(hg.blk hc).2.1⟩;have hgU:gQ 1 ⟨U.h,Y0.nx⟩ U pv l.length (bG l):=hg.move (by omega) fun c hc=>by
  rw[kU c (by have:=(lowv hc).2;omega)];exact sZ.2 c (lowv hc).2 (hb c hc).1.2.1
 obtain⟨pv',V,eA,gA,bA,nA,rA⟩:=gQ.push (bytes:=8) (t:=X.nx+8) (w:=w) hgU ⟨by show Y0.nx≤U.nx;omega,fun _ _=>rfl⟩ gU (by unfold room;omega) (by unfold room;omega);have gxS:S'.h.get xb=some (.cells [k,p,f,xa,pv,xp] false 0):=(sZ.2 xb lxX nxd).trans gx;have gxV:V.h.get xb=some (.cells [k,p,f,xa,pv,xp] false 0):=by
  rw[rA xb (by omega) (fun e=>by have:=(lowv e).1;omega),kU xb (by omega)];exact gxS
 have hbA:∀ {c},aT pv'=some c→c=U.nx:=fun hc=>by rw[bA] at hc;exact(Cl hc).symm
 unfold aMA;refine jR (v:=pv') (S1:=V) (hlast _ m1) (fun call=>?_) ?_
 ·rw[dS (show Nat.testBit 511 8=true by decide),fJ];simp only[fW,pA,pB];rw[←hU];exact eA
 rw[dS (show Nat.testBit 511 8=true by decide)];simp only[nB,dV,aE,aF,aW,aQ,fW,cB,bS,p4',rE,↓reduceIte,rA];have gAc:pv'.cells=some [pv']:=gQ.cells gA;refine jR (v:=.undef) (S1:=⟨V.h.set xb (some (.cells [k,p,f,xa,pv',xp] false 0)),V.nx⟩) (show Nat.testBit 2047 9=true by decide) (fun call=>?_) ?_
 ·rw[dD];simp only[fW,bS,rE,↓reduceIte,cB,gAc,aK];exact xW (cs:=[k,p,f,xa,pv,xp]) (p:=4) (S:=V) gxV (by simp)
 rw[iL];refine⟨?_,?_⟩
 ·simp only[Cn,Ba,Co,Bl,Bh];exact hld _ _ _ m1
 ·simp only[cB,dR];have kV:∀c,c<S'.nx→c≠X.nx+8→c≠xb→aT pv≠some c→(V.h.set xb (some (.cells [k,p,f,xa,pv',xp] false 0))).get c=S'.h.get c:=fun c hc h1 h2 h3=>by
   rw[T.get_set,if_neg h2,rA c (by omega) h3,kU c h1]
  refine hQ _ _ pv' w (fun j hj=>?_) (hMZ.local (by show S'.nx≤V.nx;omega) fun c hc hor=>?_) (by show X.nx≤V.nx;omega) (fun c hc hp h1 h2=>?_) (by simp only;rw[T.get_set,if_pos rfl]) ?_ (fun c hc=>by have:=hbA hc;omega) w1 w2
  ·rw[bS,if_neg (by omega),bS,if_neg (by omega)];exact hk j hj
  ·refine kV c hc (fun e=>?_) (fun e=>?_) (fun e=>?_)
   ·rcases hor with h | h
    ·refine h ⟨by omega,?_,fun e'=>?_,fun e'=>?_,fun e'=>?_⟩
     ·have:=hM.p.dr.lt;omega
     ·have:=(hM.p.nod.blk e').2;omega
     ·have:=(hM.p.inf.blk e').2;omega
     ·have:=(hM.p.vw.blk e').2;omega
    ·exact hP c (by omega) h
   ·rcases hor with h | h
    ·exact h (by rw[e];exact hx.1)
    ·exact hx.2 (by rw[←e];exact h)
   ·rcases hor with h | h
    ·exact h (hb c e).1
    ·exact(hb c e).2 h
  ·simp only;rw[kV c (by omega) (by omega) h1 h2];exact sZ.2 c hc hp.2.1
  ·refine gQ.move (S:=V) (by exact gA) (Ag _) fun c hc=>?_;have:=hbA hc;simp only;rw[T.get_set,if_neg (by omega)]
noncomputable def aQ6:List AO:=[oq 39 (.faddr 5 (.t 4)),
om 40 1 (ld 39),
oq 41 (.faddr 5 (.t 4)),
om 42 4 (ld 41),
om 43 12 (.iaddr (.slice 1) (.t 42) (ci 0)),
om 44 28 (ld 43),
om 45 60 (.un .neg (.t 44)),
om 46 127 (.iaddr (.slice 1) (.t 40) (ci 1))]
noncomputable def aQV:List AO:=[mt 47 0,
om 48 1 (.nilchk (.t 47)),
om 49 3 (.faddr 7 (.t 48)),
om 50 7 (.faddr 1 (.t 49)),
om 51 15 (ld 50),
mt 52 1,
oq 53 (.ld true 6 (.t 4)),
om 54 127 (.iaddr (.slice 6) (.t 51) (.t 52))]
theorem MkP.fresh{P:Nat→Prop}{S0 X:St}{mb db c:Nat}{m:Mk}{LV:List (Int×Int×Int)}(h:MkP P S0 X mb db m LV)(hc:X.nx≤c):PB mb db m c:=
 ⟨by have:=h.lt;omega,by have:=h.dr.lt;omega,fun e=>by have:=(h.nod.blk e).2;omega,fun e=>by have:=(h.inf.blk e).2;omega,fun e=>by have:=(h.vw.blk e).2;omega⟩
theorem lR.setN{P:Nat→Prop}{S0 X:St}{mb db i:Nat}{m:Mk}{LV:List (Int×Int×Int)}{e:List AV}{x:bU}(h:lR P S0 X mb db m LV)(hi:i<m.nodes.length)(he:aCc X (fun c=>PB mb db m c∧P c) e x):
  ∃b p X',eS (.slice 6) m.na i=some (.ptr b p)∧b<X.nx∧lI (.ptr b p) 6 e X=some (.undef,X')∧X'.nx=X.nx∧lR P S0 X' mb db {m with nodes:=m.nodes.set i x} LV∧fD mb db m X {m with nodes:=m.nodes.set i x} X':=by
 have he6:e.length=6:=by obtain⟨_,_,_,rfl,_⟩:=he;rfl
 obtain⟨b,p,X',h1,h2,h3,h4,h5,h6⟩:=h.p.nod.set hi he6 he;have hb:=(h.p.nod.blk h2).2;obtain⟨k1,k2⟩:=h.p.pushN (v':=m.na) (l':=m.nodes.set i x) (X':=X') (by omega) (fun c _ hc=>h6 c fun e=>hc (by rw[e];exact h2)) (fun c hc=>.inl hc) h4;exact⟨b,p,X',h1,hb,h3,h5,⟨k1,(h6 mb fun e=>(h.p.d1 b h2).1 e.symm).trans h.g⟩,k2⟩
structure aNB(ps:Int)(x:bU):Prop where
 kind:x.kind=3
 player:x.player=0
 info:x.info=0
 next:x.next= []
 wts:x.weights= []
 len:((x.pay.length:Nat):Int)=ps
 pay:∀w∈x.pay, -3≤w∧w≤3
theorem aQn{F:Fr}{h:Ev.T AB}{a:Int}:iI (.build [.int .i64 0,.int .i64 0,.int .i64 0,.nilsl,.nilsl,.nilsl] [(0,1,.c (.int .i64 a))]) F h=some (.agg [.int .i64 a,.int .i64 0,.int .i64 0,.nilsl,.nilsl,.nilsl]):=rfl
def aQs(P:Nat→Prop)(S0 X X2:St)(mb db at_:Nat)(m:Mk)(LV:List (Int×Int×Int))(k:Nat)(A:bQ)(Y:St):Prop:=A.inr=false∧lR P S0 Y mb db m LV∧X2.nx≤Y.nx∧(∀c,c<X.nx→PB mb db m c→Y.h.get c=X.h.get c)∧∃ (pv:AV) (l:List Int),l.length+k=m.ps.toNat∧(∀w∈l, -3≤w∧w≤3)∧Y.h.get X.nx=some (.cells [.int .i64 3,.int .i64 0,.int .i64 0,.nilsl,.nilsl,pv] false 0)∧gQ 1 X2 Y pv l.length (bG l)∧(∀c,aT pv=some c→PB mb db m c)∧aD 0 A.F= .ptr mb 0∧aD 1 A.F= .int .i64 (at_:Int)∧aD 4 A.F= .ptr X.nx 0∧aD 5 A.F= .int .i64 ((l.length:Nat):Int)
theorem aJ0{P:Nat→Prop}{S0 X:St}{mb db at_:Nat}{m:Mk}{LV:List (Int×Int×Int)}(H:Has fns)(hM:lR P S0 X mb db m LV)(hat:at_<m.nodes.length)(hps:1≤m.ps∧m.ps≤4):
  fR fns (.fn 45 [] []) [.ptr mb 0,.int .i64 (at_:Int)] X fun _ Z=>∃x,aNB m.ps x∧lR (fun c=>P c∨X.nx≤c) S0 Z mb db {m with nodes:=m.nodes.set at_ x} LV∧fD mb db m X {m with nodes:=m.nodes.set at_ x} Z:=by
 have hM0:lR (fun c=>P c∧c<X.nx) S0 X mb db m LV:=hM.mono fun c hc hp=>⟨hp,hc⟩;have hbld:=fun(F:Fr) (h:Ev.T AB)=>aQn (F:=F) (h:=h) (a:=3);refine cE H.f45 (by simp) ?_;refine am ?_;refine cC ?_;simp only[↓aA,aB,rE,↓reduceIte,rA,hbld];refine cR ?_;intro X1 x1 n1 g1;refine fC (b:=X.nx) (cs':=[.int .i64 3,.int .i64 0,.int .i64 0,.nilsl,.nilsl,.nilsl]) (ai) (by simp only[↓aA,aB,rE,↓reduceIte,rA];exact bM _) g1 rfl rfl ?_;intro X2 x2 n2 g2;simp only[↓aA,aB,rE,↓reduceIte,rA];have s2:Same X X2:=x2.same x1 (Ag _);have hM2:=hM0.same s2;have lx:X.nx<X2.nx:=by omega
 have hfx:PB mb db m X.nx:=hM.p.fresh (Ag _);refine aC (bD (Q:=fun o A' Y=>o= .normal∧aQs (fun c=>P c∧c<X.nx) S0 X X2 mb db at_ m LV 0 A' Y) (aC (aG ?_)) ?_)
 ·refine am ?_;refine aN (bT (aQs (fun c=>P c∧c<X.nx) S0 X X2 mb db at_ m LV) ?_ m.ps.toNat _ _ ⟨rfl,hM2,Ag _,fun c hc _=>s2.2 c hc,.nilsl,[],by simp,fun w hw=>(by cases hw),g2,.inl ⟨rfl,rfl,rfl⟩,fun c hc=>(by cases hc),aq,aq,aq,ar⟩);rintro k ⟨F,inr⟩ Y ⟨q0,hY,nY,kY,pv,l,hlk,hwl,gY,hg,hb,p0,p1,p4,p5⟩;simp only at q0 p0 p1 p4 p5;subst q0;have f7:=cS (p:=7) hY.g rfl;have hps':((m.ps.toNat:Nat):Int)=m.ps:=Int.toNat_of_nonneg (by omega);refine iP ?_;simp only[↓sU,sD,rE,↓reduceIte,rA,p0,p5,bE,bF,aE,aF,f7];by_cases hlt:((l.length:Nat):Int)<m.ps;rotate_left
  ·refine aO (by simp only[↓sU,sD,rE,↓reduceIte,rA,Aa hlt]) (bK ?_);simp only[↓sU,sD,rE,↓reduceIte,rA];obtain rfl:k=0:=by omega
   exact⟨rfl,hY,nY,kY,pv,l,hlk,hwl,gY,hg,hb,by refine⟨?_,?_,?_,?_⟩<;>simp only[↓sU,sD,rE,↓reduceIte,rA,p0,p1,p4,p5]⟩
  refine aR (by simp only[↓sU,sD,rE,↓reduceIte,rA,Ad hlt]) (aM ?_);try simp only[↓sU,sD,rE,↓reduceIte,rA]
  have w1:IntKind.i64.wrap (((l.length:Nat):Int)+1)=((l.length+1:Nat):Int):=by rw[wrap_i64 (by omega) (by omega)];omega
  refine aC (aN ?_);refine aLy (Y0:=X2) (mb:=mb) (db:=db) (xb:=X.nx) (m:=m) (LV:=LV) (pv:=pv) (l:=l) H rfl hY (au p0) (au p4) gY ⟨hfx,fun h=>Nat.lt_irrefl _ h.2⟩ lx nY hg (fun c hc=>⟨hb c hc,fun h=>by have:=(hg.blk hc).1;omega⟩) (fun c hc h=>by omega) (by omega) ?_;intro F' Z pv' w hk hZ nZ kZ gZ hgZ hbZ w2 w3;have q0:=hk 0 (by omega);have q1:=hk 1 (by omega);have q4:=hk 4 (by omega);have q5:=hk 5 (by omega);simp only[↓sU,sD,rE,↓reduceIte,rA,p0,p1,p4,p5] at q0 q1 q4 q5;try simp only[↓sU,sD,rE,↓reduceIte,rA]
  refine aG ?_;simp only[↓sU,sD,rE,↓reduceIte,rA,q5,w1];exact⟨k - 1,by omega,rfl,hZ,by omega,fun c hc hp=>(kZ c (by omega) hp (by omega) (fun e=>by have:=(hg.blk e).1;omega)).trans (kY c hc hp),pv',l++ [w],by rw[Ai,An];omega,fun v hv=>by
   rcases Bf.1 hv with h | h
   ·exact hwl v h
   ·rw[Cb.1 h];exact⟨w2,w3⟩,gZ,hgZ,fun c hc=>hY.p.fresh (hbZ c hc),au q0,au q1,au q4,by simp only[↓sU,sD,rE,↓reduceIte,rA];rw[Ai,An]⟩
 rintro o ⟨F,inr⟩ Y ⟨rfl,q0,hY,nY,kY,pv,l,hlk,hwl,gY,hg,hb,p0,p1,p4,p5⟩;simp only at q0 p0 p1 p4;subst q0;have hps':((m.ps.toNat:Nat):Int)=m.ps:=Int.toNat_of_nonneg (by omega);have f5:=cS (p:=5) hY.g rfl;have f7:=cS (p:=7) hY.g rfl;have lpv:=cS (p:=5) gY rfl;have lxY:X.nx<Y.nx:=by omega
 try simp only[↓sU,sD,rE,↓reduceIte,rA]
 refine aC (bD (Q:=fun o A' Z=>o= .normal∧A'.inr=false∧lR (fun c=>P c∧c<X.nx) S0 Z mb db m LV∧X2.nx≤Z.nx∧(∀c,c<X.nx→PB mb db m c→Z.h.get c=X.h.get c)∧(∃l':List Int,l'.length=m.ps.toNat∧(∀w∈l', -3≤w∧w≤3)∧Z.h.get X.nx=some (.cells [.int .i64 3,.int .i64 0,.int .i64 0,.nilsl,.nilsl,pv] false 0)∧gQ 1 X2 Z pv l'.length (bG l'))∧aD 0 A'.F= .ptr mb 0∧aD 1 A'.F= .int .i64 (at_:Int)∧aD 4 A'.F= .ptr X.nx 0) (aC (aG ?_)) ?_)
 ·by_cases hz:m.zero=true∧m.ps=2
  ·obtain⟨hz,hp2⟩:=hz;rw[hz] at f5;simp only[↓sU,sD,rE,↓reduceIte,rA,p0,bE,bF,aE,aF,f5,f7];refine aR (by simp only[↓sU,sD,rE,↓reduceIte,rA,Ad hp2]) ?_;have hl2:l.length=2:=by omega
   have hl0:0<l.length:=by omega
   have hl1:1<l.length:=by omega
   have hIs:=hg.is;have i0:=hIs.iaddr hl0;have i1:=hIs.iaddr hl1;have v0:=hIs.ld hl0;have spv:=hg.self;rcases hg with⟨_,h,_⟩ | ⟨b,rfl,hb0,hb1,hbg,hbl⟩
   ·omega
   have eia:∀j,eS (.slice 1) (.sl b 0 l.length l.length true) j=if j<l.length then some (.ptr b (0+j * 1)) else none:=fun j=>by
    show bN (Nat.blt j l.length) _ _=_;rw[cF];by_cases h:j<l.length
    ·rw[if_pos h,if_pos (show Nat.blt j l.length=true from Aj h)]
    ·rw[if_neg h,if_neg (show ¬Nat.blt j l.length=true from fun e=>h (Ar (show Nat.ble (j+1) l.length=true from e)))]
   have i1':=eia 1;rw[if_pos hl1] at i1';have hw0:=hwl _ (aM7 hl0);have w1:IntKind.i64.wrap (-(l.getD 0 0))= -(l.getD 0 0):=wrap_i64 (by omega) (by omega);refine qQ (pre:=aQ6) (K:=8) (m:=255) (n:=1) (x:=.t 46) (v:=.t 45) rfl rfl rfl rfl ?_;unfold aQ6;simp only[↓sU,sD,rE,↓reduceIte,rA,p4,aE,aW,aF,lpv,spv,aPA,i0,v0,aGn,w1,show fB (.int .i64 1)=some 1 from rfl,i1'];simp only[cQ,aK];have hst:=aCg (S:=⟨Y.h,Y.nx+9⟩) (p:=0+1 * 1) (w:= -(l.getD 0 0)) hbg (by omega);refine⟨_,hst,?_⟩;have hbb:PB mb db m b:=hb b rfl;refine⟨hY.local (Dd _ _) fun c hc hor=>?_,by show X2.nx≤Y.nx+9;omega,fun c hc hp=>?_,⟨l.set (0+1 * 1) (-(l.getD 0 0)),by rw[Bm];omega,fun w hw=>?_,?_,.inr ⟨b,by rw[Bm],hb0,by show b<Y.nx+9;omega,by simp only;rw[T.get_set,if_pos rfl],by simp [bG]⟩⟩,p0,p1⟩
   ·simp only;rw[T.get_set,if_neg];intro e;subst e;rcases hor with h | h
    ·exact h hbb
    ·have:=h.2;omega
   ·simp only;rw[T.get_set,if_neg (by omega)];exact kY c hc hp
   ·rcases List.mem_or_eq_of_mem_set hw with h | h
    ·exact hwl w h
    ·omega
   ·simp only;rw[T.get_set,if_neg (by omega)];exact gY
  ·have hres:∀ (o:Out) (A':bQ) (Z:St),True:=fun _ _ _=>trivial;have fin:(∃l':List Int,l'.length=m.ps.toNat∧(∀w∈l', -3≤w∧w≤3)∧Y.h.get X.nx=some (.cells [.int .i64 3,.int .i64 0,.int .i64 0,.nilsl,.nilsl,pv] false 0)∧gQ 1 X2 Y pv l'.length (bG l')):=⟨l,by omega,hwl,gY,hg⟩;cases hzz:m.zero with
   | false=>
    rw[hzz] at f5;simp only[↓sU,sD,rE,↓reduceIte,rA,p0,bE,bF,aE,aF,f5];refine aO (aq) (aM ?_);simp only[↓sU,sD,rE,↓reduceIte,rA,p0,p1,p4];exact⟨hY,nY,kY,fin⟩
   | true=>
    rw[hzz] at f5;simp only[↓sU,sD,rE,↓reduceIte,rA,p0,bE,bF,aE,aF,f5,f7];refine aO (by simp only[↓sU,sD,rE,↓reduceIte,rA,Aa (show ¬m.ps=2 from fun h=>hz ⟨hzz,h⟩)]) (aM ?_);simp only[↓sU,sD,rE,↓reduceIte,rA,p0,p1,p4];exact⟨hY,nY,kY,fin⟩
 clear p0 p1 p4 p5 f5 f7 lpv lxY hg hb hwl gY kY nY hY hlk l;rintro o ⟨F,inr⟩ Z ⟨rfl,q0,hZ,nZ,kZ,⟨l,hll,hwl,gZ,hg⟩,p0,p1,p4⟩;simp only at q0 p0 p1 p4;subst q0;try simp only[↓sU,sD,rE,↓reduceIte,rA]
 have f8:=cS (p:=8) hZ.g rfl;have lag:=ldN gZ;have sna:=hZ.p.nod.self;have spv:=hg.self;have sx:=aGg (k:=.i64) (x0:=3) (x1:=0) (x2:=0) (a:=.nilsl) (b:=.nilsl) (c:=pv) rfl rfl spv;have hZ':lR (fun c=>P c∨X.nx≤c) S0 ⟨Z.h,Z.nx+9⟩ mb db m LV:=(hZ.same (Same.nx Z 9)).mono fun c _ h=>.inl h.1;have hIs:cD .i64 ⟨Z.h,Z.nx+9⟩ pv l:=(hg.step (Same.nx Z 9)).is;obtain⟨b,p,X',e1,e2,e3,e4,e5,e6⟩:=hZ'.setN (i:=at_) (e:=[.int .i64 3,.int .i64 0,.int .i64 0,.nilsl,.nilsl,pv]) (x:=⟨3,0,0,[],[],l⟩) hat ⟨.nilsl,.nilsl,pv,rfl,.inl ⟨rfl,.inl rfl⟩,.inl ⟨rfl,.inl rfl⟩,hIs,fun c hc=>by
  rcases hc with hc | hc | hc
  ·cases hc
  ·cases hc
  ·have h9:=(hg.blk hc).1;exact⟨hM.p.fresh (by omega),.inr (by omega)⟩⟩
 refine qQ (pre:=aQV) (K:=8) (m:=255) (n:=6) (x:=.t 54) (v:=.t 53) rfl rfl rfl rfl ?_;unfold aQV;simp only[↓sU,sD,rE,↓reduceIte,rA,p0,p1,p4,bE,bO,bF,aE,aW,aF,f8,sna,lag,sx,aH,e1];rw[show(AV.agg [.int .i64 3,.int .i64 0,.int .i64 0,.nilsl,.nilsl,pv]).cells=some [.int .i64 3,.int .i64 0,.int .i64 0,.nilsl,.nilsl,pv] from bM _,aK];refine⟨X',e3,_,rfl,⟨3,0,0,[],[],l⟩,⟨rfl,rfl,rfl,rfl,rfl,by show((l.length:Nat):Int)=_;omega,hwl⟩,e5,⟨by rw[e4];show X.nx≤Z.nx+9;omega,fun c hc hp=>?_⟩⟩;obtain⟨k1,k2⟩:=e6.2 c (by show c<Z.nx+9;omega) hp;exact⟨k1.trans (kZ c hc hp),k2⟩
def hot(o:AO):Bool:=match o.op with | .q q=>dC q | .a _=>false | .x _=>true
def aL0(I:Nat→Prop)(D:DS):Prop:=(∀e∈D.hs,I e.1)∧∀l∈D.ls,I l.i
theorem aNR{I:Nat→Prop}{call:eU}{o:AO}{i base:Nat}{D D':DS}(h:rC o i base call D=some D')(hi:hot o=true→I i)(hD:aL0 I D):aL0 I D':=by
 unfold rC at h;cases hw:eI o.grd D.F with
 | false=>rw[hw,aQ] at h;cases h;exact hD
 | true=>
  rw[hw,aL] at h;obtain⟨d,op,g,m⟩:=o;cases op with
  | q q=>
   have h:aX (iI q D.F D.S.h) (fun v=>some (⟨cI d D.F v,D.S,D.ps,D.hs,bN (dC q) (⟨q,D.F,v,i,m⟩::D.ls) D.ls⟩:DS))=some D':=h;cases he:iI q D.F D.S.h with
   | none=>rw[he] at h;cases h
   | some v=>
    rw[he,aK] at h;cases h;refine⟨hD.1,fun l hl=>?_⟩;simp only at hl;cases hq:dC q with
    | false=>rw[hq,aQ] at hl;exact hD.2 l hl
    | true=>
     rw[hq,aL] at hl;rcases Bi.1 hl with rfl | hl
     ·exact hi hq
     ·exact hD.2 l hl
  | a a=>
   have h:aX (tQ a D.F (base+i)) (fun r=>some (⟨cI d D.F r.1,D.S,⟨i,base+i,r.2⟩::D.ps,D.hs,D.ls⟩:DS))=some D':=h;cases he:tQ a D.F (base+i) with
   | none=>rw[he] at h;cases h
   | some v=>rw[he,aK] at h;cases h;exact hD
  | x x=>
   have h:bN (iS D.hs m) (aX (zX x call D.F ⟨(cG m D.ps D.S.h).2,D.S.nx⟩) fun r=>some (⟨cI d D.F r.1,r.2,(cG m D.ps D.S.h).1,(i,m,r.2.h)::D.hs,D.ls⟩:DS)) none=some D':=h;cases hl:iS D.hs m with
   | false=>rw[hl,aQ] at h;cases h
   | true=>
    rw[hl,aL] at h;cases he:zX x call D.F ⟨(cG m D.ps D.S.h).2,D.S.nx⟩ with
    | none=>rw[he] at h;cases h
    | some v=>
     rw[he,aK] at h;cases h;refine⟨fun e he=>?_,hD.2⟩;rcases Bi.1 he with rfl | he
     ·exact hi rfl
     ·exact hD.1 e he
theorem aHc{I:Nat→Prop}{call:eU}{base:Nat}:∀ {l:List AO} {i:Nat} {D D':DS},vJ l i base call D=some D'→(∀j o,l[j]? =some o→hot o=true→I (i+j))→aL0 I D→aL0 I D'
 | [],i,D,D',h,_,hD=>by cases h;exact hD
 | o::os,i,D,D',h,hI,hD=>by
  have h:aX (rC o i base call D) (fun D'=>vJ os (i+1) base call D')=some D':=h;cases he:rC o i base call D with
  | none=>rw[he] at h;cases h
  | some D1=>
   rw[he,aK] at h;exact aHc h (fun j o' hj ho=>by have:=hI (j+1) o' hj ho;rwa [show i+1+j=i+(j+1) by omega]) (aNR he (fun ho=>hI 0 o rfl ho) hD)
theorem aC2{W:Nat→Prop}{h0:T AB}{base K m:Nat}{h':T AB}{r:List (Nat×Nat×T AB)}{l:jW}(h:cM l.v l.v=true∧aFa W base l.q l.F∧iI l.q l.F h0=some l.v)(hl:l.mask<2 ^ K)(hm:Nat.testBit m l.i=true):∀ {hs:List (Nat×Nat×T AB)} {h1:T AB},(∀e∈hs,∀b,b<base→¬W b→e.2.2.get b=h0.get b)→(∀b,b<base→¬W b→h1.get b=h0.get b)→fY l (hs++(K,m,h')::r) h1=true
 | [],h1,_,hh=>by
  have e1:nN l.v (iI l.q l.F h1)=true:=by rw[h.2.1.ev hh,h.2.2];exact h.1
  have e2:Nat.testBit l.mask K=false:=Nat.testBit_lt_two_pow hl;show fY l ((K,m,h')::r) h1=true;unfold fY;rw[e2,aQ,e1,aL,hm,aL]
 | (i,mm,h2)::rr,h1,hs,hh=>by
  have e1:nN l.v (iI l.q l.F h1)=true:=by rw[h.2.1.ev hh,h.2.2];exact h.1
  have e2:fY l (rr++(K,m,h')::r) h2=true:=aC2 h hl hm (fun e he=>hs e (by simp [he])) (hs (i,mm,h2) (by simp));show fY l ((i,mm,h2)::(rr++(K,m,h')::r)) h1=true;unfold fY;rw[e1,e2];cases Nat.testBit l.mask i<;>cases Nat.testBit mm l.i<;>rfl
theorem aCz(m0:Nat){W:Nat→Prop}{ops pre suf:List AO}{K:Nat}{A:bQ}{S:St}{Q:Out→bQ→St→Prop}{R:Fr→St→List iM→Prop}(he:ops=pre++suf)(hK:pre.length=K)(hm:(pre.all fun o=>decide (o.mask<2 ^ K))=true)(hI:((List.range K).all fun j=>match pre[j]? with | some o=> !hot o || Nat.testBit m0 j | none=>true)=true)
  (h:∀S1,Same S S1→S1.h=S.h→S1.nx=S.nx+ops.length→gG fns W S.h S.nx pre 0 A.F S1 [] none R)
  (h2:∀F S' ps hs ls,R F S' ps→iS hs m0=true→(∀h' r,fK S.h (hs.reverse++(K,m0,h')::r) ls=true)→xF fns suf K S.nx ⟨F,S',ps,hs,ls⟩ fun D'=>fK S.h D'.hs.reverse D'.ls=true∧Q .normal ⟨D'.F,A.inr⟩ ⟨(cG (2 ^ ops.length - 1) D'.ps D'.S.h).2,D'.S.nx⟩):lJ fns (.drw ops) A S Q:=by
 refine wZ ?_;obtain⟨n,D',e1,e2,e3⟩:=lM (fns:=fns) (i:=0) (D:=⟨A.F,⟨S.h,S.nx+ops.length⟩,[],[],[]⟩) (last:=none) ⟨fun _ _ _=>rfl,Dd _ _,fun e he=>(by cases he),fun l hl=>(by cases hl),fun p hp=>(by cases hp)⟩ rfl (h ⟨S.h,S.nx+ops.length⟩ (Same.nx S _) rfl rfl);have low:Low K D':=aDD e1 (by omega) (fun o ho=>by have:=Dt.1 hm o ho;simpa using this) ⟨fun e he=>(by cases he),fun l hl=>(by cases hl)⟩;have idx:aL0 (fun i=>Nat.testBit m0 i=true) D':=aHc e1 (fun j o hj ho=>by
  have hlt:j<K:=by rw[←hK];exact(Af.1 hj).1
  have:=Dt.1 hI j (Fz.2 hlt);rw[hj] at this;simp only[ho,Bp,Bool.false_or] at this
  rwa [Ao]) ⟨fun e he=>(by cases he),fun l hl=>(by cases hl)⟩
 obtain⟨F,S',ps,hs,ls⟩:=D';have hh:=h2 F S' ps hs ls e2 (by
  cases hs with
  | nil=>rfl
  | cons e r=>exact idx.1 e (Cd ..)) (fun h' r=>oB fun l hl=>aC2 (e3.lds l hl) (low.2 l hl).2 (idx.2 l hl) (fun e he=>e3.chain e (List.mem_reverse.1 he)) (fun _ _ _=>rfl))
 have:xF fns ops 0 S.nx ⟨A.F,⟨S.h,S.nx+ops.length⟩,[],[],[]⟩ fun D'=>fK S.h D'.hs.reverse D'.ls=true∧Q .normal ⟨D'.F,A.inr⟩ ⟨(cG (2 ^ ops.length - 1) D'.ps D'.S.h).2,D'.S.nx⟩:=by
  subst he;refine aIW ⟨n,_,e1,?_⟩;rw[Ao,hK];exact hh
 exact this
theorem aP0{t:Nat}{x:cK}{F:Fr}{id:Nat}{a b c d z0 z1 z2 z3:AV}(hx:x.val F= .agg [a,b,c,d]):tQ (.bslice t 4 1 [z0,z1,z2,z3] [(0,x)]) F id=some (.sl id 0 1 1 false,.cells [a,b,c,d] false 0):=by
 show(aX (fG (repeatL [z0,z1,z2,z3] 1) [(0 * 4,4,x.val F)]) fun cs=>some (AV.sl id 0 1 1 false,AB.cells cs false 0))=_;rw[hx];show(aX (aX (AV.cells (.agg [a,b,c,d])) _) _)=_;rw[bM,aK];rfl
theorem aPm{t:Nat}{x:cK}{F:Fr}{id:Nat}{a b c z0 z1 z2:AV}(hx:x.val F= .agg [a,b,c]):tQ (.bslice t 3 1 [z0,z1,z2] [(0,x)]) F id=some (.sl id 0 1 1 false,.cells [a,b,c] false 0):=by
 show(aX (fG (repeatL [z0,z1,z2] 1) [(0 * 3,3,x.val F)]) fun cs=>some (AV.sl id 0 1 1 false,AB.cells cs false 0))=_;rw[hx];show(aX (aX (AV.cells (.agg [a,b,c])) _) _)=_;rw[bM,aK];rfl
theorem aPW{t:Nat}{x:cK}{F:Fr}{id:Nat}{a b z0 z1:AV}(hx:x.val F= .agg [a,b]):tQ (.bslice t 2 1 [z0,z1] [(0,x)]) F id=some (.sl id 0 1 1 false,.cells [a,b] false 0):=by
 show(aX (fG (repeatL [z0,z1] 1) [(0 * 2,2,x.val F)]) fun cs=>some (AV.sl id 0 1 1 false,AB.cells cs false 0))=_;rw[hx];show(aX (aX (AV.cells (.agg [a,b])) _) _)=_;rw[bM,aK];rfl
theorem aL6{S:St}{t n:Nat}{cs:List AV}{o:Bool}{sz:Nat}(h:S.h.get t=some (.cells cs o sz))(hn:cs.length=n):eG (.sl t 0 1 1 false) S.h n 1=some cs:=by
 show aX (cL S.h t) (fun c=>cut c 0 (1 * n))=_;unfold cL;rw[h];show cut cs 0 (1 * n)=some cs;unfold cut;rw[fI,fT,Ct,Fm,if_pos (by omega),Bj (by omega)]
theorem aRD{F:Fr}{h:Ev.T AB}{pl lev n:Int}{sv:AV}(h50:aD 50 F= .int .i64 pl)(h51:aD 51 F= .int .i64 lev)(h52:aD 52 F=sv)(h58:aD 58 F= .int .i64 n)(hc:sv.cells=some [sv]):iI (.build [.int .i64 0,.int .i64 0,.nilsl,.int .i64 0] [(0,1,.t 50),(1,1,.t 51),(2,1,.t 52),(3,1,.t 58)]) F h=some (.agg [.int .i64 pl,.int .i64 lev,sv,.int .i64 n]):=by
 show(aX (fG _ (eT F [(0,1,.t 50),(1,1,.t 51),(2,1,.t 52),(3,1,.t 58)])) fun cs=>some (AV.agg cs))=_;simp only[eT,show(cK.t 50).val F= .int .i64 pl from h50,show(cK.t 51).val F= .int .i64 lev from h51,show(cK.t 52).val F=sv from h52,show(cK.t 58).val F= .int .i64 n from h58,fG,cQ,hc,aK];rfl
theorem aRA{F:Fr}{h:Ev.T AB}{pl a:Int}(h70:aD 70 F= .int .i64 pl)(h76:aD 76 F= .int .i64 a):iI (.build [.int .i64 0,.int .i64 0] [(0,1,.t 70),(1,1,.t 76)]) F h=some (.agg [.int .i64 pl,.int .i64 a]):=by
 show(aX (fG _ (eT F [(0,1,.t 70),(1,1,.t 76)])) fun cs=>some (AV.agg cs))=_;simp only[eT,show(cK.t 70).val F= .int .i64 pl from h70,show(cK.t 76).val F= .int .i64 a from h76,fG,cQ,aK];rfl
theorem fD.put{mb db:Nat}{m:Mk}{X:St}{w:Option AB}:fD mb db m X m ⟨X.h.set mb w,X.nx⟩:=
 ⟨Ag _,fun c _ hp=>⟨by simp only;rw[T.get_set,if_neg hp.1],hp⟩⟩
theorem aNf{k:IntKind}{X:St}{v:AV}{l:List Int}(h:cD k X v l):v.cells=some [v]:=cD.cells h
def aQA(X:St)(F:Fr)(mb:Nat)(va sv:AV)(pl lev n:Int)(F':Fr)(Z:St)(ps:List iM):Prop:=ps= [⟨15,X.nx+15,.cells [.int .i64 pl,.int .i64 lev,sv,.int .i64 n] false 0⟩]∧Z.h=X.h∧Z.nx=X.nx+20∧(∀j,j<10→aD j F'=aD j F)∧aD 45 F'= .ptr mb 0∧aD 49 F'=va∧aD 60 F'= .sl (X.nx+15) 0 1 1 false
theorem aME{ops:List AO}{P:Nat→Prop}{S0 X:St}{F:Fr}{inr:Bool}{mb db:Nat}{m:Mk}{LV:List (Int×Int×Int)}{pl lev:Int}{sv:AV}{l:List Int}{Q:Out→bQ→St→Prop}(he:ops=aLk++aLR)(hM:lR P S0 X mb db m LV)(hS:S0.nx≤X.nx)(p0:aD 0 F= .ptr mb 0)(p1:aD 1 F= .int .i64 pl)(p2:aD 2 F= .int .i64 lev)(p3:aD 3 F=sv)(hs:cD .i64 X sv l)(hl:l.length≤1000)(hsb:∀c,aT sv=some c→PB mb db m c∧P c)(hv:m.views.length≤100000)
  (hQ:∀F' Z va',(∀j,j<10→aD j F'=aD j F)→lR P S0 Z mb db {m with va:=va',views:=m.views++ [(pl,lev,((m.infos.length:Nat):Int))]} LV→fD mb db m X {m with va:=va',views:=m.views++ [(pl,lev,((m.infos.length:Nat):Int))]} Z→Q .normal ⟨F',inr⟩ Z):lJ fns (.drw ops) ⟨F,inr⟩ X Q:=by
 have hlen:ops.length=20:=by rw[he];rfl
 have lmX:=hM.p.lt;have f2:=cS (p:=2) hM.g rfl;have f9:=cS (p:=9) hM.g rfl;have sva:=hM.p.vw.self;have sia:=hM.p.inf.self;refine aCz 65534 (W:=fun _=>False) (K:=16) (R:=aQA X F mb m.va sv pl lev ((m.infos.length:Nat):Int)) he rfl rfl rfl (fun X1 x1 hh1 nn1=>?_) ?_
 ·have hbl:=fun(F:Fr) (h:Ev.T AB) (a:aD 50 F= .int .i64 pl) (b:aD 51 F= .int .i64 lev) (c:aD 52 F=sv) (d:aD 58 F= .int .i64 ((m.infos.length:Nat):Int))=>aRD (F:=F) (h:=h) a b c d (aNf hs);have hib:dC (.build [.int .i64 0,.int .i64 0,.nilsl,.int .i64 0] [(0,1,.t 50),(1,1,.t 51),(2,1,.t 52),(3,1,.t 58)])=false:=rfl;have he1:=fun(F:Fr) (id:Nat) (h:aD 59 F= .agg [.int .i64 pl,.int .i64 lev,sv,.int .i64 ((m.infos.length:Nat):Int)])=>aP0 (t:=104) (z0:=.int .i64 0) (z1:=.int .i64 0) (z2:=.nilsl) (z3:=.int .i64 0) (x:=.t 59) (F:=F) (id:=id) h;unfold aLk;simp only[↓sU,sD,rE,↓reduceIte,rA,p0,p1,p2,p3,bE,bO,bF,aE,aW,aF,f2,f9,sva,sia,lmX,Ay,hM.p.inf.len,hbl,hib,he1];refine⟨rfl,hh1,by rw[nn1,hlen],fun j hj=>?_,by refine⟨?_,?_,?_⟩<;>simp only[↓sU,sD,rE,↓reduceIte,rA]⟩;have:j=0∨j=1∨j=2∨j=3∨j=4∨j=5∨j=6∨j=7∨j=8∨j=9:=by omega
  rcases this with rfl | rfl | rfl | rfl | rfl | rfl | rfl | rfl | rfl | rfl<;>simp only[↓sU,sD,rE,↓reduceIte,rA]
 rintro F' S' ps hs' ls ⟨rfl,hZ,nZ,hk,pA,pB,pC⟩ hlast hld;obtain⟨U,hU⟩:∃U:St,U=⟨S'.h.set (X.nx+15) (some (.cells [.int .i64 pl,.int .i64 lev,sv,.int .i64 ((m.infos.length:Nat):Int)] false 0)),S'.nx⟩:=⟨_,rfl⟩;have nU:U.nx=X.nx+20:=by rw[hU];exact nZ
 have sUx:Same X U:=⟨by omega,fun c hc=>by rw[hU];simp only;rw[T.get_set,if_neg (by omega),hZ]⟩;have gU:U.h.get (X.nx+15)=some (.cells [.int .i64 pl,.int .i64 lev,sv,.int .i64 ((m.infos.length:Nat):Int)] false 0):=by rw[hU];simp only;rw[T.get_set,if_pos rfl]
 have hMU:=hM.same sUx;obtain⟨v',V,eA,aV,nV,kV,bV⟩:=hMU.p.vw.push (bytes:=48) (x:=.sl (X.nx+15) 0 1 1 false) (a:=(pl,lev,((m.infos.length:Nat):Int))) (by decide) (by omega) rfl (aL6 gU rfl) rfl ⟨sv,l,rfl,hs.same sUx,hl,hsb⟩ (by unfold room;omega) (by unfold room;omega);obtain⟨kP,kM⟩:=hMU.p.pushV nV kV bV aV;have gmV:V.h.get mb=some (.cells (dL db m) false 0):=(kV mb hMU.p.lt fun e=>(hMU.p.d3 mb e).1 rfl).trans hMU.g;unfold aLR;refine jR (v:=v') (S1:=V) hlast (fun call=>?_) ?_
 ·rw[dS (show Nat.testBit 65534 15=true by decide),fJ];simp only[fW,pB,pC];rw[←hU];exact eA
 rw[dS (show Nat.testBit 65534 15=true by decide)];simp only[nB,dV,bE,bO,bF,aE,aF,aW,aQ,fW,cB,bS,pA,rE,↓reduceIte,rA];have gAc:v'.cells=some [v']:=aV.cells;refine jR (v:=.undef) (S1:=⟨V.h.set mb (some (.cells (dL db {m with va:=v',views:=m.views++ [(pl,lev,((m.infos.length:Nat):Int))]}) false 0)),V.nx⟩) (show Nat.testBit 524287 16=true by decide) (fun call=>?_) ?_
 ·rw[dD];simp only[fW,bS,rE,↓reduceIte,cB,gAc,aK];exact xW (cs:=dL db m) (p:=2) (S:=V) gmV (show 2<10 by omega)
 rw[iL];refine⟨?_,?_⟩
 ·simp only[Cn,Ba,Co,Bl,Bh];exact hld _ _
 ·simp only[cB,dR];refine hQ _ _ v' (fun j hj=>?_) (kP.put (by simp only;rw[T.get_set,if_pos rfl]) (Ag _) fun c _ hne=>by simp only;rw[T.get_set,if_neg hne]) (((fD.same sUx).trans kM).trans fD.put);rw[bS,if_neg (by omega),bS,if_neg (by omega),bS,if_neg (by omega)];exact hk j hj
def aQy(X:St)(F:Fr)(mb db:Nat)(ia lv:AV)(dl:List Int)(pl:Int)(F':Fr)(Z:St)(ps:List iM):Prop:=∃a:Int,1≤a∧a≤3∧ps= [⟨14,X.nx+14,.cells [.int .i64 pl,.int .i64 a] false 0⟩]∧X.nx+20≤Z.nx∧bJ db X Z∧qJ Z db lv dl∧(∀j,j<10→aD j F'=aD j F)∧aD 64 F'= .ptr mb 0∧aD 69 F'=ia∧aD 78 F'= .sl (X.nx+14) 0 1 1 false
theorem aMJ{ops:List AO}{P:Nat→Prop}{S0 X:St}{F:Fr}{inr:Bool}{mb db:Nat}{m:Mk}{LV:List (Int×Int×Int)}{pl:Int}{Q:Out→bQ→St→Prop}(H:Has fns)(he:ops=aNd++aLt)(hM:lR P S0 X mb db m LV)(hS:S0.nx≤X.nx)(p0:aD 0 F= .ptr mb 0)(p1:aD 1 F= .int .i64 pl)(hv:m.infos.length≤100000)
  (hQ:∀F' Z ia' a,(∀j,j<10→aD j F'=aD j F)→1≤a→a≤3→lR P S0 Z mb db {m with ia:=ia',infos:=m.infos++ [⟨pl,a⟩]} LV→fD mb db m X {m with ia:=ia',infos:=m.infos++ [⟨pl,a⟩]} Z→Q .normal ⟨F',inr⟩ Z):lJ fns (.drw ops) ⟨F,inr⟩ X Q:=by
 have hlen:ops.length=20:=by rw[he];rfl
 have lmX:=hM.p.lt;have nmd:=hM.p.ne;have f0:=cS (p:=0) hM.g rfl;have f9:=cS (p:=9) hM.g rfl;have sia:=hM.p.inf.self;refine aCz 32766 (W:=fun c=>c=db) (K:=15) (R:=aQy X F mb db m.ia m.lv m.dl pl) he rfl rfl rfl (fun X1 x1 hh1 nn1=>?_) ?_
 ·unfold aNd;simp only[↓sU,sD,rE,↓reduceIte,rA,p0,p1,bE,bO,bF,aE,aW,aF,f0,f9,sia,lmX,nmd,Ay];refine jC rfl ?_;refine am ?_;refine aP (lB H (hM.same x1).p.dr (n:=3) (by decide) (by decide)) ?_;rintro _ X2 ⟨x2,d2,y,rfl,y1,y2⟩;refine⟨⟨x2.1,fun c hc hne=>x2.2 c (Ah hc x1.1) hne⟩,?_⟩;have w1:IntKind.i64.wrap (1+y)=1+y:=wrap_i64 (by omega) (by omega);have hbl:=fun(F:Fr) (h:Ev.T AB) (a:aD 70 F= .int .i64 pl) (b:aD 76 F= .int .i64 (1+y))=>aRA (F:=F) (h:=h) a b;have hib:dC (.build [.int .i64 0,.int .i64 0] [(0,1,.t 70),(1,1,.t 76)])=false:=rfl;have he1:=fun(F:Fr) (id:Nat) (h:aD 77 F= .agg [.int .i64 pl,.int .i64 (1+y)])=>aPW (t:=73) (z0:=.int .i64 0) (z1:=.int .i64 0) (x:=.t 77) (F:=F) (id:=id) h;simp only[↓sU,sD,rE,↓reduceIte,rA,w1,hbl,hib,he1];refine⟨1+y,by omega,by omega,aq,(by have h9:X1.nx≤X2.nx:=x2.1;omega),⟨Ap x1.1 x2.1,fun c hc hne=>(x2.2 c (Ah hc x1.1) hne).trans (x1.2 c hc)⟩,d2,fun j hj=>?_,by refine⟨?_,?_,?_⟩<;>simp only[↓sU,sD,rE,↓reduceIte,rA]⟩;have:j=0∨j=1∨j=2∨j=3∨j=4∨j=5∨j=6∨j=7∨j=8∨j=9:=by omega
  rcases this with rfl | rfl | rfl | rfl | rfl | rfl | rfl | rfl | rfl | rfl<;>simp only[↓sU,sD,rE,↓reduceIte,rA]
 rintro F' S' ps hs' ls ⟨a,a1,a2,rfl,nZ,sZ,dZ,hk,pA,pB,pC⟩ hlast hld;obtain⟨hMZ,kZ⟩:=hM.drawn sZ dZ;obtain⟨U,hU⟩:∃U:St,U=⟨S'.h.set (X.nx+14) (some (.cells [.int .i64 pl,.int .i64 a] false 0)),S'.nx⟩:=⟨_,rfl⟩;have nU:U.nx=S'.nx:=by rw[hU]
 have kU:∀c,c≠X.nx+14→U.h.get c=S'.h.get c:=fun c hc=>by rw[hU];simp only;rw[T.get_set,if_neg hc]
 have gU:U.h.get (X.nx+14)=some (.cells [.int .i64 pl,.int .i64 a] false 0):=by rw[hU];simp only;rw[T.get_set,if_pos rfl]
 have hout:∀c,c<X.nx→c≠X.nx+14:=fun c hc=>by omega
 have hMP:lR (fun c=>P c∧c<X.nx) S0 S' mb db m LV:=(hM.mono fun c hc hp=>⟨hp,hc⟩).drawn sZ dZ |>.1
 have hMU':lR (fun c=>P c∧c<X.nx) S0 U mb db m LV:=hMP.local (by omega) fun c hc hor=>kU c fun e=>by
  rcases hor with h | h
  ·refine h ⟨by omega,fun e'=>?_,fun e'=>?_,fun e'=>?_,fun e'=>?_⟩
   ·have:=hM.p.dr.lt;omega
   ·have:=(hM.p.nod.blk e').2;omega
   ·have:=(hM.p.inf.blk e').2;omega
   ·have:=(hM.p.vw.blk e').2;omega
  ·omega
 have hMU:lR P S0 U mb db m LV:=hMU'.mono fun c _ h=>h.1;have kXU:fD mb db m X m U:=⟨by omega,fun c hc hp=>⟨(kU c (hout c hc)).trans (kZ.2 c hc hp).1,hp⟩⟩;obtain⟨v',V,eA,aV,nV,kV,bV⟩:=hMU.p.inf.push (bytes:=16) (x:=.sl (X.nx+14) 0 1 1 false) (a:=(⟨pl,a⟩:mT)) (by decide) (by omega) rfl (aL6 gU rfl) rfl (show aMF [.int .i64 pl,.int .i64 a] ⟨pl,a⟩ from rfl) (by unfold room;omega) (by unfold room;omega);obtain⟨kP,kM⟩:=hMU.p.pushI nV kV bV aV;have gmV:V.h.get mb=some (.cells (dL db m) false 0):=(kV mb hMU.p.lt fun e=>(hMU.p.d2 mb e).1 rfl).trans hMU.g;unfold aLt;refine jR (v:=v') (S1:=V) hlast (fun call=>?_) ?_
 ·rw[dS (show Nat.testBit 32766 14=true by decide),fJ];simp only[fW,pB,pC];rw[←hU];exact eA
 rw[dS (show Nat.testBit 32766 14=true by decide)];simp only[nB,dV,bE,bO,bF,aE,aF,aW,aQ,fW,cB,bS,pA,rE,↓reduceIte,rA];have gAc:v'.cells=some [v']:=aV.cells;refine jR (v:=.undef) (S1:=⟨V.h.set mb (some (.cells (dL db {m with ia:=v',infos:=m.infos++ [⟨pl,a⟩]}) false 0)),V.nx⟩) (show Nat.testBit 524287 15=true by decide) (fun call=>?_) ?_
 ·rw[dD];simp only[fW,bS,rE,↓reduceIte,cB,gAc,aK];exact xW (cs:=dL db m) (p:=9) (S:=V) gmV (show 9<10 by omega)
 rw[iL];refine⟨?_,?_⟩
 ·simp only[Cn,Ba,Co,Bl,Bh];exact hld _ _
 ·simp only[cB,dR];refine hQ _ _ v' a (fun j hj=>?_) a1 a2 (kP.put (by simp only;rw[T.get_set,if_pos rfl]) (Ag _) fun c _ hne=>by simp only;rw[T.get_set,if_neg hne]) ((kXU.trans kM).trans fD.put);rw[bS,if_neg (by omega),bS,if_neg (by omega),bS,if_neg (by omega),bS,if_neg (by omega)];exact hk j hj
def FnI(mb:Nat)(X:St)(pl lev:Int)(sv:AV)(n:Nat)(k:Nat)(A:bQ)(Y:St):Prop:=A.inr=false∧Same X Y∧∃i:Nat,i+k=n∧aD 0 A.F= .ptr mb 0∧aD 1 A.F= .int .i64 pl∧aD 2 A.F= .int .i64 lev∧aD 3 A.F=sv∧aD 9 A.F= .int .i64 (i:Int)
def aNL(P:Nat→Prop)(S0 X:St)(mb db:Nat)(m:Mk)(LV:List (Int×Int×Int))(pl lev:Int)(r:AV)(Z:St):Prop:=∃va' ia' a,1≤a∧a≤3∧r= .int .i64 ((m.infos.length:Nat):Int)∧lR P S0 Z mb db {m with va:=va',ia:=ia',views:=m.views++ [(pl,lev,((m.infos.length:Nat):Int))],infos:=m.infos++ [⟨pl,a⟩]} LV∧fD mb db m X {m with va:=va',ia:=ia',views:=m.views++ [(pl,lev,((m.infos.length:Nat):Int))],infos:=m.infos++ [⟨pl,a⟩]} Z
theorem aKW{P:Nat→Prop}{S0 X:St}{mb db:Nat}{m:Mk}{LV:List (Int×Int×Int)}{pl lev:Int}{sv:AV}{l:List Int}(H:Has fns)(hM:lR P S0 X mb db m LV)(hS:S0.nx≤X.nx)(hs:cD .i64 X sv l)(hl:l.length≤1000)(hsb:∀c,aT sv=some c→PB mb db m c∧P c)(hv:m.views.length≤100000)(hi:m.infos.length≤100000):
  fR fns (.fn 46 [] []) [.ptr mb 0,.int .i64 pl,.int .i64 lev,sv] X fun r Z=>(Same X Z∧∃ (i:Nat) (v:Int×Int×Int),m.views[i]? =some v∧v.1=pl∧v.2.1=lev∧r= .int .i64 v.2.2)∨aNL P S0 X mb db m LV pl lev r Z:=by
 refine cE H.f46 (by simp) ?_;refine am ?_;refine cC ?_;refine am ?_;refine aC (bD (Q:=fun o A' Z=>(o= .normal∧FnI mb X pl lev sv m.views.length 0 A' Z)∨(o= .ret∧Same X Z∧∃ (i:Nat) (v:Int×Int×Int),m.views[i]? =some v∧v.1=pl∧v.2.1=lev∧aD 8 A'.F= .int .i64 v.2.2)) (aC (aG ?_)) ?_)
 ·refine am ?_;refine aN (bT (FnI mb X pl lev sv m.views.length) ?_ m.views.length _ _ ⟨rfl,Same.refl _,0,by omega,aq,aq,aq,aq,ar⟩);rintro k ⟨F,inr⟩ Y ⟨q0,hY,i,hik,p0,p1,p2,p3,p9⟩;simp only at q0 p0 p1 p2 p3 p9;subst q0;have hMY:=hM.same hY;have f2:=cS (p:=2) hMY.g rfl;refine iP ?_;simp only[↓sU,sD,rE,↓reduceIte,rA,p0,p9,bE,bF,aE,aF,f2,hMY.p.vw.len];by_cases hlt:i<m.views.length;rotate_left
  ·refine aO (by simp only[↓sU,sD,rE,↓reduceIte,rA,Aa (show ¬ (i:Int)<((m.views.length:Nat):Int) by omega)]) (bK ?_);simp only[↓sU,sD,rE,↓reduceIte,rA];have hk0:k=0:=by omega
   subst hk0;exact .inl ⟨rfl,hY,i,hik,by refine⟨?_,?_,?_,?_,?_⟩<;>simp only[↓sU,sD,rE,↓reduceIte,rA,p0,p1,p2,p3,p9]⟩
  refine aR (by simp only[↓sU,sD,rE,↓reduceIte,rA,Ad (show(i:Int)<((m.views.length:Nat):Int) by omega)]) (aM ?_);try simp only[↓sU,sD,rE,↓reduceIte,rA]
  have hvi:m.views[i]? =some m.views[i]:=Ab hlt;have hV:bB 4 (fun Y e a=>VwE Y (fun c=>PB mb db m c∧P c) e a) Y m.va m.views:=hMY.p.vw.is fun e a h=>h;obtain⟨_,bx,qx,hiax,hbx,_,⟨sv',l',rfl,hs',hl',_⟩,hldx,_⟩:=bB.at hV (by decide) hvi;have w1:IntKind.i64.wrap ((i:Int)+1)=((i+1:Nat):Int):=by rw[wrap_i64 (by omega) (by omega)];omega
  generalize hvv:m.views[i]=v at *;refine aC (aN (aC (aG ?_)));simp only[↓aA,aB,rE,↓reduceIte,rA,p0,p9,bE,bF,aE,aF,f2,aH,hiax,hldx];refine cR ?_;intro W1 v1 k1 h1;refine fC (b:=Y.nx) (ai) (by simp only[↓aA,aB,rE,↓reduceIte,rA];exact bM _) h1 rfl rfl ?_;intro W v2 k2 h2;simp only[↓aA,aB,rE,↓reduceIte,rA];have sYW:Same Y W:=v2.same v1 (Ag _);have sXW:=hY.trans sYW;have g0:=cS (p:=0) h2 rfl;have g1:=cS (p:=1) h2 rfl;have g2:=cS (p:=2) h2 rfl;have again:∀ {F':Fr} {Z:St},aD 0 F'= .ptr mb 0→aD 1 F'= .int .i64 pl→aD 2 F'= .int .i64 lev→aD 3 F'=sv→aD 9 F'= .int .i64 (((i+1:Nat)):Int)→Same X Z→∃x<k,FnI mb X pl lev sv m.views.length x ⟨F',false⟩ Z:=fun {F' Z} a0 a1 a2 a3 a9 hZ=>⟨k - 1,by omega,rfl,hZ,i+1,by omega,a0,a1,a2,a3,a9⟩;refine cC ?_;by_cases c1:v.1=pl;rotate_left
  ·simp only[↓sU,sD,rE,↓reduceIte,rA,p1,aE,aF,g0,Aa c1];refine aO (aq) (aM ?_);try simp only[↓sU,sD,rE,↓reduceIte,rA]
   refine aG ?_;simp only[↓sU,sD,rE,↓reduceIte,rA,p9,w1];exact again (au p0) (au p1) (au p2) (au p3) (aq) sXW
  by_cases c2:v.2.1=lev;rotate_left
  ·simp only[↓sU,sD,rE,↓reduceIte,rA,p1,p2,aE,aF,g0,g1,Ad c1,Aa c2];refine aO (aq) (aM ?_);try simp only[↓sU,sD,rE,↓reduceIte,rA]
   refine aG ?_;simp only[↓sU,sD,rE,↓reduceIte,rA,p9,w1];exact again (au p0) (au p1) (au p2) (au p3) (aq) sXW
  simp only[↓sU,sD,rE,↓reduceIte,rA,p1,p2,p3,aE,aF,g0,g1,g2,Ad c1,Ad c2];refine aY ?_;refine am ?_;refine aP (aBE H (hs'.same sYW) (hs.same sXW) (by omega)) ?_;rintro _ Z ⟨rfl,hZ⟩;have sXZ:=sXW.trans hZ;have h3:=(hZ.2 _ (show Y.nx<W.nx by omega)).trans h2;have g3:=cS (p:=3) h3 rfl;by_cases c3:l'=l
  ·rw[Ad c3];try simp only[↓sU,sD,rE,↓reduceIte,rA]
   refine aR (aq) ?_;refine cC ?_;simp only[↓sU,sD,rE,↓reduceIte,rA,aE,aF,g3];refine aU ?_;simp only[↓sU,sD,rE,↓reduceIte,rA];exact .inr ⟨sXZ,i,v,by first | exact⟨hvi,c1,c2⟩ | exact⟨hvi,c1,c2,rfl⟩⟩
  ·rw[Aa c3];try simp only[↓sU,sD,rE,↓reduceIte,rA]
   refine aO (aq) (aM ?_);try simp only[↓sU,sD,rE,↓reduceIte,rA]
   refine aG ?_;simp only[↓sU,sD,rE,↓reduceIte,rA,p9,w1];exact again (au p0) (au p1) (au p2) (au p3) (aq) sXZ
 rintro o ⟨F,inr⟩ Z (⟨rfl,q0,hZ,i,hik,p0,p1,p2,p3,_⟩ | ⟨rfl,hZ,i,v,h1,h2,h3,p8⟩);rotate_left
 ·simp only at p8;simp only[↓sU,sD,rE,↓reduceIte,rA,p8];exact .inl ⟨hZ,i,v,by first | exact⟨h1,h2,h3⟩ | exact⟨h1,h2,h3,rfl⟩⟩
 simp only at q0 p0 p1 p2 p3;subst q0;try simp only[↓sU,sD,rE,↓reduceIte,rA]
 have hMZ:=hM.same hZ;refine aC (aME rfl hMZ (Ap hS hZ.1) p0 p1 p2 p3 (hs.same hZ) hl hsb hv ?_);intro F1 Z1 va' k1 hM1 b1;try simp only[↓sU,sD,rE,↓reduceIte,rA]
 have z1:=(fD.same (mb:=mb) (db:=db) (m:=m) hZ).trans b1;refine aC (aMJ H rfl hM1 (Ap hS z1.1) ((k1 0 (by omega)).trans p0) ((k1 1 (by omega)).trans p1) hi ?_);intro F2 Z2 ia' a k2 a1 a2 hM2 b2;try simp only[↓sU,sD,rE,↓reduceIte,rA]
 have q0:aD 0 F2= .ptr mb 0:=(k2 0 (by omega)).trans ((k1 0 (by omega)).trans p0);have f9:=cS (p:=9) hM2.g rfl;have hlen:=hM2.p.inf.len;have w1:IntKind.i64.wrap ((((m.infos++ [(⟨pl,a⟩:mT)]).length:Nat):Int) - 1)=((m.infos.length:Nat):Int):=by
  rw[Ai,An,wrap_i64 (by omega) (by omega)];omega
 refine cC ?_;simp only[↓sU,sD,rE,↓reduceIte,rA,q0,bE,bF,aE,aF,f9,hlen,w1];refine aU ?_;simp only[↓sU,sD,rE,↓reduceIte,rA];exact .inr ⟨va',ia',a,a1,a2,rfl,hM2,z1.trans b2⟩
noncomputable def aO0:List AO:=[mt 64 0,
mt 65 0,
om 66 2 (.nilchk (.t 65)),
om 67 6 (.faddr 2 (.t 66)),
om 68 14 (ld 67),
mt 69 0,
om 70 32 (.nilchk (.t 69)),
om 71 96 (.faddr 2 (.t 70)),
om 72 224 (ld 71),
om 73 480 (.lenSl (.t 72)),
om 74 992 (bi .sub (.t 73) (ci 1)),
om 75 2046 (.slc (.slice 4) (.t 68) none (some (.t 74)) none),
om 76 4095 (.nilchk (.t 64)),
om 77 8191 (.faddr 2 (.t 76))]
def aBl(m:Mk)(info:Int):Prop:=∃x∈m.nodes,x.kind=2∧x.info=info
def DpI(mb:Nat)(X:St)(m:Mk)(info:Int)(k:Nat)(A:bQ)(Y:St):Prop:=A.inr=false∧Y=X∧∃i:Nat,i+k=m.nodes.length∧(∀j x,j<i→m.nodes[j]? =some x→¬ (x.kind=2∧x.info=info))∧aD 0 A.F= .ptr mb 0∧aD 1 A.F= .int .i64 info∧aD 6 A.F= .int .i64 (i:Int)
theorem aJN{P:Nat→Prop}{S0 X:St}{mb db:Nat}{m:Mk}{LV:List (Int×Int×Int)}{pl info:Int}(H:Has fns)(hM:lR P S0 X mb db m LV)(h0:0≤info)(hvl:m.views.length=m.infos.length)(hi:m.infos.length≤100000)(hnl:m.nodes.length≤100000):
  fR fns (.fn 47 [] []) [.ptr mb 0,.int .i64 info,.int .i64 pl] X fun _ Z=>((pl<0∨info≠((m.infos.length:Nat):Int) - 1∨aBl m info)∧Z=X)∨(0≤pl∧info=((m.infos.length:Nat):Int) - 1∧¬aBl m info∧∃va' ia',lR P S0 Z mb db {m with va:=va',ia:=ia',views:=m.views.dropLast,infos:=m.infos.dropLast} LV∧fD mb db m X {m with va:=va',ia:=ia',views:=m.views.dropLast,infos:=m.infos.dropLast} Z):=by
 have f9:=cS (p:=9) hM.g rfl;have f8:=cS (p:=8) hM.g rfl;have hil:=hM.p.inf.len;have wI:IntKind.i64.wrap (((m.infos.length:Nat):Int) - 1)=((m.infos.length:Nat):Int) - 1:=wrap_i64 (by omega) (by omega);refine cE H.f47 (by simp) ?_;refine am ?_;refine iP ?_;by_cases hp:pl<0
 ·simp only[↓sU,sD,rE,↓reduceIte,rA,Ad hp];refine aR (aq) (aU ?_);simp only[↓sU,sD,rE,↓reduceIte,rA];exact .inl (.inl hp)
 by_cases hn:info=((m.infos.length:Nat):Int) - 1;rotate_left
 ·simp only[↓sU,sD,rE,↓reduceIte,rA,Aa hp,bE,bF,aE,aF,f9,hil,wI];refine aR (by simp only[↓sU,sD,rE,↓reduceIte,rA,Ad (show info≠((m.infos.length:Nat):Int) - 1 from hn)]) (aU ?_);simp only[↓sU,sD,rE,↓reduceIte,rA];exact .inl (.inr (.inl hn))
 simp only[↓sU,sD,rE,↓reduceIte,rA,Aa hp,bE,bF,aE,aF,f9,hil,wI];refine aO (by simp only[↓sU,sD,rE,↓reduceIte,rA,Aa (show ¬info≠((m.infos.length:Nat):Int) - 1 from fun h=>h hn)]) (aM ?_);try simp only[↓sU,sD,rE,↓reduceIte,rA]
 obtain⟨n,rfl⟩:∃n:Nat,info=(n:Int):=⟨info.toNat,by omega⟩;have hin:m.infos.length=n+1:=by omega
 have hvn:m.views.length=n+1:=by omega
 refine aC (bD (Q:=fun o A' Z=>(o= .normal∧A'.inr=false∧Z=X∧¬aBl m (n:Int)∧aD 0 A'.F= .ptr mb 0∧aD 1 A'.F= .int .i64 (n:Int))∨(o= .ret∧Z=X∧aBl m (n:Int))) (aC (aG ?_)) ?_)
 ·refine am ?_;refine aN (bT (DpI mb X m (n:Int)) ?_ m.nodes.length _ _ ⟨rfl,rfl,0,by omega,fun j x hj=>absurd hj (Dy j),aq,aq,ar⟩);rintro k ⟨F,inr⟩ Y ⟨q0,hYX,i,hik,hno,p0,p1,p6⟩;simp only at q0 p0 p1 p6;subst q0;rw[hYX];clear hYX Y;refine iP ?_;simp only[↓sU,sD,rE,↓reduceIte,rA,p0,p6,bE,bF,aE,aF,f8,hM.p.nod.len];by_cases hlt:i<m.nodes.length;rotate_left
  ·refine aO (by simp only[↓sU,sD,rE,↓reduceIte,rA,Aa (show ¬ (i:Int)<((m.nodes.length:Nat):Int) by omega)]) (bK ?_);refine am ?_;refine .inl ⟨?_,p0,p1⟩;rintro⟨x,hx,hk⟩;obtain⟨j,hj⟩:=List.mem_iff_getElem?.1 hx;exact hno j x (by have:=(Af.1 hj).1;omega) hj hk
  refine aR (by simp only[↓sU,sD,rE,↓reduceIte,rA,Ad (show(i:Int)<((m.nodes.length:Nat):Int) by omega)]) (aM ?_);try simp only[↓sU,sD,rE,↓reduceIte,rA]
  have hvi:m.nodes[i]? =some m.nodes[i]:=Ab hlt;have hN:bB 6 dJ X m.na m.nodes:=hM.p.nod.is fun e a ⟨xa,xw,xp,h1,h2,h3,h4,_⟩=>⟨xa,xw,xp,h1,h2,h3,h4⟩;obtain⟨_,bx,qx,hiax,hbx,_,⟨xa,xw,xp,rfl,hxa,hxw,hxp⟩,hldx,hfx⟩:=bB.at hN (by decide) hvi;have l0:=hfx 0 _ rfl;have l2:=hfx 2 _ rfl;have w1:IntKind.i64.wrap ((i:Int)+1)=((i+1:Nat):Int):=by rw[wrap_i64 (by omega) (by omega)];omega
  have again:¬ ((m.nodes[i]).kind=2∧(m.nodes[i]).info=(n:Int))→∀ {F':Fr},aD 0 F'= .ptr mb 0→aD 1 F'= .int .i64 (n:Int)→aD 6 F'= .int .i64 (((i+1:Nat)):Int)→∃x<k,DpI mb X m (n:Int) x ⟨F',false⟩ X:=fun hne {F'} a0 a1 a6=>⟨k - 1,by omega,rfl,rfl,i+1,by omega,fun j x hj hx=>by
   by_cases e:j=i
   ·subst e;rw[hvi] at hx;cases hx;exact hne
   ·exact hno j x (by omega) hx,a0,a1,a6⟩
  refine aC (aN (aC (aG ?_)));by_cases c1:(m.nodes[i]).kind=2;rotate_left
  ·simp only[↓sU,sD,rE,↓reduceIte,rA,p0,p6,bE,bF,aE,aF,f8,aH,hiax,l0,Aa c1];refine aO (aq) (aM ?_);try simp only[↓sU,sD,rE,↓reduceIte,rA]
   refine aG ?_;simp only[↓sU,sD,rE,↓reduceIte,rA,p6,w1];exact again (fun h=>c1 h.1) (au p0) (au p1) (aq)
  simp only[↓sU,sD,rE,↓reduceIte,rA,p0,p1,p6,bE,bF,aE,aF,f8,aH,hiax,l0,l2,Ad c1];by_cases c2:(m.nodes[i]).info=(n:Int)
  ·refine aR (by simp only[↓sU,sD,rE,↓reduceIte,rA,Ad c2]) (aU ?_);simp only[↓sU,sD,rE,↓reduceIte,rA];exact .inr ⟨_,Br hlt,c1,c2⟩
  ·refine aO (by simp only[↓sU,sD,rE,↓reduceIte,rA,Aa c2]) (aM ?_);try simp only[↓sU,sD,rE,↓reduceIte,rA]
   refine aG ?_;simp only[↓sU,sD,rE,↓reduceIte,rA,p6,w1];exact again (fun h=>c2 h.2) (au p0) (au p1) (aq)
 rintro o ⟨F,inr⟩ Z (⟨rfl,q0,hZX,hno,p0,p1⟩ | ⟨rfl,hZX,hu⟩);rotate_left
 ·simp only[↓sU,sD,rE,↓reduceIte,rA];exact .inl ⟨.inr (.inr hu),hZX⟩
 simp only at q0 p0 p1;subst q0;rw[hZX];clear hZX Z;try simp only[↓sU,sD,rE,↓reduceIte,rA]
 obtain⟨ia',e1,aI,bI⟩:=hM.p.inf.shrink hin;obtain⟨kP,kM⟩:=hM.p.pushI (X':=X) (Ag _) (fun _ _ _=>rfl) (fun c hc=>.inl (by rw[←bI];exact hc)) aI;have hsl:=fun(F:Fr) (h:aD 59 F= .int .i64 (n:Int))=>e1 F (.t 59) (by show fB (aD 59 F)=_;rw[h];exact aH _ _);refine cC ?_;simp only[↓sU,sD,rE,↓reduceIte,rA,p0,p1,bE,bF,aE,aF,f9,hsl];refine eR (v:=.undef) (S1:=⟨X.h.set mb (some (.cells (dL db {m with ia:=ia',infos:=m.infos.dropLast}) false 0)),X.nx⟩) (fun call=>by simp only[↓sU,sD,rE,↓reduceIte,rA,dD,aI.cells];exact xW (cs:=dL db m) (p:=9) (S:=X) hM.g (show 9<10 by omega)) ?_;simp only[↓sU,sD,rE,↓reduceIte,rA];obtain⟨Z,hZ⟩:∃Z:St,Z=⟨X.h.set mb (some (.cells (dL db {m with ia:=ia',infos:=m.infos.dropLast}) false 0)),X.nx⟩:=⟨_,rfl⟩;have hMZ:lR P S0 Z mb db {m with ia:=ia',infos:=m.infos.dropLast} LV:=kP.put (by rw[hZ];simp only;rw[T.get_set,if_pos rfl]) (by rw[hZ];exact Ag _) fun c _ hne=>by rw[hZ];simp only;rw[T.get_set,if_neg hne]
 have kZ:fD mb db m X {m with ia:=ia',infos:=m.infos.dropLast} Z:=kM.trans (by rw[hZ];exact fD.put);rw[←hZ];have f2:=cS (p:=2) hMZ.g rfl;have hvn':(({m with ia:=ia',infos:=m.infos.dropLast}:Mk).views).length=n+1:=hvn;have hvlen:=hMZ.p.vw.len;have sva:=hMZ.p.vw.self;rw[hvn'] at hvlen;have wV:IntKind.i64.wrap (((n+1:Nat):Int) - 1)=(n:Int):=by rw[wrap_i64 (by omega) (by omega)];omega
 have hM2:lR P S0 ⟨Z.h,Z.nx+15⟩ mb db {m with ia:=ia',infos:=m.infos.dropLast} LV:=hMZ.same (Same.nx Z 15);obtain⟨va',e2,aV,bV⟩:=hM2.p.vw.shrink hvn';obtain⟨kP2,kM2⟩:=hM2.p.pushV (X':=⟨Z.h,Z.nx+15⟩) (Ag _) (fun _ _ _=>rfl) (fun c hc=>.inl (by rw[←bV];exact hc)) aV;have hsv:=fun(F:Fr) (h:aD 74 F= .int .i64 (n:Int))=>e2 F (.t 74) (by show fB (aD 74 F)=_;rw[h];exact aH _ _);refine qQ (pre:=aO0) (K:=14) (m:=16383) (n:=1) (x:=.t 77) (v:=.t 75) rfl rfl rfl rfl ?_;unfold aO0;simp only[↓sU,sD,rE,↓reduceIte,rA,p0,bE,bO,bF,aE,aW,aF,f2,sva,hvlen,wV,hsv];rw[aV.cells,aK];refine⟨_,xW (cs:=dL db {m with ia:=ia',infos:=m.infos.dropLast}) (p:=2) (S:=⟨Z.h,Z.nx+15⟩) hM2.g (show 2<10 by omega),_,rfl,.inr ⟨by omega,by omega,hno,va',ia',kP2.put (by simp only;rw[T.get_set,if_pos rfl];rfl) (Ag _) fun c _ hne=>by simp only;rw[T.get_set,if_neg hne],?_⟩⟩;exact((kZ.trans (fD.same (Same.nx Z 15))).trans kM2).trans fD.put
end Go.Ev.Gl
