import Derived.Test.YtkklchgmpejobaaGreatDoorGl13
set_option maxHeartbeats 16000000
set_option linter.unusedSimpArgs false
set_option linter.unusedVariables false
namespace Go.Ev.Gl
variable {fns:T cW}
theorem aA7{cs e:List AV}{p t:Nat}(hp:p+e.length≤cs.length):(cs.take p++e++cs.drop (p+e.length))[t]? =if t<p then cs[t]? else if t<p+e.length then e[t - p]? else cs[t]? :=by
 have hl:(cs.take p).length=p:=by rw[Bs];omega
 rw[Bl];by_cases h1:t<p
 ·rw[if_pos h1,Bu (by omega),Ey h1]
 ·rw[if_neg h1,Bh (by omega),hl];by_cases h2:t<p+e.length
  ·rw[if_pos h2,Bu (by omega)]
  ·rw[if_neg h2,Bh (by omega),Er];congr 1;omega
theorem aEI{S:St}{b p sz:Nat}{cs e:List AV}{o:Bool}(h:S.h.get b=some (.cells cs o sz))(hp:p+e.length≤cs.length):oT S b p e=some ⟨S.h.set b (some (.cells (cs.take p++e++cs.drop (p+e.length)) o sz)),S.nx⟩:=by
 simp only[oT,h,aM,wA,put_eq,if_pos hp]
theorem aOJ{S:St}{b p sz n:Nat}{cs e:List AV}{o:Bool}(h:S.h.get b=some (.cells cs o sz))(hp:p+e.length≤cs.length)(hn:e.length=n):kN (.ptr b p) n e S=some (.undef,⟨S.h.set b (some (.cells (cs.take p++e++cs.drop (p+e.length)) o sz)),S.nx⟩):=by
 simp only[kN,dZ,hn,aEI h hp];rw[show Nat.beq n n=true from Nat.beq_refl n,aP];subst hn;rfl
def qC{α:Type}(k:Nat)(E:List AV→α→Prop)(S0 X:St)(v:AV)(l:List α):Prop:=
 (v= .nilsl∧l= [])∨∃b c cs,v= .sl b 0 l.length c true∧l.length≤c∧cs.length=c * k∧S0.nx≤b∧b<X.nx∧X.h.get b=some (.cells cs true k)∧0<c∧∀ (i:Nat) (a:α),l[i]? =some a→∃e:List AV,e.length=k∧(∀ (j:Nat) (x:AV),e[j]? =some x→cs[i * k+j]? =some x)∧E e a
section
variable {α:Type}{k:Nat}{E E':List AV→α→Prop}{S0 X X':St}{v:AV}{l:List α}
theorem qC.move(h:qC k E S0 X v l)(hn:X.nx≤X'.nx)(hh:∀c,aX v=some c→X'.h.get c=X.h.get c)(hE:∀e a,E e a→E' e a):qC k E' S0 X' v l:=by
 rcases h with h | ⟨b,c,cs,rfl,h1,h2,h3,h4,h5,h6,h7⟩
 ·exact .inl h
 ·refine .inr ⟨b,c,cs,rfl,h1,h2,h3,Ae h4 hn,(hh b rfl).trans h5,h6,fun i a hi=>?_⟩;obtain⟨e,e1,e2,e3⟩:=h7 i a hi;exact⟨e,e1,e2,hE e a e3⟩
theorem qC.blk(h:qC k E S0 X v l){c:Nat}(hc:aX v=some c):S0.nx≤c∧c<X.nx:=by
 rcases h with⟨rfl,_⟩ | ⟨b,c',cs,rfl,h1,h2,h3,h4,h5,h6,h7⟩
 ·cases hc
 ·cases hc;exact⟨h3,h4⟩
theorem qC.cells(h:qC k E S0 X v l):v.cells=some [v]:=by
 rcases h with⟨rfl,_⟩ | ⟨b,c,cs,rfl,_⟩<;>rfl
theorem qC.self(h:qC k E S0 X v l):bW v v=true:=by
 rcases h with⟨rfl,_⟩ | ⟨b,c,cs,rfl,_⟩
 ·rfl
 ·exact uS ..
theorem qC.len(h:qC k E S0 X v l):kJ v=some (.int .i64 ((l.length:Nat):Int)):=by
 rcases h with⟨rfl,rfl⟩ | ⟨b,c,cs,rfl,_⟩<;>rfl
theorem qY{i j k q:Nat}(h:i<j)(hq:q<k):i * k+q<j * k:=by
 have:(i+1) * k≤j * k:=Dh k h;rw[Dz,Nat.one_mul] at this;omega
theorem qC.push{bytes:Nat}{x:AV}{e:List AV}{a:α}(h:qC k E S0 X v l)(hk:0<k)(hS:S0.nx≤X.nx)(hl:oC x=some 1)(hs:eU x X.h k 1=some e)(he:e.length=k)(hE:E e a)(h1:l.length+1≤room)(h2:(l.length+1) * bytes≤room):
  ∃v' X',jK bytes k v x X=some (v',X')∧qC k E S0 X' v' (l++ [a])∧X.nx≤X'.nx∧(∀c,c<X.nx→aX v≠some c→X'.h.get c=X.h.get c)∧(∀c,aX v'=some c→aX v=some c∨X.nx≤c):=by
 rcases h with⟨rfl,rfl⟩ | ⟨b,c,cs,rfl,g1,g2,g3,g4,g5,g6,g7⟩
 ·refine⟨.sl X.nx 0 1 1 true,⟨X.h.set X.nx (some (.cells e true k)),X.nx+1⟩,?_,.inr ⟨X.nx,1,e,rfl,Ah _,by rw[he,Nat.one_mul],hS,by simp,by simp only;rw[T.get_set,if_pos rfl],Nat.one_pos,fun i a' hi=>?_⟩,by simp,fun c hc _=>(Same.alloc X _).2 c hc,fun c hc=>by cases hc;exact .inr (Ah _)⟩
  ·show(aZ (oC x) fun j=>aZ (eU x X.h k j) fun new=>aE9 .nilsl bytes k j new X)=_;rw[hl,aM,hs,aM];show wY bytes k 1 e X=_;have h1':1≤room:=by simpa using h1
   have h2':1 * bytes≤room:=by simpa using h2
   unfold wY;rw[show Nat.beq 1 0=false from rfl,aU,Aj h1',aP,Aj h2',aP];rfl
  ·cases i with
   | zero=>
    simp at hi;subst hi;exact⟨e,he,fun j y hj=>by rw[Ff,Av];exact hj,hE⟩
   | succ i=>simp at hi
 ·by_cases hc:l.length+1≤c
  ·have hp:l.length * k+e.length≤cs.length:=by
    rw[he,g2,←Dq];exact Dh k hc
   refine⟨.sl b 0 (l.length+1) c true,⟨X.h.set b (some (.cells (cs.take (l.length * k)++e++cs.drop (l.length * k+e.length)) true k)),X.nx⟩,?_,.inr ⟨b,c,cs.take (l.length * k)++e++cs.drop (l.length * k+e.length),by rw[Al,Bm],by rw[Al,Bm];exact hc,by simp;omega,g3,g4,by simp only;rw[T.get_set,if_pos rfl],g6,fun i a' hi=>?_⟩,Ah _,fun c' _ hne=>?_,fun c' hc'=>.inl hc'⟩
   ·show(aZ (oC x) fun j=>aZ (eU x X.h k j) fun new=>aE9 (.sl b 0 l.length c true) bytes k j new X)=_;rw[hl,aM,hs,aM];show vL bytes k b 0 l.length c true 1 e X=_;unfold vL;rw[Aj hc,aP,show Nat.beq 1 0=false from rfl,aU,Av,aEI g5 hp,aM]
   ·rw[Di] at hi;split at hi
    ·rename_i hlt;obtain⟨e',e1,e2,e3⟩:=g7 i a' hi;refine⟨e',e1,fun j y hj=>?_,e3⟩;have hjk:j<k:=by rw[←e1];exact(Af.1 hj).1
     rw[aA7 hp,if_pos (qY hlt hjk)];exact e2 j y hj
    ·rename_i hlt;have h0:i - l.length=0:=by
      rcases Dt (i - l.length) with h0 | h0
      ·exact h0
      ·rw[Ci (by simp;omega)] at hi;cases hi
     rw[h0] at hi;cases hi;have hil:i=l.length:=by omega
     subst hil;refine⟨e,he,fun j y hj=>?_,hE⟩;have hjk:j<e.length:=(Af.1 hj).1;rw[aA7 hp,if_neg (by omega),if_pos (by omega),Nat.add_sub_cancel_left];exact hj
   ·simp only;rw[T.get_set,if_neg (fun e=>hne (by rw[e];rfl))]
  ·obtain rfl:c=l.length:=by omega
   refine⟨.sl X.nx 0 (l.length+1) (l.length+1) true,⟨(X.h.set b Option.none).set X.nx (some (.cells (cs++e) true k)),X.nx+1⟩,?_,.inr ⟨X.nx,l.length+1,cs++e,by rw[Al,Bm],by rw[Al,Bm];exact Ah _,by rw[Al,g2,he,Dq],hS,by simp,by simp only;rw[T.get_set,if_pos rfl],by omega,fun i a' hi=>?_⟩,by simp,fun c' hc' hne=>?_,fun c' hc'=>by cases hc';exact .inr (Ah _)⟩
   ·show(aZ (oC x) fun j=>aZ (eU x X.h k j) fun new=>aE9 (.sl b 0 l.length l.length true) bytes k j new X)=_;rw[hl,aM,hs,aM];show vL bytes k b 0 l.length l.length true 1 e X=_;unfold vL;have e2:Nat.ble (l.length+1) l.length=false:=by rw[Ch];intro h;have:=Ar h;omega
    rw[e2,aU,Aj h1,aP,Aj h2,aP,g5,aM];have e3:cut cs 0 (l.length * k)=some cs:=by
     unfold cut;rw[fO,gJ,Cn,if_pos (by omega),Ay (by omega)]
    have e4:Nat.beq (0+l.length * k) (jJ cs)=true:=by rw[dZ,g2,Aw];omega
    have e5:Nat.beq k k=true:=Nat.beq_refl k;simp only[aGd,e3,aM,aP,e4,e5,grown,gD]
   ·rw[Di] at hi;split at hi
    ·rename_i hlt;obtain⟨e',e1,e2,e3⟩:=g7 i a' hi;refine⟨e',e1,fun j y hj=>?_,e3⟩;have hjk:j<k:=by rw[←e1];exact(Af.1 hj).1
     rw[Bu (by rw[g2];exact qY hlt hjk)];exact e2 j y hj
    ·rename_i hlt;have h0:i - l.length=0:=by
      rcases Dt (i - l.length) with h0 | h0
      ·exact h0
      ·rw[Ci (by simp;omega)] at hi;cases hi
     rw[h0] at hi;cases hi;have hil:i=l.length:=by omega
     subst hil;refine⟨e,he,fun j y hj=>?_,hE⟩;rw[Bh (by omega),g2,Nat.add_sub_cancel_left];exact hj
   ·simp only;have:c'≠b:=fun e=>hne (by rw[e];rfl);rw[T.get_set,if_neg (by omega),T.get_set,if_neg this]
end
structure Mk where
 lvl:AV
 va:AV
 na:AV
 ia:AV
 lv:AV
 most:Int
 pend:Int
 ps:Int
 zero:Bool
 small:Bool
 dl:List Int
 nodes:List bO
 infos:List zA
 views:List (Int×Int×Int)
section
variable {P:Nat→Prop}{S0 X X':St}{mb db:Nat}{m m':Mk}{LV:List (Int×Int×Int)}
end
theorem aQI{S:St}{t n:Nat}{cs:List AV}{o:Bool}{sz:Nat}(h:S.h.get t=some (.cells cs o sz))(hn:cs.length=n):eU (.sl t 0 1 1 false) S.h n 1=some cs:=by
 show aZ (cK S.h t) (fun c=>cut c 0 (1 * n))=_;unfold cK;rw[h];show cut cs 0 (1 * n)=some cs;unfold cut;rw[fO,gJ,Cn,Nat.one_mul,if_pos (by omega),Ay (by omega)]
end Go.Ev.Gl
