import Derived.Test.YtbmodoaceepfoaaGl21
set_option linter.all false
open Nat renaming reduceEqDiff -> rE, reduceAdd -> rA
set_option maxHeartbeats 0
namespace Go.Ev.Gl
variable {fns:T eY}
variable {S X S0:St}{v z iv fv nv mv:AV}{L:bt}{i b ub mb r t1 t2 b9 bc b4 b5 b7 ob NI fm b17 b18:Nat}{l first:bu}{h:Ev.T AB}{x:cT}{F:Fr}{V:Type}{sk:sR}{d:List (AV×AV)}{Q:Out->bO->St->Prop}{A:bO}{g:aX}{R:Nat->bu}{cs:cd}
def aDK(h:aG 1 nK S v L)(hi:i<L.length):∃b q a,eQ (.slice 1) v i=some (.ptr b q)/\bN .i64 S a (L.getD i [])/\b<S.nx/\∀X,Same S X->eK (.ptr b q) false 1 X.h=some a:=by
 obtain⟨_,b,q,e,c,_,⟨a,rfl,f⟩,_,j⟩:=aG.at h az (vL hi);have d:=j 0 a rfl;rw[Bs] at d;exact⟨b,q,a,e,f,c,fun X n=>by rw[jH n c];exact d⟩
abbrev K2:=Nat×Nat
variable {y:K2}{u u0:K2->Option K2}{E:K2->K2->Prop}
def oU{K V:Type} [DecidableEq K](k:K):List (K×V)->Nat->Option (Nat×V)
 | [],_=>none
 | (k',v)::l,i=>if k=k' then some (i,v) else oU k l (i+1)
def lkp{K V:Type} [DecidableEq K](l:List (K×V))(k:K):Option V:=(oU k l 0).map (·.2)
def aLq{K V:Type} [DecidableEq K](l:List (K×V))(k:K)(v:V):List (K×V):=match oU k l 0 with
 | some (i,_)=>l.set i (k,v)
 | none=>l++ [(k,v)]
section
variable {K V:Type} [DecidableEq K]{l:List (K×V)}{k k':K}{v:V}
theorem yF:∀ {l:List (K×V)} {i:Nat},oU k l (i+1)=(oU k l i).map fun p=>(p.1+1,p.2)
 | [],i=>rfl
 | (k',v)::l,i=>by
  show(if k=k' then some (i+1,v) else oU k l (i+1+1))=(if k=k' then some (i,v) else oU k l (i+1)).map _;by_cases e:k=k'
  .rw[if_pos e,if_pos e];rfl
  .rw[if_neg e,if_neg e,yF]
def sP{p:K×V}:lkp (p::l) k=if k=p.1 then some p.2 else lkp l k:=by
 have⟨a,b⟩:=p;unfold lkp;show(if k=a then some (0,b) else oU k l (0+1)).map _=_;by_cases e:k=a
 .rw[if_pos e,if_pos e];rfl
 .rw[if_neg e,if_neg e,yF,Option.map_map];rfl
theorem aM6:lkp (l++ [(k,v)]) k'=match lkp l k' with | some w=>some w | none=>if k'=k then some v else none:=by
 induction l with
 | nil=>
  show lkp [(k,v)] k'=_;rw[sP];rfl
 | cons p l b=>
  show lkp (p::(l++ [(k,v)])) k'=_;rw[sP,sP,b];by_cases e:k'=p.1
  .rw[if_pos e,if_pos e]
  .rw[if_neg e,if_neg e]
theorem aFe:∀ {l:List (K×V)} {i:Nat} {w:V},oU k l 0=some (i,w)->i<l.length/\∀k',lkp (l.set i (k,v)) k'=if k'=k then some v else lkp l k'
 | [],i,w,h=>by cases h
 | (a,b)::l,i,w,h=>by
  have h:(if k=a then some (0,b) else oU k l (0+1))=some (i,w):=h;by_cases e:k=a
  .rw[if_pos e] at h;cases h;refine⟨Nat.succ_pos _,fun k'=>?_⟩;show lkp ((k,v)::l) k'=_;rw[sP,sP];by_cases c:k'=k
   .rw[if_pos c,if_pos c]
   .rw[if_neg c,if_neg c,if_neg (by rw[<-e];exact c)]
  .rw[if_neg e,yF] at h;have⟨⟨j,w'⟩,d,f⟩:=Bb.1 h;cases f;have⟨n,p⟩:=aFe d;refine⟨Nat.succ_lt_succ n,fun k'=>?_⟩;show lkp ((a,b)::l.set j (k,v)) k'=_;rw[sP,sP,p];by_cases c:k'=a
   .have:k'≠k:=fun q=>e (q ▸ c);rw[if_pos c,if_pos c,if_neg this]
   .rw[if_neg c,if_neg c]
def aJy(h:oU k l 0=none):lkp l k=none:=by unfold lkp;rw[h];rfl
theorem aPA:lkp (aLq l k v) k'=if k'=k then some v else lkp l k':=by
 unfold aLq;cases h:oU k l 0 with
 | none=>
  show lkp (l++ [(k,v)]) k'=_;rw[aM6];by_cases e:k'=k
  .rw[if_pos e,e,aJy h,if_pos rfl]
  .rw[if_neg e,if_neg e];cases lkp l k'<;>rfl
 | some p=>
  have⟨i,w⟩:=p;exact(aFe h).2 k'
end
def lG(k:K2):AV:=.agg [je (k.1:Int),je (k.2:Int)]
def aAI{K V:Type}(ek:K->AV)(ev:V->AV)(l:List (K×V)):List (AV×AV):=l.map fun p=>(ek p.1,ev p.2)
def skK:sR:=.struct [(0,.int),(1,.int)]
def aKK(a b:K2):eqv skK (lG a) (lG b)=some (decide (a=b)):=by
 have⟨c,d⟩:=a;have⟨f,h⟩:=b;show cC true (cC true (eqs [(0,.int),(1,.int)] [.int .i64 (c:Int),.int .i64 (d:Int)] [.int .i64 (f:Int),.int .i64 (h:Int)]) none) none=_;rw[aN,aN];have n:yL .int (.int .i64 (c:Int)) (.int .i64 (f:Int))=some (decide (c=f)):=by
  show cC (keq .i64 .i64) (some (ieq (c:Int) (f:Int))) none=_;rw[fO,aN,jG];by_cases e:c=f
  .rw[Ac e,e,Dq]
  .rw[Aa e,beq_eq_false_iff_ne.2 au]
 have p:yL .int (.int .i64 (d:Int)) (.int .i64 (h:Int))=some (decide (d=h)):=by
  show cC (keq .i64 .i64) (some (ieq (d:Int) (h:Int))) none=_;rw[fO,aN,jG];by_cases e:d=h
  .rw[Ac e,e,Dq]
  .rw[Aa e,beq_eq_false_iff_ne.2 au]
 show(match yL .int (.int .i64 (c:Int)) (.int .i64 (f:Int)) with | some true=>(match yL .int (.int .i64 (d:Int)) (.int .i64 (h:Int)) with | some true=>some true | some false=>some false | none=>none) | some false=>some false | none=>none)=_;rw[n,p];by_cases i:c=f
 .by_cases j:d=h
  .subst i j;simp
  .simp [i,j]
 .simp [i]
section
variable {K V:Type} [DecidableEq K]{ek:K->AV}{ev:V->AV}{sk:sR}
theorem aEW(c:∀a b,eqv sk (ek a) (ek b)=some (decide (a=b))){k:K}:∀ {l:List (K×V)} {i:Nat},sF sk (ek k) (aAI ek ev l) i=some ((oU k l i).map fun p=>(p.1,ev p.2))
 | [],i=>rfl
 | (k',v)::l,i=>by
  show(bG (eqv sk (ek k) (ek k')) fun b=>cC b (some (some (i,ev v))) (sF sk (ek k) (aAI ek ev l) (Nat.succ i)))=_;rw[c,aH];show _=some ((if k=k' then some (i,v) else oU k l (i+1)).map fun p=>(p.1,ev p.2));by_cases e:k=k'
  .rw[Ac e,aN,if_pos e];rfl
  .rw[Aa e,aU,if_neg e];exact aEW c
def yE(c:∀a b,eqv sk (ek a) (ek b)=some (decide (a=b))){k:K}{l:List (K×V)}:pF sk (ek k) (aAI ek ev l)=some ((oU k l 0).map fun p=>(p.1,ev p.2)):=by
 unfold pF;rw[c,aH];exact aEW c
def aEQ(ek:K->AV)(ev:V->AV)(h:Ev.T AB)(b:Nat)(f:K->Option V):Prop:=∃l,h.get b=some (.map (aAI ek ev l))/\∀k,lkp l k=f k
def pQ(f:K->Option V)(k:K)(v:V):K->Option V:=fun k'=>if k'=k then some v else f k'
theorem aKp(d:∀a b,eqv sk (ek a) (ek b)=some (decide (a=b))){f:K->Option V}(e:aEQ ek ev h b f){k:K}{m:cT}(i:m.val F= .map b)(j:x.val F=ek k):gO (.lookup sk z true m x) F h=some (match f k with | some v=>.tup [ev v,.bool true] | none=>.tup [z,.bool false]):=by
 have⟨l,n,q⟩:=e;show(bG (vF h (m.val F)) fun c=>bG (pF sk (x.val F) c) fun r=>pG r z true)=_;rw[i,j];show(bG (bG (h.get b) tQ) fun c=>bG (pF sk (ek k) c) fun r=>pG r z true)=_;rw[n,aH];show bG (some (aAI ek ev l)) _=_;rw[aH,yE d,aH,<-q k];unfold lkp;cases oU k l 0 with
 | none=>rfl
 | some p=>rfl
theorem aHG(j:∀a b,eqv sk (ek a) (ek b)=some (decide (a=b))){f:K->Option V}(n:aEQ ek ev h b f){k:K}{m:cT}{v:V}(q:m.val F= .map b)(s:x.val F=ek k)(t:f k=some v):gO (.lookup sk z false m x) F h=some (ev v):=by
 have⟨l,y,A⟩:=n;show(bG (vF h (m.val F)) fun c=>bG (pF sk (x.val F) c) fun r=>pG r z false)=_;rw[q,s];show(bG (bG (h.get b) tQ) fun c=>bG (pF sk (ek k) c) fun r=>pG r z false)=_;rw[y,aH];show bG (some (aAI ek ev l)) _=_;have e:=A k;rw[t] at e;unfold lkp at e;rw[aH,yE j,aH];cases d:oU k l 0 with
 | none=>rw[d] at e;cases e
 | some p=>
  rw[d] at e;have⟨i,w⟩:=p;cases e;rfl
end
theorem aBk{b:Type}{x:b}:∀ {l:List b} {i:Nat},qJ (fun _=>x) l i=l.set i x
 | [],i=>rfl
 | y::l,0=>rfl
 | y::l,i+1=>by
  show cC (Nat.beq (i+1) 0) (x::l) (y::qJ (fun _=>x) l (i+1 - 1))=y::l.set i x;rw[show Nat.beq (i+1) 0=false from rfl,aU,Eh,aBk]
def aH3{K:Type} [DecidableEq K]{ek:K->AV}{ev:V->AV}(h:∀a b,eqv sk (ek a) (ek b)=some (decide (a=b))){f:K->Option V}(i:aEQ ek ev S.h b f)(k:K)(v:V):∃X,rC (.map b) sk (ek k) (ev v) S=some (.undef,X)/\X.nx=S.nx/\(∀c,c≠b->X.h.get c=S.h.get c)/\aEQ ek ev X.h b (pQ f k v):=by
 have⟨l,j,n⟩:=i;have e:aAu ((oU k l 0).map fun p=>(p.1,ev p.2)) (aAI ek ev l) (ek k) (ev v)=aAI ek ev (aLq l k v):=by
  unfold aLq;cases oU k l 0 with
  | none=>
   show yX (aAI ek ev l) [(ek k,ev v)]=_;rw[fS];unfold aAI;rw[Co];rfl
  | some p=>
   show qJ (fun _=>(ek k,ev v)) (aAI ek ev l) p.1=aAI ek ev (l.set p.1 (k,v));rw[aBk];unfold aAI;rw[List.map_set]
 refine⟨⟨S.h.set b (some (.map (aAI ek ev (aLq l k v)))),S.nx⟩,?_,rfl,fun c q=>by simp only;rw[ef,if_neg q],aLq l k v,jd,fun k'=>?_⟩
 .show(bG (bG (S.h.get b) tQ) fun d=>bG (pF sk (ek k) d) fun r=>some (AV.undef,(⟨S.h.set b (some (.map (aAu r d (ek k) (ev v)))),S.nx⟩:St)))=_;rw[j,aH];show bG (some (aAI ek ev l)) _=_;rw[aH,yE h,aH,e]
 .rw[aPA,n];rfl
abbrev aDg{V:Type}(ev:V->AV)(h:Ev.T AB)(b:Nat)(f:K2->Option V):Prop:=aEQ lG ev h b f
def aKL{ev:V->AV}{f:K2->Option V}(c:aDg ev h b f){k:K2}{m:cT}(d:m.val F= .map b)(e:x.val F=lG k):gO (.lookup (.struct [(0,.int),(1,.int)]) z true m x) F h=some (match f k with | some v=>.tup [ev v,.bool true] | none=>.tup [z,.bool false]):=aKp aKK c d e
def aEi{ev:V->AV}{f:K2->Option V}(d:aDg ev S.h b f)(k:K2)(v:V):∃X,rC (.map b) (.struct [(0,.int),(1,.int)]) (lG k) (ev v) S=some (.undef,X)/\X.nx=S.nx/\(∀c,c≠b->X.h.get c=S.h.get c)/\aDg ev X.h b (pQ f k v):=aH3 aKK d k v
inductive lJ{α:Type}(E:α->α->Prop):α->α->Prop where
 | edge {x y:α}:E x y->lJ E x y
 | refl (x:α):lJ E x x
 | symm {x y:α}:lJ E x y->lJ E y x
 | trans {x y z:α}:lJ E x y->lJ E y z->lJ E x z
inductive eS(u:K2->Option K2):K2->K2->Prop where
 | root {k:K2} (h:u k=none):eS u k k
 | step {k a r:K2} (h:u k=some a) (h2:eS u a r):eS u k r
structure UpK(u:K2->Option K2)(E:K2->K2->Prop):Prop where
 rk:∃rk:K2->Nat,∀k a,u k=some a->rk a<rk k
 con:∀k a,u k=some a->lJ E k a
section
variable {u:K2->Option K2}{E:K2->K2->Prop}{k a o r r' x:K2}
def UpK.ex(h:UpK u E):∀k,∃r,eS u k r:=by
 have⟨c,b⟩:=h.rk;have key:∀n k,c k=n->∃r,eS u k r:=fun n=>by
  induction n using Nat.strongRecOn with
  | _ n d=>
   intro k i;cases e:u k with
   | none=>exact⟨k,.root e⟩
   | some a=>
    have⟨r,f⟩:=d (c a) (by have:=b k a e;omega) a rfl;exact⟨r,.step e f⟩
 exact fun k=>key _ k rfl
theorem eS.uni(h:eS u k r):∀ {r'},eS u k r'->r=r':=by
 induction h with
 | root e=>
  intro r' h';cases h' with
  | root _=>rfl
  | step b _=>rw[e] at b;cases b
 | step e _ c=>
  intro r' h';cases h' with
  | root b=>rw[b] at e;cases e
  | step b d=>
   rw[e] at b;cases b;exact c d
theorem eS.none(h:eS u k r):u r=none:=by
 induction h with
 | root e=>exact e
 | step _ _ b=>exact b
theorem eS.next(h:eS u k r)(e:u k=some a):eS u a r:=by
 cases h with
 | root b=>rw[e] at b;cases b
 | step b c=>rw[e] at b;cases b;exact c
theorem UpK.conr(h:UpK u E)(b:eS u k r):lJ E k r:=by
 induction b with
 | root e=>exact .refl _
 | step e _ c=>exact .trans (h.con _ _ e) c
def UpK.half(h:UpK u E)(i:u k=some a)(j:u a=some o):UpK (pQ u k o) E/\∀x r,eS u x r->eS (pQ u k o) x r:=by
 have⟨p,b⟩:=h.rk;have t:=b k a i;have w:=b a o j;have q:∀x y,pQ u k o x=some y->(x=k/\y=o)\/(x≠k/\u x=some y):=fun x y c=>by
  unfold pQ at c;split at c
  .rename_i e;cases c;exact .inl ⟨e,rfl⟩
  .rename_i e;exact .inr ⟨e,c⟩
 refine⟨⟨⟨p,fun x y c=>?_⟩,fun x y c=>?_⟩,fun x r d=>?_⟩
 .rcases q x y c with⟨rfl,rfl⟩|⟨_,e⟩
  .omega
  .exact b x y e
 .rcases q x y c with⟨rfl,rfl⟩|⟨_,e⟩
  .exact .trans (h.con _ _ i) (h.con _ _ j)
  .exact h.con x y e
 .have key:∀n x,p x=n->eS u x r->eS (pQ u k o) x r:=fun n=>by
   induction n using Nat.strongRecOn with
   | _ n s=>
    intro x c d;by_cases e:x=k
    .subst e;refine .step (a:=o) (by unfold pQ;rw[if_pos rfl]) (s (p o) au o rfl ((d.next i).next j))
    .cases d with
     | root f=>exact .root (by unfold pQ;rw[if_neg e];exact f)
     | step f h'=>exact .step (by unfold pQ;rw[if_neg e];exact f) (s _ (by have:=b _ _ f;omega) _ rfl h')
  exact key _ x rfl d
open Classical in
def UpK.join(h:UpK u E){ra rb:K2}(i:u ra=none)(j:u rb=none)(d:ra≠rb)(p:lJ E ra rb):UpK (pQ u ra rb) E/\∀x r,eS u x r->eS (pQ u ra rb) x (if r=ra then rb else r):=by
 have⟨b,f⟩:=h.rk;have n:∀x y,pQ u ra rb x=some y->(x=ra/\y=rb)\/(x≠ra/\u x=some y):=fun x y c=>by
  unfold pQ at c;split at c
  .rename_i e;cases c;exact .inl ⟨e,rfl⟩
  .rename_i e;exact .inr ⟨e,c⟩
 refine⟨⟨⟨fun x=>if eS u x ra then b x+(b rb+1) else b x,fun x y c=>?_⟩,fun x y c=>?_⟩,fun x r q=>?_⟩
 .show(if eS u y ra then b y+(b rb+1) else b y)<if eS u x ra then b x+(b rb+1) else b x;rcases n x y c with⟨rfl,rfl⟩|⟨_,e⟩
  .rw[if_neg (fun h'=>d (eS.uni h' (.root j))),if_pos (.root i)];omega
  .have:=f x y e;by_cases h':eS u x ra
   .rw[if_pos h',if_pos (h'.next e)];omega
   .rw[if_neg h',if_neg (fun s=>h' (.step e s))];exact this
 .rcases n x y c with⟨rfl,rfl⟩|⟨_,e⟩
  .exact p
  .exact h.con x y e
 .induction q with
  | root e=>
   rename_i x;by_cases ex:x=ra
   .rw[if_pos ex,ex];exact .step (by unfold pQ;rw[if_pos rfl]) (.root (by unfold pQ;rw[if_neg (Cg d)];exact j))
   .rw[if_neg ex];exact .root (by unfold pQ;rw[if_neg ex];exact e)
  | step e _ t=>
   rename_i x a r _;have ex:x≠ra:=fun h'=>by rw[h',i] at e;cases e
   exact .step (by unfold pQ;rw[if_neg ex];exact e) t
def lF(u:K2->Option K2)(x y:K2):Prop:=∃r,eS u x r/\eS u y r
def lF.trans{z:K2}(e:lF u x y)(f:lF u y z):lF u x z:=by
 have⟨r,a,b⟩:=e;have⟨s,c,d⟩:=f;rw[<-b.uni c] at d;exact⟨r,a,d⟩
def lF.conn(h:UpK u E)(c:lF u x y):lJ E x y:=by
 have⟨r,a,b⟩:=c;exact .trans (h.conr a) (.symm (h.conr b))
theorem aGi(h:UpK u E)(d:∀x y,E x y->lF u x y)(f:lJ E x y):lF u x y:=by
 induction f with
 | edge e=>exact d _ _ e
 | refl x=>have⟨r,c⟩:=h.ex x;exact⟨r,c,c⟩
 | symm _ i=>have⟨r,a,b⟩:=i;exact⟨r,b,a⟩
 | trans _ _ j n=>exact j.trans n
end
def aK3{W:Nat->Prop}{c:Ev.T AB}{base:Nat}{d:Option Nat}{l:List AO}{ps:List iR}{last:Option Nat}{Q:Fr->St->List iR->Prop}{m k v:cT}{S1:St}(h:kE last b=true)(e:rC (m.val F) sk (k.val F) (v.val F) ⟨(cP b ps S.h).2,S.nx⟩=some (.undef,S1))(f:aGA W base ⟨(cP b ps S.h).2,S.nx⟩ S1)(j:gF fns W c base l (i+1) (cU d F .undef) S1 (cP b ps S.h).1 (some i) Q):gF fns W c base (⟨d,.x (.mapUpd sk m k v),none,b⟩::l) i F S ps last Q:=by
 unfold gF;rw[if_pos (show fT none F=true from rfl)];exact⟨h,_,S1,fun call=>e,f,j⟩
def yY:cO (.map b) (.map b)=true:=by
 show Nat.beq b b=true;exact Fq b
def xB{k:K2}:cO (lG k) (lG k)=true:=by
 unfold lG;simp only[cO,kK,fO,jG,Dq,aN]
def pZ(k:K2):(lG k).cells=some [je (k.1:Int),je (k.2:Int)]:=rfl
def aAb(h:Ev.T AB)(b:Nat)(k:K2):Prop:=h.get b=jf [je (k.1:Int),je (k.2:Int)]
def mH{k:K2}(c:aAb h b k):eK (.ptr b 0) true 2 h=some (lG k):=aCZ c
structure oV(S:St)(ub mb:Nat)(u:K2->Option K2):Prop where
 hu:S.h.get ub=some (.cells [.map mb] false 0)
 m:aDg lG S.h mb u
 lu:ub<S.nx
 lm:mb<S.nx
 ne:ub≠mb
def oV.off(h:oV S ub mb u)(b:S.nx<=X.nx)(d:∀c,c<S.nx->X.h.get c=S.h.get c):oV X ub mb u:=by
 have⟨l,e,f⟩:=h.m;exact⟨(d _ h.lu).trans h.hu,⟨l,(d _ h.lm).trans e,f⟩,Ae h.lu b,Ae h.lm b,h.ne⟩
def oV.same(h:oV S ub mb u)(b:Same S X):oV X ub mb u:=h.off b.1 b.2
def oV.off2(h:oV S ub mb u)(b:S.nx<=X.nx)(c:X.h.get ub=S.h.get ub)(d:X.h.get mb=S.h.get mb):oV X ub mb u:=by
 have⟨l,e,f⟩:=h.m;exact⟨c.trans h.hu,⟨l,d.trans e,f⟩,Ae h.lu b,Ae h.lm b,h.ne⟩
def aG8(b:h.get ub=jf [.map mb]):eK (.ptr ub (0+0)) false 1 h=some (.map mb):=ldc b rfl
def lkV(o:Option K2):AV:=match o with | some v=>.tup [lG v,.bool true] | none=>.tup [lG (0,0),.bool false]
theorem aHJ(o:Option K2):cO (lkV o) (lkV o)=true:=by
 cases o with
 | none=>
  show cO (.tup [lG (0,0),.bool false]) (.tup [lG (0,0),.bool false])=true;have:=xB (k:=(0,0));simp only[cO,kK,this,aN];rfl
 | some v=>
  show cO (.tup [lG v,.bool true]) (.tup [lG v,.bool true])=true;have:=xB (k:=v);simp only[cO,kK,this,aN];rfl
theorem aNl(o:Option K2):∃k:K2,lkV o= .tup [lG k,.bool o.isSome]/\∀v,o=some v->k=v:=by
 cases o with
 | none=>exact⟨(0,0),rfl,fun v h=>by cases h⟩
 | some v=>exact⟨v,rfl,fun w h=>by cases h;rfl⟩
def aMG(b:aDg lG h mb u){k:K2}{m:cT}(c:m.val F= .map mb)(d:x.val F=lG k):gO (.lookup (.struct [(0,.int),(1,.int)]) (.agg [je 0,je 0]) true m x) F h=some (lkV (u k)):=(aKL b c d).trans (by unfold lkV;cases u k<;>rfl)
def FkI(S:St)(ub mb c rb:Nat)(E:K2->K2->Prop)(u0:K2->Option K2)(e:K2)(d:K2->Nat)(n:Nat)(A:bO)(X:St):Prop:=A.inr=false/\cD mb S X/\c<X.nx/\rb<X.nx/\(∃a b,X.h.get rb=jf [a,b])/\∃ (k:K2) (u:K2->Option K2),d k=n/\aAb X.h c k/\oV X ub mb u/\UpK u E/\(∀x a,u x=some a->d a<d x)/\(∀x r,eS u0 x r->eS u x r)/\(∀r,eS u0 e r->eS u k r)/\aC 0 A.F= .ptr ub 0/\aC 3 A.F= .ptr c 0/\aC 4 A.F= .ptr rb 0
def UpK.half_rk{b:K2->Nat}(h:∀x a,u x=some a->b a<b x){k a o:K2}(d:u k=some a)(f:u a=some o):∀x y,pQ u k o x=some y->b y<b x:=fun x y c=>by
 unfold pQ at c;split at c
 .rename_i e;cases c;subst e;have i:=h x a d;have j:=h a o f;omega
 .exact h x y c
theorem aAQ{k0 r0:K2}(H:Has fns)(hU:oV S ub mb u0)(aa:UpK u0 E)(hr:eS u0 k0 r0):
  iI fns (.fn 52 [] []) [.ptr ub 0,lG k0] S fun r S'=>r=lG r0/\cD mb S S'/\∃u,oV S' ub mb u/\UpK u E/\∀x r,eS u0 x r->eS u x r:=by
 have⟨rk,t⟩:=aa.rk;refine cK H.f52 (by simp) ?_;refine am ?_;refine cA ?_;refine cR (by refine am ?_;exact pZ _) ?_;intro S1 s1 n1 g1;refine am ?_
 refine bS ?_;intro S2 s2 n2 g2;refine ae ?_
 have M:=s1.trans s2;have e:=hU.same M;have b3:=hU.lu;have b6:=hU.lm;refine aO (bX (FkI S ub mb S.nx S1.nx E u0 k0 rk) ?_ (rk k0) _ _ ⟨rfl,⟨M.1,fun c q _=>M.2 c q⟩,au,au,⟨_,_,g2⟩,k0,u0,rfl,(s2.2 _ au).trans g1,e,aa,t,fun _ _ h=>h,fun _ h=>h,by refine⟨?_,?_,?_⟩<;>simp only[↓sU,sD,rE,↓reduceIte,rA]⟩);clear g1 g2 M e t;rintro n ⟨F,inr⟩ X ⟨q0,hX,lk,lr,⟨ra,bn,bp⟩,k,u,hn,hk,hu,C,t,ab,ac,J,D,N⟩;simp only at q0 J D N;subst q0;have bq:=ac r0 hr;have bs:=aG8 hu.hu;have bv:=mH hk;have an:=hu.lu;have ao:=hu.lm;have b8:=hu.ne;have b':∀Z:St,cD mb S Z->cD mb S Z:=fun _ h=>h;refine aO (aD (nN (fun _=>False) ?_));have s:=aHJ (u k);have⟨kv,ek,bw⟩:=aNl (u k);rw[ek] at s;have i:∀F:Fr,aC 13 F= .map mb->aC 14 F=lG k->gO (.lookup (.struct [(0,.int),(1,.int)]) (.agg [.int .i64 0,.int .i64 0]) true (.t 13) (.t 14)) F X.h=some (.tup [lG kv,.bool (u k).isSome]):=fun F a b=>by
  rw[<-ek];exact aMG hu.m a b
 have j:∀F:Fr,aC 13 F= .map mb->aCt (fun _=>False) X.nx (.lookup (.struct [(0,.int),(1,.int)]) (.agg [.int .i64 0,.int .i64 0]) true (.t 13) (.t 14)) F:=fun F a=>xZ a ao (fun h=>h);have il:eE (.lookup (.struct [(0,.int),(1,.int)]) (.agg [.int .i64 0,.int .i64 0]) true (.t 13) (.t 14))=true:=rfl;simp only[↓sU,sD,rE,↓reduceIte,rA,J,D,bE,bP,bF,aB,aP,aA,bs,yY,an,bv,xB,lk,An,i,j,il,s,xP,xN,rK];obtain⟨X1,w⟩:∃X1:St,X1=⟨(X.h.set (X.nx+9) (some (.cells [.int .i64 0,.int .i64 0] false 0))).set (X.nx+9) (some (.cells [.int .i64 (kv.1:Int),.int .i64 (kv.2:Int)] false 0)),X.nx+12⟩:=⟨_,rfl⟩;have f:cP 767 [⟨9,X.nx+9,.cells [.int .i64 0,.int .i64 0] false 0⟩] X.h=([],X.h.set (X.nx+9) (some (.cells [.int .i64 0,.int .i64 0] false 0))):=cL (m:=767) rfl;have ca:X1.nx=X.nx+12:=by rw[w]
 have y:Same X X1:=by
  rw[w];exact⟨Bq _ _,fun c q=>by simp only;rw[ef,if_neg au,ef,if_neg au]⟩
 have aw:aAb X1.h (X.nx+9) kv:=by
  rw[w];show T.get _ _=_;rw[ef,if_pos rfl]
 refine qA (S1:=X1) rfl ?_ ?_ ?_
 .refine ew f @pZ ?_;rw[w];exact mI (S:=⟨X.h.set (X.nx+9) (some (.cells [.int .i64 0,.int .i64 0] false 0)),X.nx+12⟩) jd rfl rfl
 .rw[f,w];exact⟨Af _,fun c q _=>by simp only;rw[ef,if_neg au]⟩
 rw[f];simp only[↓sU,sD,rE,↓reduceIte,rA];clear i j il s f w;have z:=hu.same y;have aI:aAb X1.h S.nx k:=(y.2 _ lk).trans hk;have aV:=mH aI;have bx:S.nx<X1.nx:=by omega
 have bz:S1.nx<X1.nx:=by omega
 have O:=(y.2 _ lr).trans bp;have P:cD mb S X1:=hX.trans ⟨y.1,fun c q _=>y.2 c q⟩;refine gH (de @fY ?_);cases d:u k with
 | none=>
  have bA:k=r0:=eS.uni (.root d) bq;refine aS (by simp only[↓sU,sD,rE,↓reduceIte,rA];first | rfl | trivial) ?_;refine cA (ew D aV ?_);refine fN (fun call=>by refine ez @dL N @pZ ?_;exact mI O rfl rfl) ?_;refine ae ?_;refine aT ?_;have bC:eK (.ptr S1.nx 0) true 2 (X1.h.set S1.nx (some (.cells [.int .i64 (k.1:Int),.int .i64 (k.2:Int)] false 0)))=some (lG k):=mH (by show T.get _ _=_;rw[ef,if_pos rfl]);refine ez @dE N bC ?_;refine⟨by rw[bA],⟨Av hX.1 y.1,fun c q p=>?_⟩,u,z.off2 (Af _) (by simp only;rw[ef,if_neg au]) (by simp only;rw[ef,if_neg au]),C,ab⟩;simp only;rw[ef,if_neg au];exact P.2 c q p
 | some kk=>
  obtain rfl:=bw kk d;refine aQ (by simp only[↓sU,sD,rE,↓reduceIte,rA];first | rfl | trivial) (aK ?_);refine ae ?_
  have b2:=t k kv d;have aZ:=aG8 z.hu;have a0:=z.lu;have a1:=z.lm;have bI:=mH aw;have a2:X.nx+9<X1.nx:=by omega
  refine aD (aD (nN (fun _=>False) ?_));have s:=aHJ (u kv);have⟨ko,a3,bM⟩:=aNl (u kv);rw[a3] at s;have i:∀F:Fr,aC 25 F= .map mb->aC 26 F=lG kv->gO (.lookup (.struct [(0,.int),(1,.int)]) (.agg [.int .i64 0,.int .i64 0]) true (.t 25) (.t 26)) F X1.h=some (.tup [lG ko,.bool (u kv).isSome]):=fun F a b=>by
   rw[<-a3];exact aMG z.m a b
  have j:∀F:Fr,aC 25 F= .map mb->aCt (fun _=>False) X1.nx (.lookup (.struct [(0,.int),(1,.int)]) (.agg [.int .i64 0,.int .i64 0]) true (.t 25) (.t 26)) F:=fun F a=>xZ a a1 (fun h=>h);have il:eE (.lookup (.struct [(0,.int),(1,.int)]) (.agg [.int .i64 0,.int .i64 0]) true (.t 25) (.t 26))=true:=rfl;simp only[↓sU,sD,rE,↓reduceIte,rA,J,bE,bP,bF,aB,aP,aA,aZ,yY,a0,bI,xB,a2,An,i,j,il,s,xP,xN,rK];obtain⟨X2,A⟩:∃X2:St,X2=⟨(X1.h.set (X1.nx+9) (some (.cells [.int .i64 0,.int .i64 0] false 0))).set (X1.nx+9) (some (.cells [.int .i64 (ko.1:Int),.int .i64 (ko.2:Int)] false 0)),X1.nx+12⟩:=⟨_,rfl⟩;have f:cP 767 [⟨9,X1.nx+9,.cells [.int .i64 0,.int .i64 0] false 0⟩] X1.h=([],X1.h.set (X1.nx+9) (some (.cells [.int .i64 0,.int .i64 0] false 0))):=cL (m:=767) rfl;have cc:X2.nx=X1.nx+12:=by rw[A]
  have B:Same X1 X2:=by
   rw[A];exact⟨Bq _ _,fun c q=>by simp only;rw[ef,if_neg au,ef,if_neg au]⟩
  have bR:aAb X2.h (X1.nx+9) ko:=by
   rw[A];show T.get _ _=_;rw[ef,if_pos rfl]
  refine qA (S1:=X2) rfl ?_ ?_ ?_
  .refine ew f @pZ ?_;rw[A];exact mI (S:=⟨X1.h.set (X1.nx+9) (some (.cells [.int .i64 0,.int .i64 0] false 0)),X1.nx+12⟩) jd rfl rfl
  .rw[f,A];exact⟨Af _,fun c q _=>by simp only;rw[ef,if_neg au]⟩
  rw[f];simp only[↓sU,sD,rE,↓reduceIte,rA];clear i j il s f A;have e:=z.same B;have a5:aAb X2.h S.nx k:=(B.2 _ bx).trans aI;have bU:aAb X2.h (X.nx+9) kv:=(B.2 _ a2).trans aw;have a8:=(B.2 _ bz).trans O;have ba:=mH a5;have bb:=mH bR;have bd:=aG8 e.hu;have R:=e.lu;have be:=e.lm;have bj:S.nx<X2.nx:=by omega
  have bV:X1.nx+9<X2.nx:=by omega
  have G:cD mb S X2:=P.trans ⟨B.1,fun c q _=>B.2 c q⟩;refine cA (ae ?_);refine bB (Q:=fun o A' Z=>o= .normal/\A'.inr=false/\X2.nx<=Z.nx/\(∀c,c<X2.nx->c≠mb->Z.h.get c=X2.h.get c)/\aC 0 A'.F= .ptr ub 0/\aC 3 A'.F= .ptr S.nx 0/\aC 4 A'.F= .ptr S1.nx 0/\aC 5 A'.F= .ptr (X.nx+9) 0/\∃u',oV Z ub mb u'/\UpK u' E/\(∀x a,u' x=some a->rk a<rk x)/\∀x r,eS u x r->eS u' x r) ?_ ?_
  .cases Y:u kv with
   | none=>
    refine aQ (by simp only[↓sU,sD,rE,↓reduceIte,rA];first | rfl | trivial) (aK ?_);refine ez J D N ?_;exact⟨Af _,fun _ _ _=>by trivial,u,e,C,t,fun _ _ h=>h⟩
   | some kk=>
    obtain rfl:=bM kk Y;have⟨Z,eZ,nZ,U,mZ⟩:=aEi (S:=⟨X2.h,X2.nx+7⟩) e.m k ko;have⟨bW,bY⟩:=C.half d Y;refine aS (by simp only[↓sU,sD,rE,↓reduceIte,rA];first | rfl | trivial) ?_;refine nN (fun c=>c=mb) ?_;have I:=e.ne;have nk:S.nx≠mb:=by omega
    have no:X1.nx+9≠mb:=by omega
    simp only[↓sU,sD,rE,↓reduceIte,rA,J,D,bE,bP,bF,aB,aP,aA,bd,yY,R,I,ba,bb,xB,bj,bV,nk,no,An];refine aK3 (S1:=Z) rfl ?_ ?_ ?_
    .refine ae ?_;exact eZ
    .exact⟨by rw[nZ];exact Af _,fun c q p=>U c p⟩
    refine ez J D N ?_;refine⟨by rw[nZ];exact Bq _ _,fun c q p=>U c p,pQ u k ko,⟨(U _ I).trans e.hu,mZ,Ae R (by rw[nZ];exact Bq _ _),Ae be (by rw[nZ];exact Bq _ _),I⟩,bW,UpK.half_rk t d Y,bY⟩
  clear J D N;rintro o ⟨F,inr⟩ Z ⟨rfl,q0,nZ,U,J,D,N,p5,u',bZ,bk,bm,W⟩;simp only at q0 J D N p5;subst q0;have b0:=mH (h:=Z.h) ((U _ au au).trans bU);have b1:aAb Z.h S.nx k:=(U _ bj au).trans a5;refine ae ?_
  refine aL (ew p5 b0 ?_);refine fN (fun call=>by refine ez @dL D @pZ ?_;exact mI b1 rfl rfl) ?_;refine ae ?_;refine⟨rk kv,au,rfl,⟨by simp only;have:=G.1;omega,fun c q p=>?_⟩,by simp only;omega,by simp only;omega,⟨ra,bn,?_⟩,kv,u',rfl,?_,bZ.off2 (Af _) (by simp only;rw[ef,if_neg au]) (by simp only;rw[ef,if_neg au]),bk,bm,fun x r h=>W x r (ab x r h),fun r h=>W _ _ ((ac r h).next d),by refine⟨?_,?_,?_⟩<;>simp only[↓sU,sD,rE,↓reduceIte,rA,J,D,N]⟩
  .simp only;rw[ef,if_neg au,U c (ax G.1) p];exact G.2 c q p
  .simp only;rw[ef,if_neg au,U _ au au];exact a8
  .show T.get _ _=_;rw[ef,if_pos rfl]
def aLh(a b:K2):nH .neq (.struct [(0,.int),(1,.int)]) (lG a) (lG b)=some (.bool (decide (a≠b))):=by
 show(bG (eqv skK (lG a) (lG b)) fun b=>some (AV.bool (cC b false true)))=_;rw[aKK,aH];by_cases h:a=b
 .rw[Ac h,aN,Aa (fun h'=>h' h)]
 .rw[Aa h,aU,Ac h]
def aJU{a b:K2}(H:Has fns)(hU:oV S ub mb u0)(C:UpK u0 E)(s:lJ E a b):
  iI fns (.fn 51 [] []) [.ptr ub 0,lG a,lG b] S fun _ e=>cD mb S e/\∃u,oV e ub mb u/\UpK u E/\(∀x y,lF u0 x y->lF u x y)/\lF u a b:=by
 have⟨r1,M⟩:=C.ex a;have⟨r2,N⟩:=C.ex b;refine cK H.f51 (by simp) ?_;refine am (cA ?_);refine cR (by exact am (pZ _)) ?_;intro S1 s1 n1 g1;refine am ?_;refine cR (by exact am (pZ _)) ?_;intro G s2 n2 g2;refine ae ?_
 have O:=s1.trans s2;have a0:=hU.same O;have ba:=hU.lu;have bb:=hU.lm;have c4:aAb G.h S.nx a:=(s2.2 _ au).trans g1;have c5:aAb G.h S1.nx b:=g2;have l4:=mH c4;have l5:=mH c5;have P:S.nx<G.nx:=by omega
 have Q:S1.nx<G.nx:=by omega
 have n4:S.nx≠mb:=by omega
 have n5:S1.nx≠mb:=by omega
 refine aD (oO (W:=fun c=>c=mb) (pre:=jnP) (suf:=jnX) (K:=6) (R:=fun F' Z ps=>ps= []/\G.nx<=Z.nx/\cD mb G Z/\(∃u,oV Z ub mb u/\UpK u E/\∀x r,eS u0 x r->eS u x r)/\aC 8 F'=lG r1/\aC 11 F'=lG r2/\aC 0 F'= .ptr ub 0/\aC 4 F'= .ptr S.nx 0/\aC 5 F'= .ptr S1.nx 0) rfl rfl rfl (fun X1 x1 bd be=>?_) ?_)
 .unfold jnP;refine ff l4 @xB P n4 @An ?_;refine jI rfl (ae (aW (aAQ H (a0.same x1) C M) ?_));rintro _ Y1 ⟨rfl,U,u1,a1,X,A⟩;refine⟨⟨U.1,fun c s d=>U.2 c (Ae s x1.1) d⟩,?_⟩;refine ff l5 @xB Q n5 @An ?_;refine jI rfl (ae (aW (aAQ H a1 X (A _ _ N)) ?_));rintro _ Y2 ⟨rfl,y2,u2,Y,aa,ab⟩;refine⟨⟨y2.1,fun c s d=>y2.2 c (Ae (Ae s x1.1) U.1) d⟩,?_⟩;refine ae ?_;exact⟨Av x1.1 (Av U.1 y2.1),(cD.trans ⟨x1.1,fun c s _=>x1.2 c s⟩ U).trans y2,u2,Y,aa,fun x r h=>ab _ _ (A _ _ h)⟩
 rintro F' e ps hs ls ⟨rfl,nZ,I,⟨u,hu,j,z⟩,p8,a2,p0,p4,p5⟩ D a3;have m1:∀i,i<6->Nat.testBit 63 i=true:=by decide
 have d4:aAb e.h S.nx a:=(I.2 _ P n4).trans c4;have d5:aAb e.h S1.nx b:=(I.2 _ Q n5).trans c5;have t:S1.nx≠S.nx:=by omega
 unfold jnX;refine iQ (v:=.undef) (S1:=⟨e.h.set S.nx (jf [je (r1.1:Int),je (r1.2:Int)]),e.nx⟩) (D _ m1) (fun call=>?_) ?_
 .rw[dL];simp only[fE,p4,p8,bL,pZ,aH];exact mI (S:=e) d4 rfl rfl
 simp only[bL,fC];refine iQ (v:=.undef) (S1:=⟨(e.h.set S.nx (jf [je (r1.1:Int),je (r1.2:Int)])).set S1.nx (jf [je (r2.1:Int),je (r2.2:Int)]),e.nx⟩) (az:Nat.testBit 127 6=true) (fun call=>?_) ?_
 .rw[dL];simp only[fE,p5,a2,bL,pZ,aH];exact mI (S:=⟨e.h.set S.nx (jf [je (r1.1:Int),je (r1.2:Int)]),e.nx⟩) (by simp only;rw[ef,if_neg t];exact d5) rfl rfl
 rw[iC];refine⟨?_,?_⟩
 .simp only[Ce,Bg,Da,Cf,Bw];exact a3 _ _ _ m1
 simp only[bL,fC];obtain⟨Z,J⟩:∃Z:St,Z=⟨(e.h.set S.nx (jf [je (r1.1:Int),je (r1.2:Int)])).set S1.nx (jf [je (r2.1:Int),je (r2.2:Int)]),e.nx⟩:=⟨_,rfl⟩;have bj:Z.nx=e.nx:=by rw[J]
 have kZ:∀c,c≠S.nx->c≠S1.nx->Z.h.get c=e.h.get c:=fun c h1 h2=>by rw[J];simp only;rw[ef,if_neg h2,ef,if_neg h1]
 have z4:aAb Z.h S.nx r1:=by rw[J];show T.get _ _=_;rw[ef,if_neg (Cg t),ef,if_pos rfl]
 have z5:aAb Z.h S1.nx r2:=by rw[J];show T.get _ _=_;rw[ef,if_pos rfl]
 rw[<-J];have f:oV Z ub mb u:=hu.off2 au (kZ _ au au) (kZ _ au au);have F:cD mb S Z:=⟨ax I.1,fun c s q=>by rw[kZ c au au,I.2 c au q];exact O.2 c s⟩;have n:=z _ _ M;have p:=z _ _ N;have ac:∀x y,lF u0 x y->lF u x y:=fun x y ⟨r,h1,h2⟩=>⟨r,z _ _ h1,z _ _ h2⟩;have an:=mH z4;have ao:=mH z5;refine ae ?_
 refine cA (ff p4 p5 an ao @aLh ?_);by_cases d:r1=r2
 .refine aQ (iu (Aa (show ¬r1≠r2 from fun h=>h d))) (aK ?_)
  exact⟨_,rfl,F,u,f,j,ac,r1,n,by rw[d];exact p⟩
 .have a5:lJ E r1 r2:=.trans (.symm (j.conr n)) (.trans s (j.conr p));have⟨j1,j2⟩:=j.join n.none p.none d a5;have⟨V,eV,nV,kV,mV⟩:=aEi (S:=⟨Z.h,Z.nx+7⟩) f.m r1 r2;have aw:=aG8 f.hu;have B:=f.lu;have aI:=f.lm;have w:=f.ne;have aV:S.nx<Z.nx:=by have:=I.1;omega
  have aZ:S1.nx<Z.nx:=by have:=I.1;omega
  refine aS (iu (Ac (show r1≠r2 from d))) ?_;refine nN (fun c=>c=mb) ?_;simp only[↓sU,sD,rE,↓reduceIte,rA,p0,p4,p5,bE,bP,bF,aB,aP,aA,aw,yY,B,w,an,ao,xB,aV,aZ,n4,n5,An];refine aK3 (S1:=V) rfl ?_ ?_ ?_
  .exact ae eV
  .exact⟨by rw[nV];exact Af _,fun c s q=>kV c q⟩
  refine ae ?_;refine⟨_,rfl,⟨Av F.1 (by rw[nV];exact Bq _ _),fun c s q=>(kV c q).trans (F.2 c s q)⟩,pQ u r1 r2,⟨(kV _ w).trans f.hu,mV,Ae B (by rw[nV];exact Bq _ _),Ae aI (by rw[nV];exact Bq _ _),w⟩,j1,fun x y a8=>?_,r2,?_,?_⟩
  .have⟨r,h1,h2⟩:=ac x y a8;exact⟨_,j2 _ _ h1,j2 _ _ h2⟩
  .have:=j2 _ _ n
   rwa [if_pos rfl] at this
  .have:=j2 _ _ p
   rwa [if_neg (Cg d)] at this
def nI(H:Has fns)(c:iv.cells=some [iv]):iI fns (.fn 39 [] []) [iv] S fun r X=>Same S X/\∃b,r= .fn 59 [] [.ptr b 0]/\S.nx<=b/\b<X.nx/\X.h.get b=jf [iv]:=by
 refine cK H.f39 (by simp) ?_;refine ae ?_;refine cA ?_;refine cR (cs:=[iv]) (by refine ae ?_;exact c) ?_;intro S1 s1 e d;refine ae ?_;refine cA (de @aBJ ?_);refine aT (ae ?_);exact⟨s1,S.nx,rfl,Af _,au,d⟩
def fJ(g:aX)(s:Nat):Nat:=(cv g (s:Int)).cr.toNat
def aUW(J:Nat->Nat->St->Prop)(X:St)(b c:AC)(p q:Nat)(d:Fr)(iv:AV)(n:Nat)(k:Nat)(A:bO)(Y:St):Prop:=A.inr=false/\∃s,s+k=n/\J s 0 Y/\Y.h.get X.nx=some (.loop .ready none d [p,q] b c)/\aC 0 A.F= .yld X.nx/\aC 6 A.F=iv/\aC 7 A.F=je (n:Int)/\aC 8 A.F=je (s:Int)
def aTq(J:Nat->Nat->St->Prop)(X:St)(b c:AC)(p q:Nat)(d:Fr)(iv:AV)(n s m:Nat)(k:Nat)(A:bO)(Y:St):Prop:=A.inr=false/\∃a,a+k=m/\J s a Y/\Y.h.get X.nx=some (.loop .ready none d [p,q] b c)/\aC 0 A.F= .yld X.nx/\aC 3 A.F=je (s:Int)/\aC 6 A.F=iv/\aC 7 A.F=je (n:Int)/\aC 8 A.F=je (s:Int)/\aC 14 A.F=je (m:Int)/\aC 15 A.F=je (a:Int)
def tE{f:cT}{p q:Nat}{j t:AC}{J:Nat->Nat->St->Prop}{R:St->Prop}(H:Has fns)(hi:A.inr=false)(hf:f.val A.F= .fn 59 [] [.ptr b 0])(hv:aG 2 cE S iv g.ch)(bq:g.ch.length<=10000)(be:∀s,s<g.ch.length->0<=(cv g (s:Int)).cr/\(cv g (s:Int)).cr<=10000)(hb:X.h.get b=jf [iv])(bs:b<X.nx)
  (hJ:∀s a Y,J s a Y->Same S Y/\X.nx<Y.nx)
  (ao:∀s a Y Y',J s a Y->Y.nx<=Y'.nx->(∀c,c<Y.nx->c≠X.nx->Y'.h.get c=Y.h.get c)->J s a Y')
  (aI:∀Y Y',R Y->Y.nx<=Y'.nx->(∀c,c<Y.nx->c≠X.nx->Y'.h.get c=Y.h.get c)->R Y')
  (J0:∀Y,X.nx<Y.nx->(∀c,c<X.nx->Y.h.get c=X.h.get c)->J 0 0 Y)
  (aV:∀s Y,s<g.ch.length->J s (fJ g s) Y->J (s+1) 0 Y)
  (aw:∀s a Y,s<g.ch.length->a<fJ g s->J s a Y->jP fns j ⟨cU (some q) (cU (some p) A.F (je (s:Int))) (je (a:Int)),true⟩ Y fun o A1 Y1=>o= .normal/\Y1=Y/\∀bl,jP fns t A1 ⟨Y.h.set X.nx bl,Y.nx⟩ fun o _ Y2=>Y2.h.get X.nx=bl/\Y.nx<=Y2.nx/\((o= .normal/\J s (a+1) Y2)\/(o= .ret/\R Y2)))
  (aZ:∀Y,J g.ch.length 0 Y->Q .normal A Y) (a0:∀Y,R Y->Q .ret A Y):jP fns (.rng f [p,q] j t) A X Q:=by
 have d:∀ (Y:St) (bl:Option AB) (c:Nat),c≠X.nx->(Y.h.set X.nx bl).get c=Y.h.get c:=fun Y bl c h=>by rw[ef,if_neg h]
 refine aQf hi hf ?_;generalize P:(⟨X.h.set X.nx (some (.loop .ready none A.F [p,q] j t)),X.nx+1⟩:St)=X0;have e0:X0.h.get X.nx=some (.loop .ready none A.F [p,q] j t):=by rw[<-P];simp only;rw[ef,if_pos rfl]
 have e1:∀c,c≠X.nx->X0.h.get c=X.h.get c:=fun c y=>by rw[<-P];exact d X _ c y
 have e2:X0.nx=X.nx+1:=by rw[<-P]
 have a1:J 0 0 X0:=J0 X0 au (fun c y=>e1 c au);have a2:X0.h.get b=jf [iv]:=(e1 b au).trans hb;have a3:=cH (p:=0) a2 rfl;clear P;refine cK H.f59 (by simp) ?_;refine ae ?_;refine cA (ez a3 hv.len @Ah ?_);have ab:∀Y:St,J g.ch.length 0 Y->Y.h.get X.nx=some (.loop .ready none A.F [p,q] j t)->∃st pend fr D G I c,Y.h.get X.nx=some (.loop st pend fr D G I)/\st≠ .busy/\aLJ pend=some c/\jP fns c A ⟨Y.h.set X.nx (some (.loop .exhausted pend fr D G I)),Y.nx⟩ Q:=fun Y n i=>
  ⟨_,_,_,_,_,_,.skip,i,(by intro h;cases h),rfl,aK (aZ _ (ao _ _ _ _ n (Af _) (fun c _ y=>d Y _ c y)))⟩
 have an:∀Y:St,R Y->Y.h.get X.nx=some (.loop .done (some .ret) A.F [p,q] j t)->∃st pend fr D G I c,Y.h.get X.nx=some (.loop st pend fr D G I)/\st≠ .busy/\aLJ pend=some c/\jP fns c A ⟨Y.h.set X.nx (some (.loop .exhausted pend fr D G I)),Y.nx⟩ Q:=fun Y n i=>
  ⟨_,_,_,_,_,_,.ret,i,(by intro h;cases h),rfl,aT (a0 _ (aI _ _ n (Af _) (fun c _ y=>d Y _ c y)))⟩
 refine bB (Q:=fun o A' Y=>(o= .normal/\J g.ch.length 0 Y/\Y.h.get X.nx=some (.loop .ready none A.F [p,q] j t))\/(o= .ret/\R Y/\Y.h.get X.nx=some (.loop .done (some .ret) A.F [p,q] j t))) (aO (bX (aUW J X j t p q A.F iv g.ch.length) ?_ g.ch.length _ _ ⟨rfl,0,au,a1,e0,af,af,ag,ag⟩)) ?_;rotate_left
 .rintro o ⟨F,inr⟩ Y (⟨rfl,n,i⟩|⟨rfl,n,i⟩)
  .skip
   exact⟨_,rfl,ab Y n i⟩
  .refine ae ?_
   exact an Y n i
 clear a1 e0 e1 e2 a2 a3 ab an;rintro k ⟨F,inr⟩ Y ⟨q0,s,bv,T,hl,z,B,C,w⟩;simp only at q0 z B C w;subst q0;have⟨sY,lY⟩:=hJ _ _ _ T;refine cA (ew C w ?_);by_cases M:s<g.ch.length;rotate_left
 .refine aD (aQ im (bT ?_));refine ae ?_;obtain rfl:s=g.ch.length:=by omega
  exact .inl ⟨T,hl⟩
 refine aD (aS im (aK ?_));refine ae ?_
 have⟨e,br,qr,bj,bk,_,he,a5,_⟩:=aG.at hv az (Ab M);have he:e= [je g.ch[s].player,je g.ch[s].cr]:=he;subst he;rw[<-jH sY bk] at a5;have ei:cv g (s:Int)=g.ch[s]:=by
  unfold cv;rw[Ay,Ad,Ab M];rfl
 have⟨bw,bx⟩:=be s M;have a8:g.ch[s].cr=((fJ g s:Nat):Int):=by unfold fJ;rw[<-ei];omega
 have hm:fJ g s<=10000:=by unfold fJ;omega
 have w1:=ed s
 refine aD (aO (aD (aL ?_)));refine fx B w @aJ bj a5 ?_;refine bS ?_;intro W1 v1 k1 n;refine am ?_
 refine cQ (b:=Y.nx) (aq) (by refine am ?_;exact aY _) n rfl rfl ?_;intro W v2 k2 i;refine am ?_;have sW:Same Y W:=v2.same v1 (Af _);have ba:=ao _ _ _ W T sW.1 fun c y _=>sW.2 c y;have bb:=(sW.2 _ lY).trans hl;clear v1 v2 n k1;refine cA (fe @aB @aA (aAl i) a8 ?_);refine bB (Q:=fun o A' Z=>(o= .normal/\aTq J X j t p q A.F iv g.ch.length s (fJ g s) 0 A' Z)\/(o= .ret/\R Z/\Z.h.get X.nx=some (.loop .done (some .ret) A.F [p,q] j t))) (aO (bX (aTq J X j t p q A.F iv g.ch.length s (fJ g s)) ?_ (fJ g s) _ _ ⟨rfl,0,au,ba,bb,ah z,af,ah B,ah C,ah w,af,ag⟩)) ?_;rotate_left
 .clear z B C w;rintro o ⟨F,inr⟩ Z (⟨rfl,q0,a,ha,U,N,z,p3,B,C,w,_,_⟩|⟨rfl,n,i⟩)
  .simp only at q0 z B C w;subst q0;obtain rfl:a=fJ g s:=by omega
   refine ae ?_
   refine aL (ew w w1 ?_);exact⟨k - 1,au,rfl,s+1,au,aV s Z M U,N,by refine⟨?_,?_,?_,?_⟩<;>simp only[↓sU,sD,rE,↓reduceIte,rA,z,B,C]⟩
  .refine ae ?_
   exact .inr ⟨n,i⟩
 clear z B C w i ba bb T hl sY lY sW k2;rintro k' ⟨F,inr⟩ Z ⟨q0,a,bm,U,N,z,p3,B,C,w,aa,O⟩;simp only at q0 z p3 B C w aa O;subst q0;refine cA (ew aa O ?_);by_cases bn:a<fJ g s;rotate_left
 .refine aD (aQ im (bT ?_));refine ae ?_;obtain rfl:k'=0:=by omega
  exact .inl ⟨rfl,a,bm,U,N,by refine⟨?_,?_,?_,?_,?_,?_,?_⟩<;>simp only[↓sU,sD,rE,↓reduceIte,rA,z,p3,B,C,w,aa,O]⟩
 refine aD (aS im (aK ?_));refine ae ?_
 have w2:=ed a
 refine aD (aO (aD (aL ?_)));refine de O ?_;refine cA (ew z p3 ?_);refine bK (ae ?_);refine aW (Q:=fun r V=>(r= .bool true/\J s (a+1) V/\V.h.get X.nx=some (.loop .ready none A.F [p,q] j t))\/(r= .bool false/\R V/\V.h.get X.nx=some (.loop .done (some .ret) A.F [p,q] j t))) (aPn N rfl (bB (aw s a Z M bn U) ?_)) ?_
 .rintro o A1 Y1 ⟨rfl,rfl,bp⟩;refine⟨rfl,none,A.F,[p,q],j,N,bB (bp _) ?_⟩;rintro o A2 Y2 ⟨g2,n2,i⟩;refine⟨none,A.F,[p,q],j,t,g2,?_⟩;rcases i with⟨rfl,i⟩|⟨rfl,i⟩
  .exact .inl ⟨rfl,.inl ⟨rfl,ao _ _ _ _ i (Af _) (fun c _ y=>d Y2 _ c y),jd⟩⟩
  .exact .inr ⟨(by intro h;cases h),.inr ⟨rfl,aI _ _ i (Af _) (fun c _ y=>d Y2 _ c y),jd⟩⟩
 .rintro r V (⟨rfl,n,i⟩|⟨rfl,n,i⟩)
  .refine ew @fY @Cm ?_;refine aQ (af) (aK ?_);refine ae ?_
   refine aL (ew O w2 ?_);exact⟨k' - 1,au,rfl,a+1,au,n,i,by refine⟨?_,?_,?_,?_,?_,?_,?_⟩<;>simp only[↓sU,sD,rE,↓reduceIte,rA,z,p3,B,C,w,aa]⟩
  .refine ew @fY @Dl ?_;refine aS (af) (aT ?_);refine ae ?_;exact .inr ⟨n,i⟩
theorem aJS:∀ {n:Nat} {f:Nat->Nat},(∀k,k<n->f k<n)->(∀k l,k<n->l<n->f k=f l->k=l)->∀y,y<n->∃k,k<n/\f k=y
 | 0,f,_,_,y,q=>absurd q (Ca _)
 | n+1,f,i,d,y,q=>by
  have s:=aJS (n:=n) (f:=fun k=>if f k=n then f n else f k) (fun k j=>by
   have z:=i k au;have A:=i n au;show(if f k=n then f n else f k)<n;split
   .rename_i e;have:f n≠n:=fun t=>by have:=d k n au au au;omega
    omega
   .omega) (fun k l j B e=>by
   have e:(if f k=n then f n else f k)=(if f l=n then f n else f l):=e;have a:=d k l au au;have b:=d k n au au;have c:=d l n au au;split at e
   .split at e
    .exact a au
    .have:=c au;omega
   .split at e
    .have:=b au;omega
    .exact a au)
  by_cases e:y=f n
  .exact⟨n,au,e.symm⟩
  by_cases p:y<n
  .have⟨k,j,h⟩:=s y p;have h:(if f k=n then f n else f k)=y:=h;split at h
   .exact absurd h.symm e
   .exact⟨k,au,h⟩
  .have w:y=n:=by omega
   have:=i n au;have⟨k,j,h⟩:=s (f n) au;have h:(if f k=n then f n else f k)=f n:=h;split at h
   .rename_i t;exact⟨k,au,au⟩
   .have:=d k n au au  h;omega
section
variable {g:aX}{L:bt}{m:bu}{first:bu}{act act':bt}
def aNF(g:aX)(m:bu)(x:K2):K2:=(((dx g m).getD x.1 0).toNat,(((dy g m).getD x.1 []).getD x.2 0).toNat)
def ChE(g:aX)(L:bt)(x y:K2):Prop:=x.1<g.ch.length/\x.2<fJ g x.1/\∃m∈L,y=aNF g m x
def aDy(G:eO g){s:Nat}(b:s<g.ch.length):fJ g s=(cu g (eG g s)).next.length:=by
 unfold fJ;rw[xV G b];rfl
def aH4(G:eO g)(A:gT g m){s:Nat}(c:s<g.ch.length):fJ g s=fJ g ((dx g m).getD s 0).toNat/\(∀a,a<fJ g s->(((dy g m).getD s []).getD a 0).toNat<fJ g s/\0<=((dy g m).getD s []).getD a 0)/\∀a b,a<fJ g s->b<fJ g s->(((dy g m).getD s []).getD a 0).toNat=(((dy g m).getD s []).getD b 0).toNat->a=b:=by
 have⟨f1,f2,f3⟩:=G.fst _ c;have⟨t,w⟩:=aHa G A c;have d:((dx g m).getD s 0).toNat<g.ch.length:=by omega
 have⟨i,j,n⟩:=G.fst _ d;have y:=aDy G c;have z:=aDy G d;have f:(cu g (gE m (eG g s))).kind=2:=by rw[<- (A.A.like _ f1).1];exact f2
 have el:=aNP G i (A.M.at f1).2 j f (by rw[n,aGj c];have:=aHa G A c;rw[aGj c] at this;omega);have ek:=(A.A.like _ f1).2.1;refine⟨au,fun a p=>?_,fun a b p B e=>?_⟩
 .rw[aEV c au];have:=(aJV A f1 (k:=a) au).1;have:=A.A.kid _ a f1 au;omega
 .rw[aEV c au,aEV c au] at e;have h:=(aJV A f1 (k:=a) au).2;have q:=(aJV A f1 (k:=b) au).2;rw[e,q] at h;have C:=G.kids _ f1 a au;have cb:=G.kids _ f1 b au;have:=A.inj au au  h.symm;exact(G.only f1 au f1 au au).2
def TrS(g:aX)(L:bt)(s r:Nat):Prop:=fJ g s=fJ g r/\∃σ:Nat->Nat,(∀a,a<fJ g s->σ a<fJ g r/\lJ (ChE g L) (s,a) (r,σ a))/\∀a b,a<fJ g s->b<fJ g s->σ a=σ b->a=b
open Classical in
theorem aDY(G:eO g)(D:∀m∈L,gT g m){s:Nat}(h:aAc (tY g.ch.length (L.map (dx g))) s r):TrS g L s r:=by
 induction h with
 | edge e=>
  rename_i s r;have⟨B,q,F,e⟩:=e;obtain⟨m,C,rfl⟩:=Cq.1 F;have⟨p,i,w⟩:=aH4 G (D m C) B;subst e;exact⟨p,fun a=>(((dy g m).getD s []).getD a 0).toNat,fun a d=>⟨Ae (i a d).1 (Fj p),.edge ⟨B,d,m,C,rfl⟩⟩,w⟩
 | refl s=>exact⟨rfl,fun a=>a,fun a d=>⟨d,.refl _⟩,fun _ _ _ _ e=>e⟩
 | symm _ H=>
  rename_i s r _;have⟨p,σ,i,w⟩:=H;have j:=aJS (n:=fJ g s) (f:=σ) (fun k I=>by have:=(i k I).1;omega) w;refine⟨p.symm,fun b=>if h:b<fJ g s then Classical.choose (j b h) else 0,fun b z=>?_,fun a b d z e=>?_⟩
  .have c:b<fJ g s:=by omega
   have⟨A,t⟩:=Classical.choose_spec (j b c);show(if h:b<fJ g s then Classical.choose (j b h) else 0)<_/\lJ _ _ (s,if h:b<fJ g s then Classical.choose (j b h) else 0);rw[dif_pos c];refine⟨A,?_⟩;have:=(i _ A).2;rw[t] at this;exact .symm this
  .have y:a<fJ g s:=by omega
   have c:b<fJ g s:=by omega
   have e:(if h:a<fJ g s then Classical.choose (j a h) else 0)=(if h:b<fJ g s then Classical.choose (j b h) else 0):=e;rw[dif_pos y,dif_pos c] at e;have t:=(Classical.choose_spec (j a y)).2;have d2:=(Classical.choose_spec (j b c)).2;rw[e,d2] at t;exact t.symm
 | trans _ _ J M=>
  have⟨p,σ,i,w⟩:=J;have⟨N,O,P,Q⟩:=M;refine⟨p.trans N,fun a=>O (σ a),fun a d=>?_,fun a b d z e=>?_⟩
  .have⟨A,t⟩:=i a d;have⟨d1,d2⟩:=P (σ a) au;exact⟨d1,.trans t d2⟩
  .exact w a b d z (Q _ _ (by have:=(i a d).1;omega) (by have:=(i b z).1;omega) e)
def Dup(g:aX)(L:bt)(first:bu):Prop:=∃s a b,s<g.ch.length/\first.getD s 0=(s:Int)/\a<b/\b<fJ g s/\lJ (ChE g L) (s,a) (s,b)
structure sL(g:aX)(L:bt)(first:bu)(act:bt):Prop where
 len:act.length=g.ch.length
 row:∀s,s<g.ch.length->(act.getD s []).length=fJ g s
 at_:∀s a,s<g.ch.length->a<fJ g s->∃b:Nat,(act.getD s []).getD a 0=(b:Int)/\b<fJ g (first.getD s 0).toNat/\lJ (ChE g L) (s,a) ((first.getD s 0).toNat,b)
def zG(b:vC g.ch.length (tY g.ch.length (L.map (dx g))) first){s:Nat}(d:s<g.ch.length):(first.getD s 0).toNat<g.ch.length/\first.getD (first.getD s 0).toNat 0=(((first.getD s 0).toNat:Nat):Int):=by
 have e:=b.le s d;have c:=aG0 (f:=fun x=>first.getD x 0) b.inv (b.con s d);have c:first.getD s 0=first.getD (first.getD s 0).toNat 0:=c;refine⟨au,?_⟩;rw[<-c];omega
def aN4(G:eO g)(t:∀m∈L,gT g m)(f:vC g.ch.length (tY g.ch.length (L.map (dx g))) first){s a:Nat}(i:s<g.ch.length)(w:a<b)(j:b<fJ g s)(y:lJ (ChE g L) (s,a) (s,b)):Dup g L first:=by
 have⟨n,p⟩:=zG f i;have⟨F,σ,q,z⟩:=aDY G t (f.con s i);have⟨A,B⟩:=q a au;have⟨C,D⟩:=q b j;have d:σ a≠σ b:=fun e=>by have:=z a b au j e;omega
 have c:lJ (ChE g L) ((first.getD s 0).toNat,σ a) ((first.getD s 0).toNat,σ b):=.trans (.symm B) (.trans y D);rcases Nat.lt_or_gt_of_ne d with h|h
 .exact⟨_,σ a,σ b,n,p,h,C,c⟩
 .exact⟨_,σ b,σ a,n,p,h,A,.symm c⟩
def aNQ(y:vC g.ch.length (tY g.ch.length (L.map (dx g))) first)(j:¬Dup g L first)(h:sL g L first act)(h':sL g L first act'):act=act':=by
 have e:∀s,s<g.ch.length->act.getD s []=act'.getD s []:=fun s d=>pT (by rw[h.row s d,h'.row s d]) fun a f=>by
  rw[h.row s d] at f;have⟨b,z,A,n⟩:=h.at_ s a d f;have⟨i,B,C,p⟩:=h'.at_ s a d f;have⟨q,t⟩:=zG y d;rw[z,B];rcases Dw b i with c|rfl|c
  .exact absurd ⟨_,b,i,q,t,c,C,.trans (.symm n) p⟩ j
  .rfl
  .exact absurd ⟨_,i,b,q,t,c,A,.trans (.symm p) n⟩ j
 refine Dc (by rw[h.len,h'.len]) fun s w D=>?_;have:=e s (by rw[<-h.len];exact w);rw[Ad,Ab w,Ad,Ab D] at this;exact this
end
def zO{k:IntKind}(h:bN k S v l)(f:S.h.get mb=some (.map d)):aM v≠some mb:=fun e=>by
 rcases h with⟨_,rfl|rfl⟩|⟨b,off,cap,o,cs,rfl,_,_,c,_⟩
 .cases e
 .cases e
 .cases e;unfold cI at c;rw[f] at c;cases c
def aN3{t:List (AV×AV)}(h:aG 1 nK S v L)(j:S.h.get mb=some (.map t))(n:S.nx<=X.nx)(p:∀c,c<S.nx->c≠mb->X.h.get c=S.h.get c):aG 1 nK X v L:=by
 rcases h with h|⟨b,off,cap,o,cs,rfl,w,q,d,y⟩
 .exact .inl h
 .have z:b≠mb:=fun e=>by
   subst e;unfold cI at d;rw[j] at d;cases d
  refine .inr ⟨b,off,cap,o,cs,rfl,w,Ae q n,by unfold cI at d ⊢;rw[p b q z];exact d,fun i a hi=>?_⟩;have⟨e,A,B,r,C,f⟩:=y i a hi;exact⟨e,A,B,r,C,eT f n fun c s=>p c (dP f s) fun e=>zO f j (by rw[<-e];exact s)⟩
def aR7(h:bN .i64 S v l)(f:S.h.get mb=some (.map d))(i:S.nx<=X.nx)(j:∀c,c<S.nx->c≠mb->X.h.get c=S.h.get c):bN .i64 X v l:=
 eT h i fun c b=>j c (dP h b) fun e=>zO h f (by rw[<-e];exact b)
def oV.mp(h:oV S ub mb u):∃b,S.h.get mb=some (.map b):=by
 have⟨l,c,_⟩:=h.m;exact⟨_,c⟩
def aCu{p:Nat}{x:AV}(c:eK (.ptr b p) false 1 h=some x)(f:h.get mb=some (.map d)):b≠mb:=fun e=>by
 subst e;have c:nF h b p=some x:=c;unfold nF cI at c;rw[f] at c;cases c
def aFW(h:i<l.length):l[i]? =some (l.getD i 0):=by rw[Ad,Ab h];rfl
def uD(h:bN .i64 S v l)(hi:i<l.length):∃b q,eQ (.slice 1) v i=some (.ptr b q)/\b<S.nx/\eK (.ptr b q) false 1 S.h=some (je (l.getD i 0)):=by
 have⟨e,b,q,f,j,_,c,_,n⟩:=aG.at (toG h) az (aFW hi);have c:e= [je (l.getD i 0)]:=c;subst c;have d:=n 0 _ rfl;rw[Bs] at d;exact⟨b,q,f,j,d⟩
def vU(g:aX)(s a:Nat)(x:K2):Prop:=(x.1<s/\x.2<fJ g x.1)\/(x.1=s/\x.2<a)
def aEN{s:Nat}{x:K2}(h:vU g (s+1) 0 x):vU g s (fJ g s) x:=by
 unfold vU at h ⊢;rcases h with⟨c,b⟩|⟨_,b⟩
 .rcases De x.1 s with h|h
  .exact .inl ⟨h,b⟩
  .have e:x.1=s:=by omega
   exact .inr ⟨e,by rw[e] at b;exact b⟩
 .omega
def zS{s a:Nat}{x:K2}(h:vU g s (a+1) x):vU g s a x\/x=(s,a):=by
 unfold vU at h ⊢;rcases h with h|⟨b,c⟩
 .exact .inl (.inl h)
 .by_cases e:x.2=a
  .have⟨x1,x2⟩:=x;simp only at b e;subst b e;exact .inr rfl
  .exact .inl (.inr ⟨b,au⟩)
def aTv(X:St)(ub mb:Nat)(g:aX)(L:bt)(m:bu)(u0:K2->Option K2)(s a:Nat)(Y:St):Prop:=X.nx<Y.nx/\(∀c,c<X.nx->c≠mb->Y.h.get c=X.h.get c)/\∃u,oV Y ub mb u/\UpK u (ChE g L)/\(∀x y,lF u0 x y->lF u x y)/\∀x,vU g s a x->lF u x (aNF g m x)
noncomputable def aQv:AC:=(.seq (.reg [mt 15 67]) (.reg [mt 16 68]))
noncomputable def aQs:AC:=qk4
def aQR{a:Nat}(c:aC t1 F=je (a:Int))(d:aC t2 F=je (b:Int)):gO (.build [je 0,je 0] [(0,1,.t t1),(1,1,.t t2)]) F h=some (lG (a,b)):=by
 show(bG (eI _ (dJ F [(0,1,.t t1),(1,1,.t t2)])) fun cs=>some (AV.agg cs))=_;simp only[dJ,show(cT.t t1).val F=je (a:Int) from c,show(cT.t t2).val F=je (b:Int) from d,eI,dD,aH];rfl
def aJb{z:cd}{ps:List (Nat×Nat×cT)}:eE (.build z ps)=false:=rfl
def aRS{m:bu}{av:AV}{b12 b14:Nat}(H:Has fns)(G:eO g)(AM:gT g m)(hm:m∈L)(hi:A.inr=false)(hf:aC r A.F= .fn 59 [] [.ptr bc 0])(hb:X.h.get bc=jf [iv])(ab:bc<X.nx)
  (hS:Same S X) (bk:S.nx<=mb) (hv:aG 2 cE S iv g.ch) (ac:∀s,s<g.ch.length->0<=(cv g (s:Int)).cr/\(cv g (s:Int)).cr<=10000)
  (D:oV X ub mb u0) (an:UpK u0 (ChE g L)) (p9:aC 9 A.F= .ptr b9 0) (ao:aC 12 A.F= .ptr b12 0) (aw:aC 14 A.F= .ptr b14 0)
  (g9:X.h.get b9=jf [.ptr ub 0]) (aI:X.h.get b12=jf [fv]) (aV:X.h.get b14=jf [av]) (l9:b9<X.nx) (aZ:b12<X.nx) (a0:b14<X.nx) (n9:b9≠mb) (I:b12≠mb) (M:b14≠mb)
  (hI:bN .i64 X fv (dx g m)) (hA:aG 1 nK X av (dy g m))
  (hQ:∀Y,aTv X ub mb g L m u0 g.ch.length 0 Y->Q .normal A Y):jP fns (.rng (.t r) [67,68] aQv aQs) A X Q:=by
 have⟨es,N⟩:=D.mp;have bm:=G.ni;have bn:=D.lm;refine tE (S:=S) (R:=fun _=>False) (J:=aTv X ub mb g L m u0) H hi hf hv au ac hb ab (fun s a Y h=>⟨⟨by have:=hS.1;have:=h.1;omega,fun c e=>by rw[h.2.1 c (Ae e hS.1) au];exact hS.2 c e⟩,h.1⟩) (fun s a Y Y' h hn z=>?_) (fun Y Y' h=>absurd h id) (fun Y hn z=>?_) (fun s Y B h=>⟨h.1,h.2.1,by
   have⟨u,h1,O,i,P⟩:=h.2.2;exact⟨u,h1,O,i,fun x j=>P x (aEN j)⟩⟩) (fun s a Y B ha h=>?_) hQ (fun Y h=>absurd h id)
 .have⟨h1,O,u,i,P,h5,h6⟩:=h;have:=i.lu;have:=i.lm;have a1:=D.lu;exact⟨au,fun c e d=>(z c au au).trans (O c e d),u,i.off2 hn (z _ i.lu au) (z _ i.lm au),P,h5,h6⟩
 .exact⟨hn,fun c e _=>z c e,u0,D.off (Nat.le_of_lt hn) z,an,fun _ _ h=>h,fun x j=>by unfold vU at j;omega⟩
 .unfold aQv;refine cA (ae ?_);refine aL (ae ?_);intro bl;have⟨h1,O,u,i,P,h5,h6⟩:=h;generalize n:(⟨Y.h.set X.nx bl,Y.nx⟩:St)=Y';have nY:Y'.nx=Y.nx:=by rw[<-n]
  have q:∀c,c≠X.nx->Y'.h.get c=Y.h.get c:=fun c e=>by rw[<-n];simp only;rw[ef,if_neg e]
  have T:Y'.h.get X.nx=bl:=by rw[<-n];simp only;rw[ef,if_pos rfl]
  have C:∀c,c<X.nx->c≠mb->Y'.h.get c=X.h.get c:=fun c e d=>(q c au).trans (O c e d);have a1:=D.lu;have U:oV Y' ub mb u:=i.off2 au (q _ au) (q _ au);have⟨bp,f⟩:=U.mp;have W:=aR7 hI N au C;have Z:=aN3 hA N au C;have⟨i1,i2⟩:=aHa G AM B;have⟨k1,k2,k3⟩:=aH4 G AM B;have bq:(dx g m).length=g.ch.length:=by simp [dx]
  have bs:(dy g m).length=g.ch.length:=by simp [dy]
  have bv:((dy g m).getD s []).length=fJ g s:=by rw[aKu B,Al,Bj,aDy G B]
  have⟨xb,xq,xi,a2,t⟩:=uD W (au:s<(dx g m).length);rw[show(dx g m).getD s 0=(((dx g m).getD s 0).toNat:Int) by omega] at t;obtain⟨_,yb,yq,yi,a3,_,⟨ra,rfl,aa⟩,_,yld⟩:=aG.at Z az (vL (au:s<(dy g m).length));have yld:=yld 0 _ rfl;rw[Bs] at yld;have⟨zb,zq,zi,a5,w⟩:=uD aa (au:a<((dy g m).getD s []).length);have bw:=(k2 a ha).2;rw[show((dy g m).getD s []).getD a 0=((((dy g m).getD s []).getD a 0).toNat:Int) by omega] at w;have nx:=aCu t f;have ny:=aCu yld f;have nz:=aCu w f;have d9:=cH (p:=0) ((C _ l9 n9).trans g9) rfl;have d12:=cH (p:=0) ((C _ aZ I).trans aI) rfl;have d14:=cH (p:=0) ((C _ a0 M).trans aV) rfl;have a8:=bN.self W;have ba:=aG.self Z;have bb:=bN.self aa;have b9:b9<Y'.nx:=by omega
  have b12:b12<Y'.nx:=by omega
  have b14:b14<Y'.nx:=by omega
  have bd:=fun(F:Fr) (h:Ev.T AB) (e1:aC 70 F=je (s:Int)) (e2:aC 71 F=je (a:Int))=>aQR (h:=h) e1 e2;have be:=fun(F:Fr) (h:Ev.T AB) (e1:aC 76 F=je (((dx g m).getD s 0).toNat:Int)) (e2:aC 83 F=je ((((dy g m).getD s []).getD a 0).toNat:Int))=>aQR (h:=h) e1 e2;unfold aQs;refine aO (nN (fun c=>c=mb) ?_);simp only[↓sU,sD,rE,↓reduceIte,rA,p9,ao,aw,d9,d12,d14,b9,b12,b14,n9,I,M,An,a8,ba,bb,aJ,xi,t,a2,nx,yi,yld,a3,ny,zi,w,a5,nz,bd,be,aJb];refine jI rfl ?_;refine ae ?_;have hE:ChE g L (s,a) (aNF g m (s,a)):=⟨B,ha,m,hm,rfl⟩;refine aW (aJU (a:=(s,a)) (b:=aNF g m (s,a)) H (U.same (Same.nx Y' _)) P (.edge hE)) ?_;rintro rr V ⟨v1,u',v2,v3,v4,v5⟩;refine⟨⟨v1.1,fun c e d=>v1.2 c (by simp only;omega) d⟩,?_⟩;have nV:Y'.nx<=V.nx:=Av (Bq _ _) v1.1
  have bj:X.nx≠mb:=by omega
  have bx:X.nx<Y'.nx:=by omega
  refine⟨(v1.2 _ (by simp only;omega) bj).trans T,au,.inl ⟨by show X.nx<V.nx;omega,fun c e d=>(v1.2 c (by simp only;omega) d).trans (C c e d),u',v2,v3,fun x y h=>v4 _ _ (h5 _ _ h),fun x j=>?_⟩⟩;rcases zS j with j|rfl
  .exact v4 _ _ (h6 x j)
  .exact v5
def aTj(b b4 b5 b7 b9:Nat)(F:Fr):Prop:=aC 2 F= .ptr b 0/\aC 4 F= .ptr b4 0/\aC 5 F= .ptr b5 0/\aC 7 F= .ptr b7 0/\aC 9 F= .ptr b9 0
def aRJ(b:St)(ub mb d b4 b5 b7 b9:Nat)(mv:AV)(g:aX)(L:bt)(k:Nat)(A:bO)(X:St):Prop:=A.inr=false/\b.nx<=X.nx/\(∀c,c<b.nx->c≠mb->X.h.get c=b.h.get c)/\∃ (j:Nat) (u:K2->Option K2),j+k=L.length/\oV X ub mb u/\UpK u (ChE g L)/\(∀x:K2,x.1<g.ch.length->x.2<fJ g x.1->∀q,q<j->lF u x (aNF g (L.getD q []) x))/\aTj d b4 b5 b7 b9 A.F/\aC 38 A.F=mv/\aC 39 A.F=je (L.length:Int)/\aC 40 A.F=je (j:Int)
def aRQ{t:St}{M:Fr}{z:Nat}(H:Has fns)(hf:dC g=0)(N:∀m∈L,gT g m)(hL:L.length<=16)(hS:Same S t)(hn:aG 6 cF S nv g.cg)(hi:aG 2 cE S iv g.ch)(hm:aG 1 nK S mv L)(aI:S.nx<=mb)
  (w:oV t ub mb u0) (i:UpK u0 (ChE g L)) (l2:z<t.nx) (l9:b9<t.nx) (n2:z≠mb) (n9:b9≠mb) (g2:t.h.get z=jf [je g.cm,nv,iv]) (g9:t.h.get b9=jf [.ptr ub 0])
  (hZ:aTj z b4 b5 b7 b9 M) (f:aC 38 M=mv) (h:aC 39 M=je (L.length:Int)) (d:aC 40 M=je ((0:Nat):Int)):
  jP fns aTu ⟨M,false⟩ t fun o A' X=>o= .normal/\aRJ t ub mb z b4 b5 b7 b9 mv g L 0 A' X:=by
 have G:=iN hf;have be:=G.ni;have aV:∀s,s<g.ch.length->0<=(cv g (s:Int)).cr/\(cv g (s:Int)).cr<=10000:=fun s hs=>by
  have⟨f1,_,_⟩:=G.fst s hs;rw[xV G hs];have:=G.nxt _ f1;omega
 refine aO (bX (aRJ t ub mb z b4 b5 b7 b9 mv g L) ?_ L.length _ _ ⟨rfl,Af _,fun _ _ _=>rfl,0,u0,au,w,i,fun _ _ _ q hq=>au,hZ,f,h,d⟩);have bj:=w;have bk:=w.lu;have bm:=w.lm;rintro k ⟨F,inr⟩ X ⟨q0,nX,O,j,u,aZ,w,i,hd,⟨I,p4,p5,p7,p9⟩,f,h,d⟩;simp only at q0 I p4 p5 p7 p9 f h d;subst q0;have J:Same S X:=⟨Av hS.1 nX,fun c hc=>by rw[O c (Ae hc hS.1) au];exact hS.2 c hc⟩;refine cA (ew h d ?_);by_cases A:j<L.length;rotate_left
 .refine aD (aQ im (bT ?_));refine ae ?_;obtain rfl:k=0:=by omega
  exact⟨rfl,nX,O,j,u,aZ,w,i,hd,(by refine⟨?_,?_,?_,?_,?_⟩<;>simp only[↓sU,sD,rE,↓reduceIte,rA,I,p4,p5,p7,p9]),by refine⟨?_,?_,?_⟩<;>simp only[↓sU,sD,rE,↓reduceIte,rA,f,h,d]⟩
 refine aD (aS im (aK ?_));refine ae ?_
 have w1:=ed j
 have⟨xb,xq,a,xi,xs,bn,xl⟩:=aDK hm A;have xl:=xl X J;have n:L.getD j []∈L:=by rw[Ad,Ab A];exact Bt A
 obtain⟨m,P⟩:∃m,L.getD j []=m:=⟨_,rfl⟩;rw[P] at xs n;have AM:=N m n;have B:=(O _ l2 n2).trans g2;have a0:=(O _ l9 n9).trans g9;have Q:z<X.nx:=by omega
 have a1:b9<X.nx:=by omega
 refine aD (aO (aD (aL ?_)));refine ff f d @aJ xi xl ?_;refine cA (fo I (gK B) ?_);refine bK (am (aW (aIn H hf (aG.same (E:=cF) bQ hn J) (aG.same (E:=cE) cB hi J) (xs.same J) AM) ?_));rintro _ X1 ⟨x1,fv,rfl,R⟩;refine fo @xP @xN ?_;refine bS ?_;intro X2 x2 m2 c2
 refine cQ (b:=X1.nx) (cs':=[fv]) (aq) (by exact am (bN.cells R)) c2 rfl rfl ?_;intro X3 x3 m3 c3;refine am ?_
 have T:Same X1 X3:=x3.same x2 (Af _);have s3:Same X X3:=x1.trans T
 have d0:decide ((0:Int)≠0)=false:=rfl;refine gH ?_;simp only[↓sU,sD,rE,↓reduceIte,rA,d0,Dq];refine aQ (by simp only[↓sU,sD,rE,↓reduceIte,rA];try first | rfl | trivial) (aK ?_);try refine ae ?_
 have U:=(s3.2 _ Q).trans B;have C:=J.trans s3;refine cA (fo I (gK U) ?_);refine bK (am (aW (aFw H hf (aG.same (E:=cF) bQ hn C) (aG.same (E:=cE) cB hi C) (xs.same C) AM) ?_));rintro _ W ⟨x4,av,rfl,Z⟩;refine fo @xP @xN ?_;refine bS ?_;intro X5 x5 m5 c5
 refine cQ (b:=W.nx) (cs':=[av]) (aq) (by exact am (lK Z)) c5 rfl rfl ?_;intro X6 x6 m6 c6;refine am ?_
 have aa:Same W X6:=x6.same x5 (Af _);have y:Same X3 X6:=x4.trans aa
 refine gH ?_;simp only[↓sU,sD,rE,↓reduceIte,rA,d0,Dq];refine aQ (by simp only[↓sU,sD,rE,↓reduceIte,rA];try first | rfl | trivial) (aK ?_);try refine ae ?_
 have ab:Same X X6:=s3.trans y;have ac:=(ab.2 _ Q).trans B;have a2:=lK hi;refine cA (fe I @aB @aA (iS ac) ?_);refine bK (ae (aW (nI H a2) ?_));rintro _ X7 ⟨D,bc,rfl,bp,a3,a5⟩
 have p:=ab.trans D;have a8:X1.nx<X3.nx:=by omega
 have ba:W.nx<X6.nx:=by omega
 have bq:X.nx<=X1.nx:=x1.1;have bs:X.nx<=W.nx:=Av s3.1 x4.1;have bv:=w.lm;have bb:=((y.trans D).2 _ a8).trans c3;have bd:=(D.2 _ ba).trans c6;have bw:=(y.trans D).1;have bx:=D.1;refine aO (aRS (S:=S) (X:=X7) (g:=g) (L:=L) (m:=m) (iv:=iv) (fv:=fv) (av:=av) (u0:=u) (ub:=ub) (mb:=mb) (b9:=b9) (b12:=X1.nx) (b14:=W.nx) (bc:=bc) (r:=66) H G AM n rfl (af) a5 a3 (J.trans p) aI hi aV (w.same p) i (ah p9) (af) (af) ((p.2 _ a1).trans a0) bb bd au au au n9 au au  (R.same ((T.trans y).trans D)) (aG.same (E:=nK) fM Z (aa.trans D)) fun Y hJ=>?_);have⟨h1,h2,u',h3,h4,h5,h6⟩:=hJ;refine ae ?_
 refine aL (ew d w1 ?_);refine⟨k - 1,au,rfl,au,fun c hc an=>?_,j+1,u',au,h3,h4,fun x ao aw q hq=>?_,(by refine⟨?_,?_,?_,?_,?_⟩<;>simp only[↓sU,sD,rE,↓reduceIte,rA,I,p4,p5,p7,p9]),by refine⟨?_,?_,?_⟩<;>simp only[↓sU,sD,rE,↓reduceIte,rA,f,h]⟩
 .rw[h2 c (ax p.1) an,p.2 c au];exact O c hc an
 .by_cases e:q=j
  .subst e;rw[P];exact h6 x (.inl ⟨ao,aw⟩)
  .exact h5 _ _ (hd x ao aw q au)
def evN(n:Nat):AV:=je (n:Int)
def aNu{ev:V->AV}{f:K2->Option V}(c:aDg ev h b f){k:K2}{m:cT}{v:V}(d:m.val F= .map b)(e:x.val F=lG k)(i:f k=some v):gO (.lookup (.struct [(0,.int),(1,.int)]) z false m x) F h=some (ev v):=aHG aKK c d e i
theorem aJQ(b:vC g.ch.length (tY g.ch.length (L.map (dx g))) first){x:K2}(h:lJ (ChE g L) x y):first.getD x.1 0=first.getD y.1 0:=by
 induction h with
 | edge e=>
  obtain⟨c,_,m,d,rfl⟩:=e;exact b.inv _ _ ⟨c,_,List.mem_map_of_mem d,rfl⟩
 | refl x=>rfl
 | symm _ f=>exact f.symm
 | trans _ _ i j=>exact i.trans j
def aGh{s a:Nat}{x:K2}(h:vU g s a x):vU g s (a+1) x:=by
 unfold vU at h ⊢;omega
structure aS0(g:aX)(first:bu)(u0:K2->Option K2)(s a:Nat)(f:K2->Option Nat):Prop where
 f1:∀r b,f r=some b->∃s':Nat,first.getD s' 0=(s':Int)/\s'<g.ch.length/\vU g s a (s',b)/\eS u0 (s',b) r
 f2:∀s' b:Nat,first.getD s' 0=(s':Int)->s'<g.ch.length->vU g s a (s',b)->∀r,eS u0 (s',b) r->f r=some b
structure aUb(g:aX)(L:bt)(first:bu)(s a:Nat)(R:Nat->bu):Prop where
 r1:∀s',s'<s->(R s').length=fJ g s'
 r2:(R s).length=a
 r3:∀s',s<s'->R s'= []
 r4:∀s' a',s'<g.ch.length->a'<(R s').length->∃b:Nat,(R s').getD a' 0=(b:Int)/\b<fJ g (first.getD s' 0).toNat/\lJ (ChE g L) (s',a') ((first.getD s' 0).toNat,b)
structure aRF(X:St)(ub mb fm ob:Nat)(g:aX)(L:bt)(first:bu)(u0:K2->Option K2)(s a:Nat)(Y:St):Prop where
 lt:X.nx<Y.nx
 fr:∀c,c<X.nx->c≠mb->c≠fm->c≠ob->Y.h.get c=X.h.get c
 un:∃u,oV Y ub mb u/\UpK u (ChE g L)/\∀x r,eS u0 x r->eS u x r
 fn:∃f,aDg evN Y.h fm f/\aS0 g first u0 s a f
 fa:∃cs R,Fam ⟨X.h,X.nx+1⟩ Y ob g.ch.length cs R/\aUb g L first s a R
def Fam.moveX{Y Y':St}(h:Fam S0 Y ob NI cs R)(d:Y.nx<=Y'.nx)(f:Y'.h.get ob=Y.h.get ob)(i:∀c,S0.nx<=c->c<Y.nx->Y'.h.get c=Y.h.get c):Fam S0 Y' ob NI cs R:=
 ⟨f.trans h.ho,Ae h.lt d,h.hl,fun j a b=>(h.gr j a b).move d fun c e=>i c ((h.gr j a b).blk e).1 ((h.gr j a b).blk e).2.1,h.dj⟩
def aMV{m k v:cT}{call:fX}:evX (.mapUpd sk m k v) call F S=rC (m.val F) sk (k.val F) (v.val F) S:=rfl
def aQa{Z:St}{inr:Bool}{A s:Nat}{f:K2->Option Nat}{r:K2}{w:Nat}(B:Fam S0 Z ob NI cs R)(hs:s<NI)(bM:NI<=1000)(hR:(R s).length<=20000)(bR:S0.nx<=Z.nx)(bU:ob<S0.nx)
  (aw:aC 17 F= .ptr b17 0) (aI:aC 18 F= .ptr b18 0) (aV:aC 19 F=je (s:Int)) (aZ:aC 21 F= .ptr A 0)
  (J:Z.h.get b17=jf [.map fm]) (M:Z.h.get b18=jf [fv,.sl ob 0 NI NI false]) (N:aAb Z.h A r) (hm:aDg evN Z.h fm f) (a0:f r=some w) (a1:b17<Z.nx) (a2:b18<Z.nx) (a3:A<Z.nx) (a5:fm<Z.nx)
  (hQ:∀F' V cs',Z.nx<=V.nx->(∀c,c<Z.nx->c≠ob->c<S0.nx->V.h.get c=Z.h.get c)->Fam S0 V ob NI cs' (fun j=>if j=s then R s++ [(w:Int)] else R j)->Q .normal ⟨F',inr⟩ V):
  jP fns (.drw (apP++apX)) ⟨F,inr⟩ Z Q:=by
 have O:s<cs.length:=by rw[B.hl];exact hs
 obtain⟨rv,C⟩:∃rv,cs[s]? =some rv:=⟨_,Ab O⟩;have P:=B.gr s rv C;have q:∀ {c cs' sz},Z.h.get c=some (.cells cs' false sz)->aM rv≠some c:=fun h=>P.off h;have⟨lm,a8,bV⟩:=id hm;have ba:aM rv≠some fm:=fun e=>by
  have:=(P.blk e).2.2;rw[a8] at this;cases this
 have bb:=q J;have bd:=q M;have be:=q N;have T:=q B.ho;have d17:=cH (p:=0) J rfl;have d18:=aAl M;have d21:=mH N;have bj:=cH B.ho C;have X:=fQ (b:=ob) (o:=false) hs;have bk:=P.self;have Y:=B.lt;have aa:∀F':Fr,aC 129 F'= .map fm->aC 130 F'=lG r->gO (.lookup (.struct [(0,.int),(1,.int)]) (je 0) false (.t 129) (.t 130)) F' Z.h=some (je (w:Int)):=fun F' a b=>aNu hm a b a0;have ab:∀F':Fr,aC 129 F'= .map fm->aCt (fun c=>aM rv=some c) Z.nx (.lookup (.struct [(0,.int),(1,.int)]) (je 0) false (.t 129) (.t 130)) F':=fun F' a=>xZ a a5 ba;have il:eE (.lookup (.struct [(0,.int),(1,.int)]) (je 0) false (.t 129) (.t 130))=true:=rfl;have bm:=fun(F:Fr) (id:Nat) (h:aC 131 F=je (w:Int))=>jS (t:=3) (z:=je 0) (x:=.t 131) (F:=F) (id:=id) (k:=.i64) (n:=(w:Int)) h;refine oO (W:=fun c=>aM rv=some c) (pre:=apP) (suf:=apX) (K:=14) (R:=fun F' V ps=>ps= []/\aC 134 F'= .ptr ob s/\∃d,aC 133 F'=d/\Z.nx<=V.nx/\(∀c,c<Z.nx->aM rv≠some c->V.h.get c=Z.h.get c)/\fP 1 S0 V d (R s++ [(w:Int)]).length (bD (R s++ [(w:Int)]))/\∃b',aM d=some b'/\Z.nx<=b'/\b'<V.nx) rfl rfl rfl (fun X1 x1 bn bp=>?_) ?_
 .unfold apP;simp only[↓sU,sD,rE,↓reduceIte,rA,aw,aI,aV,aZ,aB,aP,aA,d17,d18,d21,bj,a1,a2,a3,Y,bb,bd,be,T,An,yY,xB,bk,aJ,X,aa,ab,il,bm];have D:cP 4088 [⟨11,Z.nx+11,.cells [je (w:Int)] false 0⟩] X1.h=([],X1.h.set (Z.nx+11) (jf [je (w:Int)])):=cL (m:=4088) rfl;have bW:Z.nx+15<=X1.nx:=by rw[bp];exact Af _
  obtain⟨U,hU⟩:∃U:St,U=⟨X1.h.set (Z.nx+11) (jf [je (w:Int)]),X1.nx⟩:=⟨_,rfl⟩;have nU:U.nx=X1.nx:=by rw[hU]
  have kU:∀c,c<Z.nx->U.h.get c=Z.h.get c:=fun c y=>by rw[hU];simp only;rw[ef,if_neg au,bn]
  have bq:Same Z U:=⟨au,kU⟩;have gU:U.h.get (Z.nx+11)=jf [je (w:Int)]:=by rw[hU];simp only;rw[ef,if_pos rfl]
  have bs:=P.step bq;have bY:Same S0 ⟨U.h,U.nx⟩\/True:=.inr trivial;have⟨d,V,eA,gA,bA,nA,rA⟩:=fP.push (bytes:=8) (S0:=⟨U.h,S0.nx⟩) (S:=U) (t:=Z.nx+11) (w:=(w:Int)) bs ⟨by show S0.nx<=U.nx;omega,fun _ _=>rfl⟩ gU ay ay;refine oS (r:=d) (S1:=V) rfl ?_ ?_ ?_
  .refine ae ?_;rw[D,<-hU];exact eA
  .rw[D,<-hU];exact⟨au,fun c y G=>rA c au G⟩
  rw[D];refine ew @aJ X ?_;exact⟨d,rfl,au,fun c y G=>(rA c au G).trans (kU c y),by exact gA,U.nx,bA,au,au⟩
 .rintro F' V ps bZ ls ⟨rfl,ac,d,an,nV,kV,gV,b',ao,bv,bw⟩ H bx;have m1:∀i,i<14->Nat.testBit 16383 i=true:=by decide
  have bz:V.h.get ob=jf cs:=(kV _ Y T).trans B.ho;have bC:d.cells=some [d]:=fP.cells gV;unfold apX;refine iQ (v:=.undef) (S1:=⟨V.h.set ob (jf (cs.set s d)),V.nx⟩) (H _ m1) (fun call=>?_) ?_
  .rw[dL];simp only[fE,ac,an,bL,bC,aH];exact xO (cs:=cs) (p:=s) (S:=V) bz O
  rw[iC];refine⟨?_,?_⟩
  .simp only[Ce];exact bx _ _ _ m1
  .simp only[bL,fC];refine hQ _ _ (cs.set s d) nV (fun c y I b0=>?_) (B.push C nV jd ?_ ⟨b',ao,bv,bw⟩ fun c y I bI=>?_)
   .simp only;rw[ef,if_neg I];exact kV c y fun e=>by have:=(P.blk e).1;omega
   .refine gV.move (Af _) fun c y=>?_;simp only;rw[ef,if_neg (fun e=>by rw[ao] at y;cases y;omega)]
   .simp only;rw[ef,if_neg I];exact kV c y bI
noncomputable def aQn:AC:=(.seq (.reg [mt 19 97]) (.reg [mt 20 98]))
noncomputable def aQO:AC:=aTa
structure aUU(S X:St)(A:bO)(ub mb fm ob b4 b5 b7 b9 b17 b18:Nat)(fv:AV)(NI:Nat):Prop where
 p4:aC 4 A.F= .ptr b4 0
 p5:aC 5 A.F= .ptr b5 0
 p7:aC 7 A.F= .ptr b7 0
 p9:aC 9 A.F= .ptr b9 0
 p17:aC 17 A.F= .ptr b17 0
 p18:aC 18 A.F= .ptr b18 0
 g4:∃x y,X.h.get b4=some (.cells [x,y] false 0)
 g5:∃x,X.h.get b5=some (.cells [x] false 0)
 g7:X.h.get b7=some (.cells [fv] false 0)
 g9:X.h.get b9=some (.cells [.ptr ub 0] false 0)
 g17:X.h.get b17=some (.cells [.map fm] false 0)
 g18:X.h.get b18=some (.cells [fv,.sl ob 0 NI NI false] false 0)
 l:b4<X.nx/\b5<X.nx/\b7<X.nx/\b9<X.nx/\b17<X.nx/\b18<X.nx/\mb<X.nx/\fm<X.nx/\ob<X.nx
 s:S.nx<=b4/\S.nx<=b5/\S.nx<=mb/\S.nx<=fm/\S.nx<=ob
 nm:b4≠mb/\b5≠mb/\b7≠mb/\b9≠mb/\b17≠mb/\b18≠mb/\fm≠mb/\ob≠mb
 nf:b4≠fm/\b5≠fm/\b7≠fm/\b9≠fm/\b17≠fm/\b18≠fm/\ob≠fm/\ub≠fm
 no:b4≠ob/\b5≠ob/\b7≠ob/\b9≠ob/\b17≠ob/\b18≠ob/\ub≠ob
 n45:b4≠b5
def aPY(S:St)(g:aX)(L:bt)(first:bu)(b4 b5:Nat)(Y:St):Prop:=Same S Y/\Dup g L first/\b4<Y.nx/\b5<Y.nx/\Y.h.get b4=jf [.ct,.ct]/\Y.h.get b5=jf [je 13]
def aPc{f0:K2->Option Nat}{cs0:cd}(H:Has fns)(G:eO g)(bb:∀m∈L,gT g m)(hO:vC g.ch.length (tY g.ch.length (L.map (dx g))) first)(hi:A.inr=false)(hf:aC r A.F= .fn 59 [] [.ptr bc 0])(hb:X.h.get bc=jf [iv])(b2:bc<X.nx)
  (hS:Same S X) (hv:aG 2 cE S iv g.ch) (hB:aUU S X A ub mb fm ob b4 b5 b7 b9 b17 b18 fv g.ch.length) (bd:∀s,s<g.ch.length->0<=(cv g (s:Int)).cr/\(cv g (s:Int)).cr<=10000)
  (hU:oV X ub mb u0) (ac:UpK u0 (ChE g L)) (b3:∀x y,ChE g L x y->lF u0 x y) (an:bN .i64 X fv first) (b6:aM fv≠some ob) (be:aDg evN X.h fm f0) (b8:∀k,f0 k=none) (a5:X.h.get ob=jf cs0) (bj:cs0.length=g.ch.length) (aV:∀ (j:Nat) (a:AV),cs0[j]? =some a->a=AV.ct)
  (hQ:∀Y,aRF X ub mb fm ob g L first u0 g.ch.length 0 Y->Q .normal A Y) (b':∀Y,aPY S g L first b4 b5 Y->Q .ret A Y):jP fns (.rng (.t r) [97,98] aQn aQO) A X Q:=by
 have⟨p4,p5,p7,p9,ao,bk,⟨x4,y4,g4⟩,⟨x5,g5⟩,g7,g9,ca,cc,⟨l4,l5,l7,l9,cf,cj,dr,ck,cl⟩,⟨s4,s5,du,dv,dw⟩,⟨m4,m5,m7,m9,cm,cn,bm,bn⟩,⟨q4,q5,q7,q9,bp,bq,bs,cq⟩,⟨o4,o5,o7,o9,cr,ct,cw⟩,bv⟩:=hB;have dz:=G.ni;have⟨es,cx⟩:=hU.mp;have dM:=hU.lu;have⟨dn,a8,_⟩:=id be;have dU:=hS.1;refine tE (S:=S) (R:=aPY S g L first b4 b5) (J:=aRF X ub mb fm ob g L first u0) H hi hf hv au bd hb b2 (fun s a Y h=>⟨⟨ax h.lt,fun c n=>by rw[h.fr c au au au au];exact hS.2 c n⟩,h.lt⟩) (fun s a Y Y' h hn t=>?_) (fun Y Y' h hn t=>?_) (fun Y hn t=>?_) (fun s Y hs h=>?_) (fun s a Y hs ha h=>?_) hQ b'
 ·-- the iterator's own steps
  have⟨T,D,⟨u,h3,h4,h5⟩,⟨f,h6,U⟩,cs,R,h8,N⟩:=h;have⟨lm,q,B⟩:=h6;refine⟨au,fun c n I M a3=>(t c au au).trans (D c n I M a3),⟨u,h3.off2 hn (t _ h3.lu au) (t _ h3.lm au),h4,h5⟩,⟨f,⟨lm,(t _ au au).trans q,B⟩,U⟩,cs,R,h8.moveX hn (t _ h8.lt au) fun c C W=>t c W (by have:X.nx+1<=c:=C;omega),N⟩
 .have⟨T,D,h3,h4,h5,h6⟩:=h;exact⟨⟨Av T.1 hn,fun c n=>(t c (Ae n T.1) au).trans (T.2 c n)⟩,D,au,au,(t _ h3 au).trans h5,(t _ h4 au).trans h6⟩
 ·-- the start
  have⟨lm,q,B⟩:=be;refine⟨hn,fun c n _ _ _=>t c n,⟨u0,hU.off (Nat.le_of_lt hn) t,ac,fun _ _ h=>h⟩,⟨f0,⟨lm,(t _ ck).trans q,B⟩,⟨fun r b h=>(by rw[b8] at h;cases h),fun d b _ _ h=>(by unfold vU at h;omega)⟩⟩,cs0,fun _=>[],⟨(t _ cl).trans a5,au,bj,fun j a hj=>.inl ⟨aV j a hj,rfl,rfl⟩,fun j k a b _ hj _ c n=>by rw[aV j a hj] at n;cases n⟩,⟨fun d h=>au,rfl,fun _ _=>rfl,fun d a' _ h=>by simp at h⟩⟩
 ·-- the next set
  have⟨T,D,h3,⟨f,h6,U⟩,cs,R,h8,N⟩:=h;refine⟨T,D,h3,⟨f,h6,⟨fun r b e=>?_,fun d b q B O=>U.f2 d b q B (aEN O)⟩⟩,cs,R,h8,⟨fun d h=>?_,N.r3 _ (Dj s) ▸ rfl,fun d h=>N.r3 d au,N.r4⟩⟩
  .have⟨d,k1,k2,k3,k4⟩:=U.f1 r b e;refine⟨d,k1,k2,?_,k4⟩;unfold vU at k3 ⊢;simp only at k3 ⊢;rcases k3 with⟨I,M⟩|⟨I,M⟩
   .exact .inl ⟨au,M⟩
   .exact .inl ⟨au,by rw[I];exact M⟩
  .by_cases e:d=s
   .rw[e];exact N.r2
   .exact N.r1 d au
 unfold aQn;refine cA (ae ?_);refine aL (ae ?_);intro bl;have⟨T,D,⟨u,h3,h4,h5⟩,⟨f,h6,U⟩,cs,R,h8,N⟩:=h;generalize aw:(⟨Y.h.set X.nx bl,Y.nx⟩:St)=Y';have nY:Y'.nx=Y.nx:=by rw[<-aw]
 have P:∀c,c≠X.nx->Y'.h.get c=Y.h.get c:=fun c n=>by rw[<-aw];simp only;rw[ef,if_neg n]
 have aZ:Y'.h.get X.nx=bl:=by rw[<-aw];simp only;rw[ef,if_pos rfl]
 clear aw;have kY:∀c,c<X.nx->c≠mb->c≠fm->c≠ob->Y'.h.get c=X.h.get c:=fun c n I M a3=>(P c au).trans (D c n I M a3);have cy:oV Y' ub mb u:=h3.off2 au (P _ au) (P _ au);have cz:Fam ⟨X.h,X.nx+1⟩ Y' ob g.ch.length cs R:=h8.moveX au (P _ au) fun c C W=>P c (by have:X.nx+1<=c:=C;omega);have cV:aDg evN Y'.h fm f:=by
  have⟨lm,q,B⟩:=h6;exact⟨lm,(P _ au).trans q,B⟩
 have⟨rt,aa⟩:=ac.ex (s,a);have d9:=cH (p:=0) ((kY _ l9 m9 q9 o9).trans g9) rfl;have cW:=fun(F:Fr) (h:Ev.T AB) (q:aC 100 F=je (s:Int)) (B:aC 101 F=je (a:Int))=>aQR (h:=h) q B;unfold aQO;refine aO (aD (aL ?_));refine ft p9 d9 cW ?_;refine bK (am ?_);refine aW (aAQ H cy h4 (h5 _ _ aa)) ?_;rintro _ V1 ⟨rfl,v1,u1,cX,bw,bx⟩
 refine bS ?_;intro V2 v2 k2 c2
 refine cQ (b:=V1.nx) (aq) (by refine am ?_;exact pZ _) c2 rfl rfl ?_;intro V3 v3 k3 c3;refine am ?_
 have ba:Same V1 V3:=v3.same v2 (Af _);clear v2 v3 c2;have dV:=v1.1;have dW:=ba.1;have bz:aAb V3.h V1.nx rt:=c3;have kV:∀c,c<Y'.nx->c≠mb->V3.h.get c=Y'.h.get c:=fun c n cY=>(ba.2 c au).trans (v1.2 c n cY);have kX:∀c,c<X.nx->c≠mb->c≠fm->c≠ob->V3.h.get c=X.h.get c:=fun c n I M a3=>(kV c au I).trans (kY c n I M a3);have cZ:oV V3 ub mb u1:=cX.same ba;have c0:Fam ⟨X.h,X.nx+1⟩ V3 ob g.ch.length cs R:=cz.moveX au (kV _ au bn) fun c C W=>kV c W (by have:X.nx+1<=c:=C;omega);have aI:aDg evN V3.h fm f:=by
  have⟨lm,q,B⟩:=cV;exact⟨lm,(kV _ au bm).trans q,B⟩
 have⟨dY,dp,_⟩:=id aI;have d7:=cH (p:=0) ((kX _ l7 m7 q7 o7).trans g7) rfl;have c1:bN .i64 V3 fv first:=eT an (au:X.nx<=V3.nx) fun c n=>kX c (dP an n) (fun e=>zO an cx (by rw[<-e];exact n)) (fun e=>zO an a8 (by rw[<-e];exact n)) fun e=>b6 (by rw[<-e];exact n);have⟨qb,qq,c6,dZ,bA⟩:=uD c1 (i:=s) (by rw[hO.len];exact hs);have d':=hO.le s hs;have a0:=(kX _ cf cm bp cr).trans ca;have d17:=cH (p:=0) a0 rfl;have bC:=(kX _ cj cn bq ct).trans cc;have d21:=mH bz;have ea:=(bd s hs);have dq:fJ g s=(cv g (s:Int)).cr.toNat:=rfl;have c7:V3.h.get X.nx=bl:=(kV _ au au).trans aZ;refine aD (bB (Q:=fun o A1 Z=>(o= .ret/\Z.h.get X.nx=bl/\Y.nx<=Z.nx/\aPY S g L first b4 b5 Z)\/(o= .normal/\A1.inr=true/\aC 17 A1.F= .ptr b17 0/\aC 18 A1.F= .ptr b18 0/\aC 19 A1.F=je (s:Int)/\aC 21 A1.F= .ptr V1.nx 0/\Z.nx=V3.nx/\(∀c,c≠fm->Z.h.get c=V3.h.get c)/\∃ (w:Nat) (f':K2->Option Nat),aDg evN Z.h fm f'/\f' rt=some w/\aS0 g first u0 s (a+1) f'/\w<fJ g (first.getD s 0).toNat/\lJ (ChE g L) (s,a) ((first.getD s 0).toNat,w))) ?_ ?_)
 .refine cA (ff p7 d7 @aJ c6 bA ?_);by_cases er:first.getD s 0=(s:Int);rotate_left
  ·-- not a representative
   refine aQ (iu (Aa er)) (aK ?_);have⟨r1,r2⟩:=zG hO hs;have⟨t1,σ,t2,t3⟩:=aDY G bb (hO.con s hs);have⟨bI,bM⟩:=t2 a ha;have⟨r',z1,z2⟩:=aGi ac b3 bM;obtain rfl:=z1.uni aa;refine .inr ⟨rfl,rfl,ah ao,ah bk,af,af,rfl,fun _ _=>rfl,σ a,f,aI,U.f2 _ _ r2 r1 (.inl ⟨au,bI⟩) _ z2,⟨fun r b e=>?_,fun d b q B O r e4=>?_⟩,bI,bM⟩
   .have⟨d,k1,k2,k3,k4⟩:=U.f1 r b e;exact⟨d,k1,k2,aGh k3,k4⟩
   .rcases zS O with O|O
    .exact U.f2 d b q B O r e4
    .cases O;exact absurd q er
  .refine aS (iu (Ac er)) ?_;have d22:=fun(F:Fr) (T:aC 111 F= .map fm) (D:aC 112 F=lG rt)=>aKL (z:=je 0) (m:=.t 111) (x:=.t 112) (F:=F) aI T D;refine gH (fe ao d17 d21 d22 ?_);cases bR:f rt with
   | some b=>
    refine ew @xP @xN ?_;refine cA (ae ?_);refine aS (by simp only[↓sU,sD,rE,↓reduceIte,rA];try first | rfl | trivial) ?_;have c8:=(kX _ l4 m4 q4 o4).trans g4;have c9:=(kX _ l5 m5 q5 o5).trans g5;have c':∀ (F:Fr) (h:Ev.T AB),gO (.build [.ct,.ct] []) F h=some (.agg [.ct,.ct]):=fun _ _=>rfl;refine cA (fl c' ?_);refine cQ (b:=b4) (cs':=[.ct,.ct]) (ar p4) (by simp only[↓aF,aE,rE,↓reduceIte,rA];rfl) c8 rfl rfl ?_;intro V4 v4 k4 c4
    refine cQ (b:=b5) (cs':=[je 13]) (ar p5) (by simp only[↓aF,aE,rE,↓reduceIte,rA];rfl) ((v4.2 _ au (Cg bv)).trans c9) rfl rfl ?_;intro V5 v5 k5 c5;refine am ?_
    refine aT ?_;have⟨d,z1,z2,z3,z4⟩:=U.f1 rt b bR;have zc:lJ (ChE g L) (d,b) (s,a):=lF.conn ac ⟨rt,z4,aa⟩;have zf:=aJQ hO zc;simp only at zf;obtain rfl:d=s:=by omega
    unfold vU at z3;simp only at z3;refine .inl ⟨rfl,?_,au,⟨au,fun c n=>?_⟩,⟨d,b,a,hs,er,au,ha,zc⟩,au,au,(v5.2 _ au bv).trans c4,c5⟩
    .exact(v5.2 _ au au).trans ((v4.2 _ au au).trans c7)
    .exact(v5.2 _ au au).trans ((v4.2 _ au au).trans ((kX c au au au au).trans (hS.2 c n)))
   | none=>
    refine ew @xP @xN ?_;refine cA (ae ?_);refine aQ (by simp only[↓sU,sD,rE,↓reduceIte,rA];try first | rfl | trivial) (aK ?_);refine ae ?_
    refine aL (ft ao d17 d21 ?_);have⟨Z,da,dc,dd,dg⟩:=aEi (S:=V3) aI rt a;refine fN (v:=.undef) (S1:=Z) (fun call=>?_) ?_
    .rw[aMV];refine am ?_;exact da
    refine am ?_;refine .inr ⟨ao,bk,dc,dd,a,_,dg,by unfold pQ;rw[if_pos rfl],⟨fun r b e=>?_,fun d b q B O r e4=>?_⟩,by rw[er];exact ha,by rw[er];exact .refl _⟩
    .unfold pQ at e;split at e
     .rename_i e0;cases e;subst e0;exact⟨s,er,hs,.inr ⟨rfl,Dj _⟩,aa⟩
     .have⟨d,k1,k2,k3,k4⟩:=U.f1 r b e;exact⟨d,k1,k2,aGh k3,k4⟩
    .unfold pQ;rcases zS O with O|O
     .have:=U.f2 d b q B O r e4;rw[if_neg (fun e0=>by rw[e0,bR] at this;cases this)];exact this
     .cases O;rw[if_pos (e4.uni aa)]
 .rintro o ⟨F,inr⟩ Z hZ;rcases hZ with⟨rfl,z1,z2,z3⟩|⟨rfl,q,bU,bV,bW,bY,nZ,kZ,w,f',bZ,hw,dh,di,dj⟩
  .exact⟨z1,z2,.inr ⟨rfl,z3⟩⟩
  simp only at q bU bV bW bY;subst q;have ab:(R s).length=a:=N.r2;have dk:Fam ⟨X.h,X.nx+1⟩ Z ob g.ch.length cs R:=c0.moveX au (kZ _ bs) fun c C W=>kZ c (by have:X.nx+1<=c:=C;omega);refine aQa dk hs au au  (by show X.nx+1<=Z.nx;omega) (by show ob<X.nx+1;omega) bU bV bW bY ((kZ _ bp).trans a0) ((kZ _ bq).trans bC) ((kZ _ au).trans bz) bZ hw au au au au  fun F' V cs' hn t b0=>?_;have b1:∀c,c<X.nx+1->c≠ob->c≠fm->c≠mb->V.h.get c=Y'.h.get c:=fun c n I M a3=>(t c au I n).trans ((kZ c M).trans (kV c au a3));refine⟨(b1 _ au au au au).trans aZ,au,.inl ⟨rfl,⟨au,fun c n I M a3=>(b1 c au a3 M I).trans (kY c n I M a3),⟨u1,?_,bw,fun x r dm=>bx _ _ (h5 x r dm)⟩,⟨f',?_,dh⟩,cs',_,b0,?_⟩⟩⟩
  .have q:V.h.get ub=V3.h.get ub:=(t _ au cw (au:ub<X.nx+1)).trans (kZ _ cq);have B:V.h.get mb=V3.h.get mb:=(t _ au (Cg bn) (au:mb<X.nx+1)).trans (kZ _ (Cg bm));exact cZ.off2 au q B
  .have⟨lm,y1,y2⟩:=bZ;exact⟨lm,(t _ au (Cg bs) (au:fm<X.nx+1)).trans y1,y2⟩
  .refine⟨fun d h=>by rw[if_neg au];exact N.r1 d h,by rw[if_pos rfl,Aj,ab,Ba],fun d h=>by rw[if_neg au];exact N.r3 d h,fun d a' T D=>?_⟩;by_cases e:d=s
   .subst e;rw[if_pos rfl] at D ⊢;by_cases B:a'<a
    .have⟨b,y1,y2⟩:=N.r4 d a' T au;refine⟨b,?_,y2⟩;rw[Ad,Ao au,<-Ad];exact y1
    .rw[Aj,Ba] at D;obtain rfl:a'=(R d).length:=by omega
     refine⟨w,?_,di,by rw[ab];exact dj⟩;rw[Ad,Ap (Af _),Dt];rfl
   .rw[if_neg e] at D ⊢;exact N.r4 d a' T D
def aUp(g:aX)(L:bt)(b:St)(fv av:AV)(e:Int):Prop:=(pM g L≠0/\e=pM g L/\fv= .ct/\av= .ct)\/(pM g L=0/\∃first,vC g.ch.length (tY g.ch.length (L.map (dx g))) first/\((e=13/\Dup g L first/\fv= .ct/\av= .ct)\/(e=0/\¬Dup g L first/\∃act,sL g L first act/\bN .i64 b fv first/\aG 1 nK b av act)))
def aO5{q n m:Nat}{c:Bool}(d:aC t1 F=fv)(e:fv.cells=some [fv])(f:aC t2 F= .sl b q n m c):gO (.build [.ct,.ct] [(0,1,.t t1),(1,1,.t t2)]) F h=some (.agg [fv,.sl b q n m c]):=aFQ d f e rfl
def tN(H:Has fns)(hn:aG 6 cF S nv g.cg)(hi:aG 2 cE S iv g.ch)(b0:g.cg.length<=100000)(hm:aG 1 nK S mv L):
  iI fns (.fn 26 [] []) [.agg [je g.cm,nv,iv],mv] S fun r S'=>Same S S'/\∃fv av e,r= .tup [.agg [fv,av],je e]/\aUp g L S' fv av e:=by
 refine cK H.f26 (by simp) ?_;refine am ?_;refine cA ?_;refine cR (by refine am ?_;exact aY _) ?_;intro S1 s1 n1 g1;refine am ?_;refine bS ?_;intro T s2 n2 g2
 refine bS ?_;intro S3 s3 n3 g3;refine am ?_
 have b1:∀ (F:Fr) (h:Ev.T AB),gO (.build [.ct,.ct] []) F h=some (.agg [.ct,.ct]):=fun _ _=>rfl;have aa:=s1.trans (s2.trans s3);have b2:=aG.same (E:=cE) cB hi aa;have b3:=aG.same (E:=nK) fM hm aa;refine cA ?_;refine fl (gK ((s3.2 _ au).trans ((s2.2 _ au).trans g1))) ?_;refine bK (am ?_);refine aW (aGy H (aG.same (E:=cF) bQ hn aa) b2 b0 b3) ?_;rintro _ S4 ⟨s4,xv,fv,rfl,ba,C⟩;refine ft @xP @xN @ex2 ?_;refine bS ?_;intro S5 s5 n5 g5;refine am ?_
 have bb:fv.cells=some [fv]:=by
  by_cases U:pM g L=0
  .have⟨_,_,_,hb,_⟩:=C U;exact bN.cells hb.is
  .rw[(ba U).2];rfl
 refine cQ (b:=S4.nx) (cs':=[fv]) (aq) (by refine am ?_;exact bb) g5 rfl rfl ?_;intro S6 s6 n6 g6;refine am ?_
 have i:Same S4 S6:=s6.same s5 (Af _);have D:=s4.trans i;have w:=aa.trans D;have m3:=D.1;have m4:=s4.1;have c2:S6.h.get S.nx=jf [je g.cm,nv,iv]:=(D.2 _ au).trans ((s3.2 _ au).trans ((s2.2 _ au).trans g1));have c4:S6.h.get S1.nx=jf [.ct,.ct]:=(D.2 _ au).trans ((s3.2 _ au).trans g2);have c5:S6.h.get T.nx=jf [je 0]:=(D.2 _ au).trans g3
 refine gH (ae ?_);by_cases U:pM g L=0;rotate_left
 .refine aS (iu (Ac (show pM g L≠0 from U))) ?_;refine cA (fl b1 ?_);refine cQ (b:=S1.nx) (cs':=[.ct,.ct]) (aq) (by simp only[↓aF,aE,rE,↓reduceIte,rA];rfl) c4 rfl rfl ?_;intro V4 v4 k4 d4
  refine cQ (b:=T.nx) (cs':=[je (pM g L)]) (aq) (by simp only[↓aF,aE,rE,↓reduceIte,rA];rfl) ((v4.2 _ au au).trans c5) rfl rfl ?_;intro V5 v5 k5 d5;refine am ?_
  refine aT ?_;have I:=mB (n:=2) ((v5.2 _ au au).trans d4) rfl;have J:=cH (p:=0) d5 rfl;refine ft @dE I J ?_;exact⟨⟨au,fun c d=>(v5.2 c au au).trans ((v4.2 c au au).trans (w.2 c d))⟩,_,_,_,rfl,.inl ⟨U,rfl,rfl,rfl⟩⟩
 rw[U];refine aQ (by simp only[↓sU,sD,rE,↓reduceIte,rA];try first | rfl | trivial) (aK ?_);refine ae ?_
 have⟨bd,be,bj⟩:=uY U;have⟨_,first,_,A,_,hO⟩:=C U;have ao:∀m∈L,gT g m:=fun m hm=>nS (pR bj m hm);have G:=iN bd;have cX:=G.ni;have b8:∀s,s<g.ch.length->0<=(cv g (s:Int)).cr/\(cv g (s:Int)).cr<=10000:=fun s M=>by
  have⟨f1,_,_⟩:=G.fst s M;rw[xV G M];have:=G.nxt _ f1;omega
 refine cA ?_;refine fW (v:=.map S6.nx) (bl:=.map []) rfl ?_;intro S7 s7 n7 g7;refine am ?_;have b':∀ (F:Fr) (h:Ev.T AB),aC 35 F= .map S6.nx->gO (.build [.nilmap] [(0,1,.t 35)]) F h=some (.agg [.map S6.nx]):=fun F h e=>by
  show(bG (eI _ (dJ F [(0,1,.t 35)])) fun cs=>some (AV.agg cs))=_;simp only[dJ,show(cT.t 35).val F= .map S6.nx from e,eI];rfl
 refine fl b' ?_;refine cR (cs:=[.map S6.nx]) (by simp only[↓aF,aE,rE,↓reduceIte,rA];rfl) ?_;intro S8 s8 n8 g8
 refine bS ?_;intro S9 s9 n9 g9
 refine cQ (b:=S8.nx) (cs':=[.ptr S7.nx 0]) (aq) (by simp only[↓aF,aE,rE,↓reduceIte,rA];rfl) g9 rfl rfl ?_;intro X0 x0 m0 bm;refine am ?_
 have aI:Same S8 X0:=x0.same s9 (Af _);have aV:Same S6 X0:=s7.trans (s8.trans aI);have ab:=w.trans aV;have cY:X0.nx=S6.nx+3:=by omega
 have ca:oV X0 S7.nx S6.nx (fun _=>none):=⟨(aI.2 _ au).trans g8,⟨[],(aI.2 _ au).trans ((s8.2 _ au).trans g7),fun _=>rfl⟩,au,au,au⟩;have bn:UpK (fun _=>none) (ChE g L):=⟨⟨fun _=>0,fun _ _ h=>by cases h⟩,fun _ _ h=>by cases h⟩;refine aD (bB (Q:=fun o A' X=>o= .normal/\aRJ X0 S7.nx S6.nx S.nx S1.nx T.nx S4.nx S8.nx mv g L 0 A' X) (aD (aL ?_)) ?_)
 .refine ew hm.len @Ah ?_;exact aRQ (S:=S) H bd ao be ab hn hi hm au ca bn au au au au  ((aV.2 _ au).trans c2) bm (by refine⟨?_,?_,?_,?_,?_⟩<;>simp only[↓sU,sD,rE,↓reduceIte,rA]) (af) (af) (ag)
 rintro o ⟨F,inr⟩ X ⟨rfl,q0,nX,kX,j,u,cZ,hU,bp,bq,⟨p2,p4,p5,p7,p9⟩,_⟩;simp only at q0 p2 p4 p5 p7 p9;subst q0;obtain rfl:j=L.length:=by omega
 have cc:Same S X:=⟨ax ab.1,fun c d=>(kX c (ax ab.1) (ax w.1)).trans (ab.2 c d)⟩;refine cA ?_;refine fW (v:=.map X.nx) (bl:=.map []) rfl ?_;intro Y1 y1 k1 e1;refine am ?_;refine bS ?_;intro Y2 y2 k2 e2
 refine cQ (b:=Y1.nx) (cs':=[.map X.nx]) (aq) (by simp only[↓aF,aE,rE,↓reduceIte,rA];rfl) e2 rfl rfl ?_;intro Y3 y3 k3 e3;refine am ?_
 have bs:Same Y1 Y3:=y3.same y2 (Af _);have bv:Same X Y3:=y1.trans bs;have nY:Y3.nx=X.nx+2:=by omega
 have cf:Y3.h.get X.nx=some (.map []):=(bs.2 _ au).trans e1;have o0:=w.1;have bw:∀c,c<X0.nx->c≠S6.nx->Y3.h.get c=X0.h.get c:=fun c d hm=>(bv.2 c au).trans (kX c d hm);have aZ:∀c,c<S6.nx->Y3.h.get c=S6.h.get c:=fun c d=>(bw c au au).trans (aV.2 c d);have e7:Y3.h.get S4.nx=jf [fv]:=(aZ _ au).trans g6;have bx:Y3.h.get S.nx=jf [je g.cm,nv,iv]:=(aZ _ au).trans c2;have d7:=cH (p:=0) e7 rfl;have bz:S.nx<Y3.nx:=by omega
 have cj:S4.nx<Y3.nx:=by omega
 have N:cO fv fv=true:=by
  have⟨b,e,_⟩:=id A;rw[e];simp only[↓sU,sD,rE,↓reduceIte,rA]
 have c0:=fun F id (x:cT) (hx:gN (x.val F)=some g.ch.length)=>pU (t:=22) (s:=1) (bytes:=24) (z:=[AV.ct]) (l:=x) (c:=x) (F:=F) (id:=id) (n:=g.ch.length) hx hx ay ay;refine aD (nN (fun _=>False) ?_);simp only[↓sU,sD,rE,↓reduceIte,rA,p7,p2,d7,aB,aP,aA,iS bx,bz,cj,N,hi.len,Ah];have ck:∀F h,aC 88 F=fv->aC 92 F= .sl (Y3.nx+4) 0 g.ch.length g.ch.length false->gO (.build [.ct,.ct] [(0,1,.t 88),(1,1,.t 92)]) F h=some (.agg [fv,.sl (Y3.nx+4) 0 g.ch.length g.ch.length false]):=fun F h a b=>aO5 a bb b;refine⟨not_false,⟨aG.self hi,not_false⟩,qE (n:=g.ch.length) (af) (af) ay ay  ?_⟩;have cl:eE (.build [.ct,.ct] [(0,1,.t 88),(1,1,.t 92)])=false:=rfl;have cm:∀F,uH (.alloc 74 [.ct,.ct]) F (Y3.nx+6)=some (.ptr (Y3.nx+6) 0,.cells [.ct,.ct] false 0):=fun _=>rfl;refine fe ck cl cm @lT ?_;rw[repeatL_one];obtain⟨Z0,O⟩:∃Z0:St,Z0=⟨((Y3.h.set (Y3.nx+6) (jf [.ct,.ct])).set (Y3.nx+4) (jf (List.replicate g.ch.length .ct))),Y3.nx+8⟩:=⟨_,rfl⟩;have ac:cP 127 [⟨6,Y3.nx+6,.cells [.ct,.ct] false 0⟩,⟨4,Y3.nx+4,.cells (List.replicate g.ch.length .ct) false 0⟩] Y3.h=([],Z0.h):=by
  rw[O];rw[iF (az:Nat.testBit 127 6=true),iF (az:Nat.testBit 127 4=true),bL]
 have b6:Z0.h.get (Y3.nx+6)=jf [.ct,.ct]:=by rw[O];simp only;rw[ef,if_neg au,ef,if_pos rfl]
 have bA:Z0.h.get (Y3.nx+4)=jf (List.replicate g.ch.length .ct):=by rw[O];simp only;rw[ef,if_pos rfl]
 have bk:∀c,c<Y3.nx->Z0.h.get c=Y3.h.get c:=fun c d=>by rw[O];simp only;rw[ef,if_neg au,ef,if_neg au]
 refine qA (S1:=⟨Z0.h.set (Y3.nx+6) (jf [fv,.sl (Y3.nx+4) 0 g.ch.length g.ch.length false]),Y3.nx+8⟩) rfl ?_ ?_ ?_
 .refine ae ?_;rw[ac,aY,aH];exact mI (S:=⟨Z0.h,Y3.nx+8⟩) b6 rfl rfl
 .refine⟨Af _,fun c d _=>?_⟩;simp only;rw[ac,ef,if_neg au]
 rw[ac];refine de @bL ?_;obtain⟨Z,hZ⟩:∃Z:St,Z=⟨Z0.h.set (Y3.nx+6) (jf [fv,.sl (Y3.nx+4) 0 g.ch.length g.ch.length false]),Y3.nx+8⟩:=⟨_,rfl⟩;rw[<-hZ];have nZ:Z.nx=Y3.nx+8:=by rw[hZ]
 have kZ:∀c,c<Y3.nx->Z.h.get c=Y3.h.get c:=fun c d=>by rw[hZ];simp only;rw[ef,if_neg au];exact bk c d
 have bC:Z.h.get (Y3.nx+6)=jf [fv,.sl (Y3.nx+4) 0 g.ch.length g.ch.length false]:=by rw[hZ];simp only;rw[ef,if_pos rfl]
 have cn:Z.h.get (Y3.nx+4)=jf (List.replicate g.ch.length .ct):=by rw[hZ];simp only;rw[ef,if_neg au];exact bA
 clear hZ O ac b6 bA bk;have cq:Same Y3 Z:=⟨au,kZ⟩;have bI:=bv.trans cq;have an:=cc.trans bI;have P:∀c,c<S6.nx->Z.h.get c=S6.h.get c:=fun c d=>(kZ c au).trans (aZ c d);refine aD (bB (Q:=fun o A' V=>(o= .normal/\∃W,Same Z W/\aRF W S7.nx S6.nx X.nx (Y3.nx+4) g L first u g.ch.length 0 V/\aC 18 A'.F= .ptr (Y3.nx+6) 0/\aC 4 A'.F= .ptr S1.nx 0/\aC 5 A'.F= .ptr T.nx 0)\/(o= .ret/\aC 4 A'.F= .ptr S1.nx 0/\aC 5 A'.F= .ptr T.nx 0/\aPY S g L first S1.nx T.nx V)) (aD (aL ?_)) ?_)
 .refine fe p2 @aB @aA (iS ((kZ _ bz).trans bx)) ?_;refine bK (ae ?_);refine aW (nI H (lK hi)) ?_;rintro _ W ⟨v0,bc,rfl,c1,cr,ct⟩
  have bM:=an.trans v0;have bR:bN .i64 W fv first:=A.is.same (i.trans (Same.trans (⟨au,P⟩:Same S6 Z) v0));have bU:aM fv≠some (Y3.nx+4):=fun e=>by
   have:=dP A.is e;have:=i.1;omega
  have cw:=i.1;refine aO (aPc (S:=S) (X:=W) (g:=g) (L:=L) (first:=first) (iv:=iv) (fv:=fv) (u0:=u) (f0:=fun _=>none) (ub:=S7.nx) (mb:=S6.nx) (fm:=X.nx) (ob:=Y3.nx+4) (b4:=S1.nx) (b5:=T.nx) (b7:=S4.nx) (b9:=S8.nx) (b17:=Y1.nx) (b18:=Y3.nx+6) (bc:=bc) (r:=96) (cs0:=List.replicate g.ch.length .ct) H G ao hO rfl (af) ct cr bM hi ?_ b8 ((hU.same bI).same v0) bp ?_ bR bU ⟨[],(v0.2 _ au).trans ((kZ _ au).trans cf),fun _=>rfl⟩ (fun _=>rfl) ((v0.2 _ au).trans cn) (Aq ..) (fun j a hj=>?_) (fun V hJ=>?_) fun V hE=>?_)
  .have kV:∀c,c<S6.nx->W.h.get c=S6.h.get c:=fun c d=>(v0.2 c au).trans (P c d);have cx:=v0.1;have t1:=w.1;exact⟨ah p4,ah p5,ah p7,ah p9,af,af,⟨_,_,(kV _ au).trans c4⟩,⟨_,(kV _ au).trans c5⟩,(kV _ au).trans g6,(v0.2 _ au).trans ((kZ _ au).trans ((bw _ au au).trans bm)),(v0.2 _ au).trans ((kZ _ au).trans e3),(v0.2 _ au).trans bC,au,au,au,au,au,au⟩
  .rintro x y ⟨B,Y,m,a0,rfl⟩;obtain⟨q,hq,rfl⟩:=Cp a0;have:=bq x B Y q hq;rw[Ad,Ab hq] at this;exact this
  .rw[Ch] at hj;split at hj
   .cases hj;rfl
   .cases hj
  .exact .inl ⟨rfl,W,v0,hJ,by refine⟨?_,?_,?_⟩<;>simp only[↓sU,sD,rE,↓reduceIte,rA,p4,p5]⟩
  .exact .inr ⟨rfl,ah p4,ah p5,hE⟩
 rintro o ⟨F',inr⟩ V hV;have cw:=i.1;rcases hV with⟨rfl,W,v0,hJ,bV,q4,q5⟩|⟨rfl,q4,q5,hE⟩
 rotate_left
 .simp only at q4 q5;have⟨h1,h2,h3,h4,h5,h6⟩:=hE;have I:=mB (n:=2) h5 rfl;have J:=cH (p:=0) h6 rfl;refine fx @dE q4 q5 I J ?_;exact⟨h1,_,_,_,rfl,.inr ⟨U,first,hO,.inl ⟨rfl,h2,rfl,rfl⟩⟩⟩
 simp only at bV q4 q5;have⟨j1,j2,⟨u',j3,j4,j5⟩,⟨f,j6,j7⟩,cs,R,j8,j9⟩:=hJ;have cx:=v0.1;have t1:=w.1;have bM:=an.trans v0;have kV:∀c,c<Z.nx->c≠S6.nx->c≠X.nx->c≠Y3.nx+4->V.h.get c=Z.h.get c:=fun c d B Y a3=>(j2 c au B Y a3).trans (v0.2 c au);have cy:=(kV _ au au au au).trans bC;have w4:=(kV _ au au au au).trans ((P S1.nx au).trans c4);have w5:=(kV _ au au au au).trans ((P T.nx au).trans c5);have bW:=mB (n:=2) cy rfl;refine am ?_
 refine cA (fo bV bW ?_);refine cQ (b:=S1.nx) (cs':=[fv,.sl (Y3.nx+4) 0 g.ch.length g.ch.length false]) (ar q4) (by refine am ?_;exact aY _) w4 rfl rfl ?_;intro V4 v4 k4 d4
 refine cQ (b:=T.nx) (cs':=[je 0]) (ar q5) (by simp only[↓aF,aE,rE,↓reduceIte,rA];rfl) ((v4.2 _ au au).trans w5) rfl rfl ?_;intro V5 v5 k5 d5;refine am ?_
 refine aT ?_;have I:=mB (n:=2) ((v5.2 _ au au).trans d4) rfl;have J:=cH (p:=0) d5 rfl;have cW:=i.1;have kF:∀c,c<V.nx->c≠S1.nx->c≠T.nx->V5.h.get c=V.h.get c:=fun c d B Y=>(v5.2 c au Y).trans (v4.2 c d B);refine fx @dE q4 q5 I J ?_;have aw:∀s,s<g.ch.length->(((List.range g.ch.length).map R).getD s [])=R s:=fun s M=>by rw[Ad,Az,Br M];rfl
 have bY:=(j8.moveX (Y':=V5) au (kF _ j8.lt au au) fun c bZ cz=>kF c cz (by have:W.nx+1<=c:=bZ;omega) (by have:W.nx+1<=c:=bZ;omega)).is;refine⟨⟨au,fun c d=>(kF c au au au).trans ((kV c (ax an.1) au au au).trans (an.2 c d))⟩,_,_,_,rfl,.inr ⟨U,first,hO,.inr ⟨rfl,?_,(List.range g.ch.length).map R,⟨by rw[Al,Bj],fun s M=>by rw[aw s M];exact j9.r1 s M,fun s a M ha=>?_⟩,?_,bY⟩⟩⟩
 .rintro⟨s,a,b,B,Y,a3,a4,a5⟩;have a8:=aGi bp (fun x y ⟨B,Y,m,a0,e⟩=>by
   subst e;obtain⟨q,hq,rfl⟩:=Cp a0;have:=bq x B Y q hq;rw[Ad,Ab hq] at this;exact this) a5
  have⟨r,y1,y2⟩:=a8;have z1:=j7.f2 s a Y B (.inl ⟨B,Nat.lt_trans a3 a4⟩) r y1;have z2:=j7.f2 s b Y B (.inl ⟨B,a4⟩) r y2;rw[z1] at z2;cases z2;omega
 .rw[aw s M];exact j9.r4 s a M (by rw[j9.r1 s M];exact ha)
 .refine eT A.is au fun c d=>?_;have cV:=dP A.is d;have c3:S3.nx<=c:=by
   obtain⟨b,rfl,e1,_⟩:=A;cases d;exact e1
  rw[kF c au au au,kV c au au au au,P c au];exact i.2 c cV
end Go.Ev.Gl
