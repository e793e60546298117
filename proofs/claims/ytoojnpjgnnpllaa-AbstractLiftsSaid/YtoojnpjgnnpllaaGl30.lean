import Derived.Test.YtoojnpjgnnpllaaGl29
open Nat renaming reduceEqDiff -> rE, reduceAdd -> rA
set_option maxHeartbeats 0
set_option linter.unusedSimpArgs false
set_option linter.unusedVariables false
namespace Go.Ev.Gl
variable {fns:T dY}
structure dD where
 neg:Bool
 num:bg
 den:bg
def uY(S:St)(cs:bf)(x:dD):Prop:=∃nv dv,cs= [.bool x.neg,nv,dv]/\gK S nv x.num/\gK S dv x.den
theorem kB:kG uY:=fun⟨a,b,h,h1,h2⟩ hs=>⟨a,b,h,h1.same hs,h2.same hs⟩
def fK(S:St)(cs:bf)(L:List dD):Prop:=∃a,cs= [a]/\aE 3 uY S a L
theorem dL:kG fK:=fun⟨a,h,h1⟩ hs=>⟨a,h,aE.same (E:=uY) kB h1 hs⟩
def aCt(x:dD):Prop:=x.num.length * 4<=140737488355328/\x.den.length * 4<=140737488355328
def oI(s:List (List dD)):Prop:=∀r∈s,∀x∈r,aCt x
def aHn(g:aS)(L:a9)(first:ba):Prop:=lD g.bj.length (iI g.bj.length (L.map (de g))) first
def xM(g:aS)(L:a9)(z:AV)(K:ba->a9->AV->Prop)(r:AV):Prop:=(jH g L≠0/\r= .tup [z,.int .i64 (jH g L)])\/(jH g L=0/\∃first,aHn g L first/\((Dup g L first/\r= .tup [z,.int .i64 13])\/(¬Dup g L first/\∃act,qE g L first act/\K first act r)))
theorem aEI{g:aS}{L:a9}{z r r':AV}{K K':ba->a9->AV->Prop}(h:xM g L z K r)(h':xM g L z K' r'):(∃e:Int,r= .tup [z,.int .i64 e]/\r'= .tup [z,.int .i64 e])\/∃first act,jH g L=0/\aHn g L first/\¬Dup g L first/\qE g L first act/\K first act r/\K' first act r':=by
 rcases h with⟨a0,rfl⟩ | ⟨a0,first,hO,ha⟩
 ·rcases h' with⟨b0,rfl⟩ | ⟨b0,_⟩
  ·exact .inl ⟨_,rfl,rfl⟩
  ·exact absurd b0 a0
 ·rcases h' with⟨b0,_⟩ | ⟨b0,first',hO',hb⟩
  ·exact absurd a0 b0
  ·have⟨hf0,hL16,hims⟩:=iS a0;have hAll:∀m∈L,eX g m:=fun m hm=>gR (iC hims m hm);obtain rfl:first=first':=aNu (fun x y ⟨hx,q,hq,e⟩=>⟨hx,by have:=(aIi hf0 hAll).2 q hq;have:=this.2 x hx;omega⟩) hO hO';rcases ha with⟨hD,rfl⟩ | ⟨hD,act,hA,h1⟩
   ·rcases hb with⟨_,rfl⟩ | ⟨hD',_⟩
    ·exact .inl ⟨_,rfl,rfl⟩
    ·exact absurd hD hD'
   ·rcases hb with⟨hD',_⟩ | ⟨_,act',hA',h2⟩
    ·exact absurd hD' hD
    ·obtain rfl:=aMF hO hD hA hA';exact .inr ⟨first,act,a0,hO,hD,hA,h1,h2⟩
def qH(l:List oJ)(s:List (List dD)):Prop:=s.length=l.length/\∀ (i:Nat) (x:oJ) (r:List dD),l[i]? =some x->s[i]? =some r->x.bt=(r.length:Int)
def aRO:dD:=⟨false,[],[]⟩
def nO(s:List (List dD))(i a:Nat):dD:=(s.getD i []).getD a aRO
theorem aB7{s:List (List dD)}{i a:Nat}{r:List dD}(hr:s[i]? =some r)(ha:a<r.length):r[a]? =some (nO s i a):=by
 unfold nO;rw[Ad (l:=s),hr,Ad];show _=some (r[a]?.getD _);rw[Ab ha];rfl
def fJ(g:aS)(first:ba)(act:a9):bg:=(fQ g first act g.bh.length 0 0 []).da
def jT(first:ba)(i:Nat):Nat:=(first.getD i 0).toNat
def qL(act:a9)(i a:Nat):Nat:=((act.getD i []).getD a 0).toNat
def aED(g:aS)(first:ba)(act:a9)(s:List (List dD)):Prop:=∀i a,i<g.bj.length->a<cG g i->nO s i a=nO s (jT first i) (qL act i a)
def vN(g:aS)(da:bg):List oJ:=da.map fun r:Nat=>cd g (r:Int)
def oO(g:aS)(first:ba)(da:bg):Prop:=da.Nodup/\∀r∈da,r<g.bj.length/\first.getD r 0=(r:Int)
theorem aNi{g:aS}{first:ba}{da:bg}{r:Nat}(h:oO g first da)(hr:r<g.bj.length/\first.getD r 0=(r:Int)):oO g first (kR da r).1:=by
 unfold kR;split
 ·exact h
 ·rename_i hn;refine⟨List.nodup_append.2 ⟨h.1,by simp,fun a ha b hb e=>?_⟩,fun x hx=>?_⟩
  ·rw[Et] at hb;subst hb;subst e;exact hn ha
  ·rcases Cb.1 hx with hx | hx
   ·exact h.2 x hx
   ·rw[Et] at hx;subst hx;exact hr
theorem aGP{g:aS}{first:ba}{lay:Nat->Nat->bg->aDe}:∀ {l:ba} (_:∀k∈l,∀i da,oO g first da->oO g first (lay k.toNat i da).da) {i:Nat} {da:bg},oO g first da->oO g first (eR lay l i da).2.da
 | [],_,_,_=>fun h=>h
 | y::l,h,i,da=>fun hr=>by
  unfold eR;exact aGP (l:=l) (fun k hk=>h k (Bk _ hk)) (h y (Bv ..) i da hr)
theorem aJW{g:aS}{L:a9}{first:ba}{act:a9}(G:dE g)(hR:qA g act)(hO:aHn g L first):∀ {f o i:Nat} {da:bg},o<g.bh.length->oO g first da->oO g first (fQ g first act f o i da).da
 | 0,_,_,_=>fun _ h=>h
 | f+1,o,i,da=>fun ho h=>by
  unfold fQ;refine aGP (fun k hk i da hr=>?_) ?_
  ·have hp:=jD G hR ho;obtain⟨q,hq,rfl⟩:=Cm (hp.mem_iff.1 hk);have:=G.kids o ho q hq;rw[Ad,Ab hq] at this;simp only[Dq] at this;exact aJW G hR hO ar hr
  ·unfold fB;split
   ·rename_i hk;have⟨i1,i2,_⟩:=G.inf o ho hk;exact aNi h (aBh hO ar)
   ·exact h
theorem aBb{g:aS}{L:a9}{first:ba}{act:a9}(G:dE g)(hR:qA g act)(hO:aHn g L first):oO g first (fJ g first act):=aJW G hR hO G.n1 ⟨List.nodup_nil,fun _ h=>by cases h⟩
theorem aHQ{g:aS}{L:a9}{first:ba}{act:a9}(hD:¬Dup g L first)(hA:qE g L first act){r a:Nat}(hr:r<g.bj.length)(he:first.getD r 0=(r:Int))(ha:a<cG g r):qL act r a=a:=by
 have⟨b,e1,e2,e3⟩:=hA.at_ r a hr ha;rw[he,Az] at e2 e3;unfold qL;rw[e1,Az];rcases Dl a b with h | h | h
 ·exact absurd ⟨r,a,b,hr,he,h,e2,e3⟩ hD
 ·exact h.symm
 ·exact absurd ⟨r,b,a,hr,he,h,ha,.symm e3⟩ hD
theorem aG9{k:IntKind}{X X':St}{v:AV}{l:ba}(h:bI k X v l)(hn:X.nx<=X'.nx)(hh:∀c,aZ v=some c->X'.h.get c=X.h.get c):bI k X' v l:=by
 rcases h with h | ⟨b,off,cap,o,cs,rfl,hc,hb,hcs,hel⟩
 ·exact .inl h
 ·exact .inr ⟨b,off,cap,o,cs,rfl,hc,Ae hb hn,by unfold cK;rw[hh b rfl];exact hcs,hel⟩
def oD(S:St)(P:Nat->Prop)(e:bf)(x:dD):Prop:=∃nv dv,e= [.bool x.neg,nv,dv]/\gK S nv x.num/\gK S dv x.den/\∀c,(aZ nv=some c\/aZ dv=some c)->P c
theorem oD.move{S S':St}{P P':Nat->Prop}{e:bf}{x:dD}(h:oD S P e x)(hn:S.nx<=S'.nx)(hh:∀c,c<S.nx->P c->S'.h.get c=S.h.get c/\P' c):oD S' P' e x:=by
 have⟨nv,dv,e1,h1,h2,h3⟩:=h;have k:∀ {v:AV} {l:bg},gK S v l->(∀c,aZ v=some c->P c)->gK S' v l:=fun i hp=>aG9 i hn fun c hc=>(hh c (eU i hc) (hp c hc)).1;exact⟨nv,dv,e1,k h1 fun c hc=>h3 c (.inl hc),k h2 fun c hc=>h3 c (.inr hc),fun c hc=>(hh c (by rcases hc with hc | hc;exact eU h1 hc;exact eU h2 hc) (h3 c hc)).2⟩
theorem oD.raw{S:St}{P:Nat->Prop}{e:bf}{x:dD}(h:oD S P e x):uY S e x:=by
 have⟨nv,dv,e1,h1,h2,_⟩:=h;exact⟨nv,dv,e1,h1,h2⟩
theorem oD.len{S:St}{P:Nat->Prop}{e:bf}{x:dD}(h:oD S P e x):e.length=3:=by
 obtain⟨nv,dv,rfl,_⟩:=h;rfl
def MxW(lp ob:Nat)(cs:bf)(c:Nat):Prop:=c=lp\/c=ob\/∃a∈cs,aZ a=some c
structure Mx(lp:Nat)(S0 X:St)(ob n:Nat)(cs:bf)(L:Nat->List dD):Prop where
 ho:X.h.get ob=some (.cells cs false 0)
 lt:ob<X.nx
 hl:cs.length=n
 lo:lp<S0.nx
 le:S0.nx<=X.nx
 ne:ob≠lp
 gr:∀ (j:Nat) (a:AV),cs[j]? =some a->sJ 3 (oD X fun c=>¬MxW lp ob cs c) S0 X a (L j)
 no:∀a∈cs,aZ a≠some ob
 dj:∀ (j k:Nat) (a b:AV),j≠k->cs[j]? =some a->cs[k]? =some b->∀c,aZ a=some c->aZ b≠some c
section
variable {lp ob n:Nat}{S0 X X':St}{cs:bf}{L:Nat->List dD}
theorem Mx.move(h:Mx lp S0 X ob n cs L)(hn:X.nx<=X'.nx)(hk:∀c,c<X.nx->c≠lp->X'.h.get c=X.h.get c):Mx lp S0 X' ob n cs L:=
 ⟨(hk _ h.lt h.ne).trans h.ho,Ae h.lt hn,h.hl,h.lo,Al h.le hn,h.ne,fun j a hj=>(h.gr j a hj).move hn (fun c hc=>hk c ((h.gr j a hj).blk hc).2 (by have:=((h.gr j a hj).blk hc).1;have:=h.lo;omega)) fun _ _ hE=>hE.move hn fun c hc hP=>⟨hk c hc fun e=>hP (.inl e),hP⟩,h.no,h.dj⟩
theorem Mx.blk(h:Mx lp S0 X ob n cs L){a:AV}(ha:a∈cs){c:Nat}(hc:aZ a=some c):S0.nx<=c/\c<X.nx:=by
 have⟨j,hj⟩:=Dv.1 ha;exact(h.gr j a hj).blk hc
theorem Mx.high(h:Mx lp S0 X ob n cs L){c:Nat}(h3:X.nx<=c):¬MxW lp ob cs c:=by
 rintro(e | e | ⟨a,ha,hc⟩)
 ·have:=h.lo;have:=h.le;omega
 ·have:=h.lt;omega
 ·have:=(h.blk ha hc).2;omega
theorem Mx.push(h:Mx lp S0 X ob n cs L){i:Nat}{a a':AV}{l:List dD}(hi:cs[i]? =some a)(hn:X.nx<=X'.nx)(ho:X'.h.get ob=some (.cells (cs.set i a') false 0))(ha:sJ 3 (oD X' fun c=>¬MxW lp ob cs c/\aZ a'≠some c) S0 X' a' l)(hb:∀c,aZ a'=some c->aZ a=some c\/X.nx<=c)(hr:∀c,c<X.nx->c≠ob->aZ a≠some c->X'.h.get c=X.h.get c):Mx lp S0 X' ob n (cs.set i a') (fun j=>if j=i then l else L j):=by
 have ham:=Ar hi;have get:∀ (j:Nat) (c:AV),(cs.set i a')[j]? =some c->(j=i/\c=a')\/(j≠i/\cs[j]? =some c):=fun j c hj=>by
  rw[Cu] at hj;split at hj
  ·rename_i e;split at hj
   ·exact .inl ⟨e.symm,(Bp hj).symm⟩
   ·cases hj
  ·rename_i e;exact .inr ⟨fun e'=>e e'.symm,hj⟩
 have hW:∀c,c<X.nx->¬MxW lp ob cs c->X'.h.get c=X.h.get c/\¬MxW lp ob (cs.set i a') c:=fun c hc hP=>by
  refine⟨hr c hc (fun e=>hP (.inr (.inl e))) fun e=>hP (.inr (.inr ⟨a,ham,e⟩)),?_⟩;rintro(e | e | ⟨b,hbm,he⟩)
  ·exact hP (.inl e)
  ·exact hP (.inr (.inl e))
  ·have⟨j,hj⟩:=Dv.1 hbm;rcases get j b hj with⟨rfl,rfl⟩ | ⟨_,hj⟩
   ·rcases hb c he with he | he
    ·exact hP (.inr (.inr ⟨a,ham,he⟩))
    ·omega
   ·exact hP (.inr (.inr ⟨b,Ar hj,he⟩))
 refine⟨ho,Ae h.lt hn,by rw[Aq];exact h.hl,h.lo,Al h.le hn,h.ne,fun j c hj=>?_,fun b hbm e=>?_,fun j k x y hjk hx hy c hc hc'=>?_⟩
 ·rcases get j c hj with⟨rfl,rfl⟩ | ⟨hne,hj⟩
  ·simp only[↓reduceIte];refine ha.move (Ag _) (fun _ _=>rfl) fun _ _ hE=>hE.move (Ag _) fun d _ hP=>⟨rfl,?_⟩;rintro(e | e | ⟨b,hbm,he⟩)
   ·exact hP.1 (.inl e)
   ·exact hP.1 (.inr (.inl e))
   ·have⟨k,hk⟩:=Dv.1 hbm;rcases get k b hk with⟨rfl,rfl⟩ | ⟨_,hk⟩
    ·exact hP.2 he
    ·exact hP.1 (.inr (.inr ⟨b,Ar hk,he⟩))
  ·simp only[if_neg hne];refine(h.gr j c hj).move hn (fun d hd=>hr d ((h.gr j c hj).blk hd).2 (fun e=>h.no c (Ar hj) (by rw[hd,e])) (h.dj j i c a hne hj hi d hd)) fun _ _ hE=>hE.move hn hW
 ·have⟨j,hj⟩:=Dv.1 hbm;rcases get j b hj with⟨rfl,rfl⟩ | ⟨_,hj⟩
  ·rcases hb _ e with e | e
   ·exact h.no a ham e
   ·have:=h.lt;omega
  ·exact h.no b (Ar hj) e
 ·rcases get j x hx with⟨rfl,rfl⟩ | ⟨hne,hj⟩
  ·rcases get k y hy with⟨rfl,rfl⟩ | ⟨hne2,hk⟩
   ·exact hjk rfl
   ·rcases hb c hc with hc | hc
    ·exact h.dj j k a y hjk hi hk c hc hc'
    ·have:=((h.gr k y hk).blk hc').2;omega
  ·rcases get k y hy with⟨rfl,rfl⟩ | ⟨hne2,hk⟩
   ·rcases hb c hc' with hc' | hc'
    ·exact h.dj j k x a hjk hj hi c hc hc'
    ·have:=((h.gr j x hj).blk hc).2;omega
   ·exact h.dj j k x y hjk hj hk c hc hc'
theorem Mx.is(h:Mx lp S0 X ob n cs L):aE 1 fK X (.sl ob 0 n n false) ((List.range n).map L):=by
 refine .inr ⟨ob,0,n,false,cs,by simp,by simp,h.lt,by unfold cK;rw[h.ho];rfl,fun i l hi=>?_⟩;rw[Am,Aw] at hi;obtain⟨i',hi',rfl⟩:=hi;have hlt:i<n:=by have:=(Ai.1 hi').1;rwa [Ay] at this
 rw[Bf hlt] at hi';cases hi';have hc:cs[i]? =some (cs[i]'(by rw[h.hl];exact hlt)):=Ab _;refine⟨[cs[i]'(by rw[h.hl];exact hlt)],rfl,fun j x hj=>?_,_,rfl,(h.gr i _ hc).is fun _ _ hE=>hE.raw⟩;cases j with
 | zero=>
  cases hj;rw[An,Cr,Br];exact hc
 | succ j=>simp at hj
def RowK(key:Nat->Nat)(T:Nat->List dD)(s a j:Nat):List dD:=if key j<s then T j else if key j=s then(T j).take a else []
theorem Mx.ext{L':Nat->List dD}(h:Mx lp S0 X ob n cs L)(e:∀j,j<n->L j=L' j):Mx lp S0 X ob n cs L':=
 ⟨h.ho,h.lt,h.hl,h.lo,h.le,h.ne,fun j a hj=>by have:=(Ai.1 hj).1;rw[<-e j (by rw[<-h.hl];exact this)];exact h.gr j a hj,h.no,h.dj⟩
theorem aFq{key:Nat->Nat}{T:Nat->List dD}{s a i j:Nat}{x:dD}(hk:key i=s)(hx:(T i)[a]? =some x)(hu:∀j,j<n->key j=s->j=i)(hj:j<n):(if j=i then RowK key T s a i++ [x] else RowK key T s a j)=RowK key T s (a+1) j:=by
 unfold RowK;by_cases e:j=i
 ·rw[if_pos e,e,if_neg ar,if_pos hk,if_neg ar,if_pos hk,Bn,hx];rfl
 ·rw[if_neg e];by_cases h1:key j<s
  ·rw[if_pos h1,if_pos h1]
  ·rw[if_neg h1,if_neg h1,if_neg (fun h=>e (hu j hj h)),if_neg (fun h=>e (hu j hj h))]
theorem aKd{key:Nat->Nat}{T:Nat->List dD}{s a j:Nat}(h:key j=s->(T j).length<=a):RowK key T s a j=RowK key T (s+1) 0 j:=by
 unfold RowK;by_cases h1:key j<s
 ·rw[if_pos h1,if_pos ar]
 ·rw[if_neg h1];by_cases h2:key j=s
  ·rw[if_pos h2,if_pos ar,Bb (h h2)]
  ·rw[if_neg h2,if_neg ar];split
   ·rfl
   ·rfl
end
def aM7(_:St)(cs:bf)(x:Int):Prop:=cs= [.int .u32 x]
theorem aKy:kG aM7:=fun h _=>h
theorem toU{S:St}{v:AV}{l:ba}(h:bI .u32 S v l):aE 1 aM7 S v l:=by
 rcases h with h | ⟨b,off,cap,o,cs,rfl,hc,hb,hcs,hel⟩
 ·exact .inl h
 ·refine .inr ⟨b,off,cap,o,cs,rfl,hc,hb,hcs,fun i a hi=>⟨[.int .u32 a],rfl,fun j x hj=>?_,rfl⟩⟩;cases j with
  | zero=>simp at hj;subst hj;rw[Cr,Br];exact hel i a hi
  | succ j=>simp at hj
theorem ofU{S:St}{v:AV}{l:ba}(h:aE 1 aM7 S v l):bI .u32 S v l:=by
 rcases h with h | ⟨b,off,cap,o,cs,rfl,hc,hb,hcs,hel⟩
 ·exact .inl h
 ·refine .inr ⟨b,off,cap,o,cs,rfl,hc,hb,hcs,fun i a hi=>?_⟩;have⟨e,_,h2,h3⟩:=hel i a hi;have h3:e= [.int .u32 a]:=h3;subst h3;have:=h2 0 _ rfl;rw[Cr,Br] at this;exact this
theorem aEj{b:Nat}{S:St}{v:AV}{l:bg}(hb:S.h.get b=some (.cells [] false 0))(hbl:b<S.nx)(h:gK S v l)(hl:l.length * 4<=140737488355328):
  ∃r S',gP 4 1 (.sl b 0 0 0 false) v S=some (r,S')/\Same S S'/\gK S' r l/\∀c,aZ r=some c->c=b\/S.nx<=c:=by
 have⟨r,S',e,hr,s,hc⟩:=aPD (bytes:=4) (E:=aM7) (l:=l.map Int.ofNat) aKy Nat.one_pos hb hbl (toU h) (by rw[Aj];unfold room;omega) (by rw[Aj];unfold room;omega);exact⟨r,S',e,s,ofU hr,hc⟩
theorem aCC{S:St}{a b:AV}{l m:bg}(H:Has fns)(ha:gK S a l)(hb:gK S b m)(hl:m.length * 4<=140737488355328):fZ fns (.fn 150 [] []) [a,b] S fun r S'=>r= .bool (decide (l=m))/\Same S S':=by
 refine cF H.f150 (by simp) ?_;refine ai ?_;refine bO (ai ?_);refine fC (fh ha.len hb.len ?_);by_cases hlen:l.length=m.length
 ·refine aM (by simp only[↓aF,aG,rE,↓reduceIte,Aa (show ¬ (l.length:Int)≠(m.length:Int) by omega)]) (aI ?_);refine ai ?_;refine fC (ai ?_);refine aX (Q:=fun o A' S'=>Same S S'/\((o= .normal/\l=m)\/(o= .ret/\aD 4 A'.F= .bool false/\l≠m))) ?_ ?_
  ·refine aK (bH (aO5 S a b l m) ?_ l.length _ _ ⟨rfl,rfl,Ag _,0,ar,aj,aj,aj,by simp⟩);rintro k ⟨F,inr⟩ S' ⟨q0,hh,hnx,i,hik,p0,p1,p5,htk⟩;simp only at q0 p0 p1 p5;subst q0;have hS:=aJ0 hh hnx;have ha':=ha.same hS;have hb':=hb.same hS;refine fC ?_;simp only[↓aF,aG,rE,↓reduceIte,p0,p5,ha.len];by_cases hi:i<l.length
   ·refine aN (by simp only[↓aF,aG,rE,↓reduceIte,Ac (show(i:Int)<(l.length:Int) by omega)]) (aI ?_);refine ai ?_;have l1:=ha'.ld hi;have l2:=hb'.ld (i:=i) ar;rw[Ad] at l1 l2;have t1:l.take (i+1)=l.take i++ [l[i]?.getD 0]:=by rw[Bn,Ab hi];rfl
    have t2:m.take (i+1)=m.take i++ [m[i]?.getD 0]:=by rw[Bn,Ab (by omega:i<m.length)];rfl
    refine aA (aK (aA (gD ?_)));refine du p0 p1 p5 (ha.cp hi) (hb.cp (show i<m.length by omega)) l1 l2 ?_;by_cases hxy:l[i]?.getD 0=m[i]?.getD 0
    ·refine aM (by simp only[↓aF,aG,rE,↓reduceIte,hxy];simp) (aI ?_);refine ai ?_;refine aJ ?_;have w1:=dh i
     refine fh p5 w1 ?_;exact⟨k - 1,ar,rfl,hh,by simp;omega,i+1,ar,ak p0,ak p1,aj,by rw[t1,t2,htk,hxy]⟩
    ·refine aN (by simp only[↓aF,aG,rE,↓reduceIte];simp;omega) ?_;refine bO (ai ?_);refine aP (ai ?_);exact⟨hS.trans (Same.nx S' _),.inr (by rintro rfl;exact hxy rfl)⟩
   ·refine aM (by simp only[↓aF,aG,rE,↓reduceIte,Aa (show ¬ (i:Int)<(l.length:Int) by omega)]) (bJ ?_);refine ai ?_;rw[Bb ar,Bb ar] at htk;exact⟨hS,.inl htk⟩
  rintro o ⟨F,inr⟩ S' ⟨hS,⟨rfl,he⟩ | ⟨rfl,p4,hne⟩⟩
  ·refine ai ?_;refine bO (ai ?_);refine aP (ez (Ac he) ?_);exact hS
  ·simp only at p4;refine fh p4 (Aa hne) ?_;exact hS
 ·refine aN (by simp only[↓aF,aG,rE,↓reduceIte,Ac (show(l.length:Int)≠(m.length:Int) by omega)]) ?_;refine bO (ai ?_);refine aP ?_;have:¬l=m:=by rintro rfl;exact hlen rfl
  refine ez (Aa this) ?_;exact dk _
theorem aCl{S:St}{a b:AV}{l m:ba}(H:Has fns)(ha:bI .u32 S a l)(hb:bI .u32 S b m)(hl:l.length * 4<=140737488355328):fZ fns (.fn 171 [] []) [a,b] S fun r S'=>r= .bool (decide (l=m))/\Same S S':=by
 refine cF H.f171 (by simp) ?_;refine am ?_;refine bO (am ?_);refine fC (dz ha.len hb.len @Ah ?_);by_cases hlm:l.length=m.length;rotate_left
 ·rw[Aa (show ¬l=m from fun e=>hlm (by rw[e]))];refine aN (by simp only[↓aF,aG,rE,↓reduceIte,rA,Ac (show(l.length:Int)≠(m.length:Int) by omega)]) ?_;refine bO (am ?_);refine aP (am ?_);exact dk _
 refine aM (by simp only[↓aF,aG,rE,↓reduceIte,rA,Aa (show ¬ (l.length:Int)≠(m.length:Int) by omega)]) (aI ?_);try refine am ?_
 refine aA (aX (Q:=fun o A' X=>(o= .normal/\aOv S a b l m 0 A' X)\/(o= .ret/\Same S X/\l≠m/\aD 4 A'.F= .bool false)) (aA (aJ ?_)) ?_)
 ·refine dy ha.len @Ah ?_;refine aK (bH (aOv S a b l m) ?_ l.length _ _ ⟨rfl,dk _,0,ar,rfl,by refine⟨?_,?_,?_,?_⟩<;>simp only[↓aF,aG,rE,↓reduceIte,rA]⟩);rintro k ⟨F,inr⟩ X ⟨q0,hX,i,hik,he,p0,p1,p12,p13⟩;simp only at q0 p0 p1 p12 p13;subst q0;refine bO (dy p12 p13 ?_);by_cases hlt:i<l.length
  ·refine aA (aN (by simp only[↓aF,aG,rE,↓reduceIte,rA,Ac (show(i:Int)<(l.length:Int) by omega)]) (aI ?_));try refine am ?_
   have hltm:i<m.length:=by omega
   have ia:=(ha.same hX).cp hlt;have la:=(ha.same hX).ld hlt;have ib:=(hb.same hX).cp hltm;have lb:=(hb.same hX).ld hltm;have w1:=dh i
   refine aA (aK (aA (aJ ?_)));refine dx p13 ?_;refine aA (gD ?_);refine eu p0 p1 @aH ia ib la lb ?_;have el:l.getD i 0=l[i]:=by rw[Ad,Ab hlt];rfl
   have em:m.getD i 0=m[i]:=by rw[Ad,Ab hltm];rfl
   by_cases hx:l.getD i 0=m.getD i 0
   ·refine aM (by simp only[↓aF,aG,rE,↓reduceIte,rA,Aa (show ¬l.getD i 0≠m.getD i 0 from fun h=>h hx)]) (aI ?_);try refine am ?_
    refine aJ (dy p13 w1 ?_);refine⟨k - 1,ar,rfl,hX.trans (Same.nx _ _),i+1,ar,?_,by refine⟨?_,?_,?_,?_⟩<;>simp only[↓aF,aG,rE,↓reduceIte,rA,p0,p1,p12]⟩;rw[Bn,Bn,he,Ab hlt,Ab hltm,<-el,<-em,hx]
   ·refine aN (by simp only[↓aF,aG,rE,↓reduceIte,rA,Ac (show l.getD i 0≠m.getD i 0 from hx)]) ?_;refine bO (am ?_);refine aP (am ?_);exact .inr ⟨hX.trans (Same.nx _ _),fun e=>hx (by rw[e])⟩
  ·refine aA (aM (by simp only[↓aF,aG,rE,↓reduceIte,rA,Aa (show ¬ (i:Int)<(l.length:Int) by omega)]) (bJ ?_));refine am ?_;have hk0:k=0:=by omega
   subst hk0;exact .inl ⟨rfl,hX,i,hik,he,by refine⟨?_,?_,?_,?_⟩<;>simp only[↓aF,aG,rE,↓reduceIte,rA,p0,p1,p12,p13]⟩
 rintro o ⟨F,inr⟩ X (⟨rfl,q0,hX,i,hik,he,p0,p1,p12,p13⟩ | ⟨rfl,hX,hne,p4⟩);rotate_left
 ·simp only at p4;refine dx p4 ?_;rw[Aa hne];exact⟨rfl,hX⟩
 simp only at q0;subst q0;rw[Bb ar,Bb ar] at he;rw[Ac he];try refine am ?_
 refine bO (am ?_);refine aP (am ?_);exact hX
theorem aA0{S:St}{v:AV}{l:bg}(H:Has fns)(h:gK S v l)(hl:l.length * 4<=140737488355328):fZ fns (.fn 148 [] []) [v] S fun r X=>Same S X/\gK X r l/\∀c,aZ r=some c->S.nx<=c:=by
 refine cF H.f148 (by simp) ?_;refine ae ?_;refine bO (ae ?_);by_cases hv:v= .bw
 ·have hl0:l= []:=by
   rcases h with⟨h,_⟩ | ⟨b,off,cap,o,cs,rfl,_⟩
   ·exact List.map_eq_nil_iff.1 h
   ·cases hv
  subst hv;subst hl0;have he:pV .eql (.p .slice) .bw .bw=some (.bool true):=rfl;refine fC (dm he ?_);refine aN (af) ?_;refine bO (ae ?_);refine aP (ae ?_);exact⟨dk S,.inl ⟨rfl,.inl rfl⟩,fun c hc=>by cases hc⟩
 ·have he:pV .eql (.p .slice) v .bw=some (.bool false):=by
   rcases h with⟨_,rfl | rfl⟩ | ⟨b,off,cap,o,cs,rfl,_⟩
   ·exact absurd rfl hv
   ·rfl
   ·rfl
  refine fC (dm he ?_);refine aM (af) (aI ?_);try refine ae ?_
  refine bO ?_;refine fN rG ?_;intro S1 s1 n1 g1;refine am ?_;have⟨r,S2,e,s2,hr,hb⟩:=aEj g1 ar (h.same s1) hl;refine fI (fun call=>by refine dx @gO ?_;exact e) ?_;refine am ?_;refine aP (am ?_);exact⟨s1.trans s2,hr,fun c hc=>by rcases hb c hc with rfl | h<;>omega⟩
theorem aCn{S:St}{e:bf}{x:dD}(H:Has fns)(h:uY S e x)(ht:aCt x):fZ fns (.fn 108 [] []) [.agg e] S fun r S'=>Same S S'/\∃e',r= .agg e'/\oD S' (fun c=>S.nx<=c) e' x:=by
 obtain⟨nv,dv,rfl,h1,h2⟩:=h;refine cF H.f108 (by simp) ?_;refine ai ?_;refine bO ?_;refine cI (by simp only[↓aF,aG,rE,↓reduceIte,aY];rfl) ?_;intro S1 hS1 hn1 hb1;refine cA ?_;intro S2 hS2 hn2 hb2;refine ai ?_;have hb1':S2.h.get S.nx=some (.cells [.bool x.neg,nv,dv] false 0):=by rw[hS2.2 _ ar];exact hb1
 have hS12:=hS1.trans hS2;have lt1:S.nx<S2.nx:=by omega
 have ne1:¬S.nx=S1.nx:=by omega
 refine aA (gS (fun c=>c=S1.nx) ?_);intro S3 hS3;have hS13:=hS12.trans hS3;have l3:=hS3.1;simp only[↓sU,sD,rE,↓reduceIte,rA,aC,aB,aQ,gT hb1',zE hb1',lt1,ne1,Ak,qU h1];refine cU rfl ?_;refine ae ?_;refine aW (aA0 H (h1.same hS13) ht.1) ?_;rintro nv' S4 ⟨hS4,hn',bn⟩;refine⟨hS4,?_⟩;have l4:=hS4.1;refine dw @aC @aB @aQ (iY hb1') lt1 ne1 @Ak (qU h2) ?_;refine cU rfl ?_;refine ae ?_;refine aW (aA0 H (h2.same (hS13.trans hS4)) ht.2) ?_;rintro dv' S5 ⟨hS5,hd',bd⟩;refine⟨hS5,?_⟩;refine dr @iW @aLc @aDc (vO hn') (vO hd') ?_;have hb5:S5.h.get S1.nx=some (.cells [.bool false,.bw,.bw] false 0):=by
  rw[hS5.2 _ ar,hS4.2 _ ar,hS3.2 _ ar];exact hb2
 refine aH7 (b:=S1.nx) rfl (af) (by simp only[↓sU,sD,rE,↓reduceIte,rA,aY];rfl) hb5 rfl rfl rfl ?_;intro S6 hS6 hn6 hb6;refine ae ?_;refine aP (dn @dJ (ld3 hb6) ?_);refine⟨hS6.same (hS13.trans (hS4.trans hS5)) ar,_,rfl,oD.move (P:=fun c=>S3.nx<=c) ⟨nv',dv',rfl,hn'.same hS5,hd',fun c hc=>?_⟩ hS6.1 fun c hc hP=>⟨hS6.2 c hc ar,ar⟩⟩;rcases hc with hc | hc
 ·exact bn c hc
 ·have:=bd c hc;omega
theorem aFB{S:St}{e:bf}{x:dD}(H:Has fns)(h:uY S e x)(ht:aCt x):fZ fns (.fn 110 [] []) [.agg e] S fun r S'=>Same S S'/\∃e',r= .agg e'/\oD S' (fun c=>S.nx<=c) e' x:=by
 obtain⟨nv,dv,rfl,h1,h2⟩:=h;refine cF H.f110 (by simp) ?_;refine ai ?_;refine bO ?_;refine cI (by simp only[↓aF,aG,rE,↓reduceIte,aY];rfl) ?_;intro S1 s1 n1 c1;refine cA ?_;intro S2 s2 n2 c2;refine ai ?_;have g1:S2.h.get S.nx=some (.cells [.bool x.neg,nv,dv] false 0):=by rw[s2.2 _ ar];exact c1
 have sS:=s1.trans s2;have lt1:S.nx<S2.nx:=by omega
 have ne1:¬S.nx=S1.nx:=by omega
 refine aA (nS (fun c=>c=S1.nx) ?_);intro S3 s3 h3 n3;simp only[Ax,Bq,rA] at n3;simp only[↓sU,sD,rE,↓reduceIte,rA,aC,aB,aQ,gT g1,zE g1,lt1,ne1,Ak,qU h1,rG];obtain⟨U,hU⟩:∃U:St,U=⟨S3.h.set (S2.nx+2) (some (.cells [] false 0)),S3.nx⟩:=⟨_,rfl⟩;have nU:U.nx=S3.nx:=by rw[hU]
 have sU2:Same S2 U:=⟨ar,fun c hc=>by rw[hU];simp only;rw[di,if_neg ar];exact s3.2 c hc⟩;have gU:U.h.get (S2.nx+2)=some (.cells [] false 0):=by rw[hU];simp only;rw[di,if_pos rfl]
 have⟨r1,S4,happ,s4,hr1,b1⟩:=aEj gU ar (h1.same (sS.trans sU2)) ht.1;have s24:Same S2 S4:=sU2.trans s4;have l4:=s4.1;refine lQ rfl (by rw[cP rfl];refine ae ?_;rw[<-hU];exact happ) ?_ ?_
 ·rw[cP rfl,<-hU];exact⟨s4.1,fun c hc _=>s4.2 c ar⟩
 rw[cP rfl];simp only[↓sU,sD,rE,↓reduceIte,rA,aC,aB,aQ,iY g1,lt1,ne1,Ak,qU h2,rG];obtain⟨V,hV⟩:∃V:St,V=⟨S4.h.set (S2.nx+6) (some (.cells [] false 0)),S4.nx⟩:=⟨_,rfl⟩;have nV:V.nx=S4.nx:=by rw[hV]
 have sV:Same S2 V:=⟨ar,fun c hc=>by rw[hV];simp only;rw[di,if_neg ar];exact s24.2 c hc⟩;have gV:V.h.get (S2.nx+6)=some (.cells [] false 0):=by rw[hV];simp only;rw[di,if_pos rfl]
 have⟨r2,S5,happ2,s5,hr2,b2⟩:=aEj gV ar (h2.same (sS.trans sV)) ht.2;have s25:Same S2 S5:=sV.trans s5;have l5:=s5.1;refine lQ rfl (by rw[cP rfl];refine ae ?_;rw[<-hV];exact happ2) ?_ ?_
 ·rw[cP rfl,<-hV];exact⟨s5.1,fun c hc _=>s5.2 c ar⟩
 rw[cP rfl];have k1:gK S5 r1 x.num:=aG9 hr1 ar fun c hc=>by
  have hlow:=eU hr1 hc;rw[s5.2 c ar,hV];simp only;rw[di,if_neg];rcases b1 c hc with e | e<;>omega
 refine dr @iW @aLc @aDc (vO k1) (vO hr2) ?_;have c5:S5.h.get S1.nx=some (.cells [.bool false,.bw,.bw] false 0):=by rw[s25.2 _ ar];exact c2
 refine aH7 (b:=S1.nx) rfl (af) (by simp only[↓sU,sD,rE,↓reduceIte,rA,aY];rfl) c5 rfl rfl rfl ?_;intro S6 s6 n6 c6;refine ae ?_;refine aP (dn @dJ (ld3 c6) ?_);refine⟨s6.same (sS.trans s25) ar,_,rfl,oD.move (P:=fun c=>S2.nx<=c) ⟨r1,r2,rfl,k1,hr2,fun c hc=>?_⟩ s6.1 fun c hc hP=>⟨s6.2 c hc ar,ar⟩⟩;rcases hc with hc | hc
 ·rcases b1 c hc with e | e<;>omega
 ·rcases b2 c hc with e | e<;>omega
theorem yF{x y:dD}:x=y↔x.neg=y.neg/\x.num=y.num/\x.den=y.den:=by
 cases x;cases y;simp only[dD.mk.injEq]
theorem aDR:∀ {l m:bg},l.map Int.ofNat=m.map Int.ofNat->l=m
 | [],[],_=>rfl
 | [],_::_,h=>by cases h
 | _::_,[],h=>by cases h
 | a::l,b::m,h=>by
  simp only[Dc,Bx] at h;rw[Int.ofNat.inj h.1,aDR h.2]
theorem aGL{S:St}{e f:bf}{x y:dD}(H:Has fns)(ha:uY S e x)(hb:uY S f y)(ht:aCt x):fZ fns (.fn 149 [] []) [.agg e,.agg f] S fun r S'=>Same S S'/\∃t,r= .bool t/\(t=true↔x=y):=by
 obtain⟨nv,dv,rfl,h1,h2⟩:=ha;obtain⟨mv,ev,rfl,h3,h4⟩:=hb;refine cF H.f149 (by simp) ?_;refine ai ?_;refine bO ?_;refine cI (by simp only[↓aF,aG,rE,↓reduceIte,aY];rfl) ?_;intro S1 hS1 hn1 hb1;refine cI (by simp only[↓aF,aG,rE,↓reduceIte,aY];rfl) ?_;intro S2 hS2 hn2 hb2;refine ai ?_;have hS:=hS1.trans hS2;have g1:S2.h.get S.nx=some (.cells [.bool x.neg,nv,dv] false 0):=by rw[hS2.2 _ ar];exact hb1
 refine aA (aX (Q:=fun o A' S'=>o= .normal/\Same S S'/\∃t,aD 4 A'.F= .bool t/\(t=true↔x=y)) ?_ ?_)
 ·refine aJ ?_;by_cases e1:x.neg=y.neg
  ·simp only[↓aF,aG,rE,↓reduceIte,aC,aB,gT g1,gT hb2,zE g1,zE hb2,aBg,e1,Dk];refine bD (ai ?_);refine aW (aCl H (h1.same hS) (h3.same hS) (by rw[Aj];exact ht.1)) ?_;rintro _ S3 ⟨rfl,hS3⟩;have g1':S3.h.get S.nx=some (.cells [.bool x.neg,nv,dv] false 0):=by rw[hS3.2 _ ar];exact g1
   have g2':S3.h.get S1.nx=some (.cells [.bool y.neg,mv,ev] false 0):=by rw[hS3.2 _ ar];exact hb2
   by_cases e2:x.num=y.num
   ·simp only[↓aF,aG,rE,↓reduceIte,e2,decide_true,aC,aB,iY g1',iY g2'];refine bD (ai ?_);refine aW (aCl H (h2.same (hS.trans hS3)) (h4.same (hS.trans hS3)) (by rw[Aj];exact ht.2)) ?_;rintro _ S4 ⟨rfl,hS4⟩;try refine ai ?_
    refine⟨hS.trans (hS3.trans hS4),_,rfl,?_⟩;rw[Cf,yF];exact⟨fun h=>⟨e1,e2,aDR h⟩,fun h=>by rw[h.2.2]⟩
   ·refine ez (Aa (show ¬x.num.map Int.ofNat=y.num.map Int.ofNat from fun h=>e2 (aDR h))) ?_;refine⟨hS.trans hS3,_,rfl,?_⟩;rw[yF];exact⟨fun h=>(by cases h),fun h=>absurd h.2.1 e2⟩
  ·have:(x.neg==y.neg)=false:=by simpa using e1
   simp only[↓aF,aG,rE,↓reduceIte,aC,aB,gT g1,gT hb2,aBg,this];refine⟨hS,_,rfl,?_⟩;rw[yF];exact⟨fun h=>(by cases h),fun h=>absurd h.1 e1⟩
 ·rintro o ⟨F,inr⟩ S' ⟨rfl,hS,t,p4,ht⟩;simp only at p4;refine ai ?_;refine aP (ez p4 ?_);exact⟨hS,_,rfl,ht⟩
theorem aC4{S:St}{e f:bf}{x y:dD}(H:Has fns)(ha:uY S e x)(hb:uY S f y)(ht:aCt y):fZ fns (.fn 113 [] []) [.agg e,.agg f] S fun r S'=>Same S S'/\∃t,r= .bool t/\(t=true↔x=y):=by
 obtain⟨nv,dv,rfl,h1,h2⟩:=ha;obtain⟨mv,ev,rfl,h3,h4⟩:=hb;refine cF H.f113 (by simp) ?_;refine ai ?_;refine bO ?_;refine cI (by simp only[↓aF,aG,rE,↓reduceIte,aY];rfl) ?_;intro S1 hS1 hn1 hb1;refine cI (by simp only[↓aF,aG,rE,↓reduceIte,aY];rfl) ?_;intro S2 hS2 hn2 hb2;refine ai ?_;have hS:=hS1.trans hS2;have g1:S2.h.get S.nx=some (.cells [.bool x.neg,nv,dv] false 0):=by rw[hS2.2 _ ar];exact hb1
 refine aA (aX (Q:=fun o A' S'=>o= .normal/\Same S S'/\∃t,aD 4 A'.F= .bool t/\(t=true↔x=y)) ?_ ?_)
 ·refine aJ ?_;by_cases e1:x.neg=y.neg
  ·simp only[↓aF,aG,rE,↓reduceIte,aC,aB,gT g1,gT hb2,zE g1,zE hb2,aBg,e1,Dk];refine bD (ai ?_);refine aW (aCC H (h1.same hS) (h3.same hS) ht.1) ?_;rintro _ S3 ⟨rfl,hS3⟩;have g1':S3.h.get S.nx=some (.cells [.bool x.neg,nv,dv] false 0):=by rw[hS3.2 _ ar];exact g1
   have g2':S3.h.get S1.nx=some (.cells [.bool y.neg,mv,ev] false 0):=by rw[hS3.2 _ ar];exact hb2
   by_cases e2:x.num=y.num
   ·simp only[↓aF,aG,rE,↓reduceIte,e2,decide_true,aC,aB,iY g1',iY g2'];refine bD (ai ?_);refine aW (aCC H (h2.same (hS.trans hS3)) (h4.same (hS.trans hS3)) ht.2) ?_;rintro _ S4 ⟨rfl,hS4⟩;try refine ai ?_
    refine⟨hS.trans (hS3.trans hS4),_,rfl,?_⟩;rw[Cf,yF];exact⟨fun h=>⟨e1,e2,h⟩,fun h=>h.2.2⟩
   ·refine ez (Aa (show ¬x.num=y.num from e2)) ?_;refine⟨hS.trans hS3,_,rfl,?_⟩;rw[yF];exact⟨fun h=>(by cases h),fun h=>absurd h.2.1 e2⟩
  ·have:(x.neg==y.neg)=false:=by simpa using e1
   simp only[↓aF,aG,rE,↓reduceIte,aC,aB,gT g1,gT hb2,aBg,this];refine⟨hS,_,rfl,?_⟩;rw[yF];exact⟨fun h=>(by cases h),fun h=>absurd h.1 e1⟩
 ·rintro o ⟨F,inr⟩ S' ⟨rfl,hS,t,p4,ht⟩;simp only at p4;refine ai ?_;refine aP (ez p4 ?_);exact⟨hS,_,rfl,ht⟩
end Go.Ev.Gl
namespace Go.Ev.Gl
def SlB(B k:Nat){α:Type}(E:St->bf->α->Prop)(S:St)(avs:bf)(l:List α):Prop:=
 ∃av,avs= [av]/\l.length * B<=140737488355328/\((l= []/\(av= .bw\/av= .emp))\/∃ (b cap:Nat) (css:List (bf)),av= .sl b 0 l.length cap false/\l.length<=cap/\b<S.nx/\S.h.get b=some (.ro css.flatten)/\css.length=l.length/\∀ (i:Nat) (cs:bf) (a:α),css[i]? =some cs->l[i]? =some a->cs.length=k/\E S cs a)
theorem aLF{B k:Nat}{α:Type}{E:St->bf->α->Prop}(hE:kG E):kG (SlB B k E):=by
 rintro S S' avs l ⟨av,rfl,hL,h | ⟨b,cap,css,h1,h2,h3,h4,h5,h6⟩⟩ hs
 ·exact⟨av,rfl,hL,.inl h⟩
 ·exact⟨av,rfl,hL,.inr ⟨b,cap,css,h1,h2,Ae h3 hs.1,(hs.2 b h3).trans h4,h5,fun i cs a hi ha=>⟨(h6 i cs a hi ha).1,hE (h6 i cs a hi ha).2 hs⟩⟩⟩
theorem SlB.is{B k:Nat}{α:Type}{E:St->bf->α->Prop}{S:St}{avs:bf}{l:List α}(h:SlB B k E S avs l):∃v,avs= [v]/\aE k E S v l:=by
 obtain⟨v,rfl,_,h | ⟨b,cap,css,h1,h2,h3,h4,h5,h6⟩⟩:=h
 ·exact⟨v,rfl,.inl h⟩
 ·refine⟨v,rfl,.inr ⟨b,0,cap,false,css.flatten,h1,h2,h3,?_,fun i a hi=>?_⟩⟩
  ·unfold cK;rw[h4];rfl
  ·have hil:i<css.length:=by have:=(Ai.1 hi).1;omega
   have⟨e1,e2⟩:=h6 i css[i] a (Ab hil) hi;refine⟨css[i],e1,fun j x hj=>?_,e2⟩;rw[An];exact flat_get (fun i' cs' hi'=>(h6 i' cs' (l[i']'(by have:=(Ai.1 hi').1;omega)) hi' (Ab _)).1) (Ab hil) hj
theorem aMT{B k:Nat}{α:Type}{E:St->bf->α->Prop}{S:St}{avs:bf}{l:List α}(h:SlB B k E S avs l){a:α}(ha:a∈l):∃cs,E S cs a:=by
 obtain⟨_,_,_,⟨rfl,_⟩ | ⟨b,cap,css,_,_,_,_,h5,h6⟩⟩:=h
 ·cases ha
 ·have⟨i,hi⟩:=Dv.1 ha;have hlt:=(Ai.1 hi).1;exact⟨_,(h6 i css[i] a (Ab ar) hi).2⟩
section
variable {P:Program}{σ:Env}{S:St}{w:World}
theorem aH5{t e:TypeId}{B k:Nat}{α:Type}{E:St->bf->α->Prop}(ht:P.underlying t=some (.slice e))(hc:P.cellsOf e=k)(hk:0<k)(hby:B<=P.bytesOf e)(hE:Lays P e E)(hF:kG E):Lays P t (SlB B k E):=by
 intro H enc σ S w base spare held fuel cs x hR hn hf hG h hW;rcases DataW.trod_slice ht h with⟨rfl,_⟩ | ⟨a,len,cap,elems,rest,n,rfl,rfl,hxe,_,hlc,_,hlen,hel,_⟩
 ·exact⟨σ,S,[.bw],[],lP.refl hR hn hf,dB.2 ⟨_,_,rfl,by simp only[Rv],cS.2 rfl⟩,fun u hu=>by simp at hu;subst hu;rfl,⟨_,rfl,by simp,.inl ⟨rfl,.inl rfl⟩⟩,Ag _⟩
 ·rw[hc] at hel;subst hxe;have hW:∀n∈DataW.weights P t (.slice (elems.map (·.1)) (rest.map (·.1))),n<=140737488355328:=hW;rw[yY ht] at hW;have hlw:len * B<=140737488355328:=by
   have h1:=hW _ (Bv ..);rw[Aj,hlen,Ec] at h1;exact Al (Nat.mul_le_mul_left len hby) ar
  rcases Dh len with h0 | hp
  ·subst h0;exact⟨σ,S,[.emp],[],lP.refl hR hn hf,dB.2 ⟨_,_,rfl,by simp only[Rv];exact⟨a,cap,rfl⟩,cS.2 rfl⟩,fun u hu=>by simp at hu;subst hu;rfl,⟨_,rfl,by simp,.inl ⟨rfl,.inr rfl⟩⟩,Ag _⟩
  ·have hget:∀i,i<len->∃x,(w.cells? base (a.add (i * k)) k).bind (DataW.trod enc P w base spare held n e)=some x/\∀n∈DataW.weights P e x.1,n<=140737488355328:=fun i hi=>by
    rw[hel i hi];exact⟨elems[i]' ar,Ab ar,fun n hn=>hW n (Bk _ (De _ (yD (Ez (Bo _)) hn)))⟩
   have⟨x0,hx0,_⟩:=hget 0 hp;have⟨cs0,hcs0,_⟩:=Cz.1 hx0;have⟨hl0,hc0⟩:=aIL hcs0;have c0:=hc0 0 hk;rw[Ab ar,Ep] at c0;have e0:(a.add 0).add 0=a:=rfl;rw[e0] at c0;have hblk:a.block<w.heap.size/\a.spot=none:=by
    unfold World.cell? at c0;cases hh:w.heap[a.block]? with
    | none=>rw[hh] at c0;cases c0
    | some o=>
     refine⟨(Ce.1 hh).1,?_⟩;rw[hh] at c0;cases o with
     | cells c t fr=>
      simp only at c0;by_cases hs:a.spot.isSome
      ·rw[if_pos hs] at c0;cases c0
      ·simpa using hs
     | _=>cases c0
   have⟨σ1,S1,css,l,Cs,hA,hn1,hcl,hll,hE1,hrv,hone,hCl,hrange⟩:=aAv hE hF hk hblk.2 hR hn hf hG hget;have hA2:=aFo hA.rep hA.no hA.fresh (Al hG hn1) hblk.1 hrv hone hrange;refine⟨_,_,[.sl S1.nx 0 len cap false],l,hA.trans hA2,dB.2 ⟨_,_,rfl,?_,cS.2 rfl⟩,fun u hu=>by simp at hu;subst hu;rfl,⟨_,rfl,by rw[hll];exact hlw,.inr ⟨S1.nx,cap,css,by rw[hll],ar,by simp,?_,by rw[hcl,hll],fun i cs a' hi ha=>⟨(hE1 i cs a' hi ha).1,hF (hE1 i cs a' hi ha).2 hA2.same⟩⟩⟩,by simp only;omega⟩
   ·simp only[Rv];refine⟨⟨a.block,a.off,0⟩,by unfold wU;rw[if_pos rfl],?_⟩;have:=hblk.2;cases a
    simp_all
   ·simp only;rw[di,if_pos rfl]
end
abbrev EU4:St->bf->ba->Prop:=SlB 4 1 (qR .u32)
abbrev EQ1:St->bf->(ba×Unit)->Prop:=qG EU4 NoE
abbrev EQ2:St->bf->(ba×ba×Unit)->Prop:=qG EU4 EQ1
abbrev aL3:St->bf->(Bool×ba×ba×Unit)->Prop:=qG aH4 EQ2
abbrev EQs:St->bf->List (Bool×ba×ba×Unit)->Prop:=qM 3 aL3
abbrev aOd:St->bf->List (List (Bool×ba×ba×Unit))->Prop:=qM 1 EQs
theorem aCM:kG EU4:=aLF (E:=qR .u32) iJ
theorem aM9:kG EQ1:=jI (E:=EU4) (R:=NoE) aCM aF8
theorem aNw:kG EQ2:=jI (E:=EU4) (R:=EQ1) aCM aM9
theorem aGG:kG aL3:=jI (E:=aH4) (R:=EQ2) aFi aNw
theorem aNH:kG EQs:=Ev.cm (E:=aL3) aGG
theorem aJR{S:St}{avs:bf}{l:ba}(h:EU4 S avs l):∃v,avs= [v]/\gK S v (l.map Int.toNat)/\l.length * 4<=140737488355328:=by
 have h0:∀x∈l,0<=x:=fun x hx=>by
  obtain⟨cs,rfl,hw⟩:=aMT h hx;have h0:IntKind.u32.min=0:=rfl;simp [Lit.wf] at hw;omega
 have⟨_,_,hL,_⟩:=id h;have⟨v,e,i⟩:=SlB.is h;refine⟨v,e,?_,hL⟩;unfold gK;rw[List.map_map];have:(l.map (Int.ofNat ∘ Int.toNat))=l:=(Ej fun x hx=>Int.toNat_of_nonneg (h0 x hx)).trans (List.map_id _);rw[this];exact aFj i
def aLK(a:Bool×ba×ba×Unit):dD:=⟨a.1,a.2.1.map Int.toNat,a.2.2.1.map Int.toNat⟩
def aQK(S:St)(cs:bf)(x:dD):Prop:=uY S cs x/\aCt x
theorem aQr{S:St}{e:bf}{a:Bool×ba×ba×Unit}(h:aL3 S e a):aQK S e (aLK a):=by
 obtain⟨_,_,rfl,rfl,_,_,rfl,h1,_,_,rfl,h2,rfl⟩:=h;obtain⟨v1,rfl,i1,b1⟩:=aJR h1;obtain⟨v2,rfl,i2,b2⟩:=aJR h2;exact⟨⟨v1,v2,rfl,i1,i2⟩,by unfold aLK;rw[Aj];exact b1,by unfold aLK;rw[Aj];exact b2⟩
theorem aJo{k:Nat}{α:Type}{E:St->bf->α->Prop}{S:St}{v:AV}{l:List α}(h:aE k E S v l){a:α}(ha:a∈l):∃e,E S e a:=by
 have⟨i,hi⟩:=Dv.1 ha;have⟨e,_,_,_,_,_,h6,_⟩:=aE.get h hi;exact⟨e,h6⟩
def aQP(S:St)(cs:bf)(L:List dD):Prop:=∃a,cs= [a]/\aE 3 aQK S a L
theorem aO3{S:St}{e:bf}{a:List (Bool×ba×ba×Unit)}(h:EQs S e a):aQP S e (a.map aLK):=by
 obtain⟨v,rfl,i⟩:=qM.is h;exact⟨v,rfl,aE.conv (fun e x h=>aQr h) i⟩
theorem aHp{k:Nat}{α:Type}{E E':St->bf->α->Prop}{S:St}{v:AV}{l:List α}(h:aE k E S v l)(hE:∀e a,E S e a->E' S e a):aE k E' S v l:=by
 have:=aE.conv (f:=id) (E':=E') hE h
 rwa [List.map_id] at this
theorem aO4{S:St}{avs:bf}{a:List (List (Bool×ba×ba×Unit))}(h:aOd S avs a):∃v,∃L:List (List dD),avs= [v]/\aE 1 fK S v L/\oI L:=by
 obtain⟨v,rfl,i⟩:=qM.is h;have hT:aE 1 aQP S v (a.map fun r=>r.map aLK):=aE.conv (fun e x h=>aO3 h) i;refine⟨v,_,rfl,aHp hT fun e x ⟨u,e1,hu⟩=>⟨u,e1,aHp hu fun _ _ h=>h.1⟩,fun r hr x hx=>?_⟩;have⟨e,u,_,hu⟩:=aJo hT hr;have⟨_,_,ht⟩:=aJo hu hx;exact ht
section
variable {P:Program}{σ:Env}{S:St}{w:World}
theorem aNr{t:TypeId}{H:Type}{enc:TypeId×Value->H}{base:Nat}{spare:Nat->Bool}{held:Bool}{fuel:Nat}{v:Value}{x:DataW H×List MemPlace}(hR:kT P σ S w)(hn:wK S)(hf:wF S)(hG:P.globals.size<=S.nx)(hL:Lays P t aOd)(h:DataW.trod enc P w base spare held fuel t v.cells.toList=some x)(hv:v.cells.toList= [v])(hW:∀n∈DataW.weights P t x.1,n<=140737488355328):
  ∃σ' S' a,∃L:List (List dD),lP P σ S w σ' S'/\Rv P σ' a v/\aE 1 fK S' a L/\S.nx<=S'.nx/\oI L:=by
 have⟨σ',S',avs,l,hA,hr,h1,hE,hnx⟩:=hL H enc σ S w base spare held fuel _ x hR hn hf hG h hW;obtain⟨a,L,rfl,i1,i2⟩:=aO4 hE;rw[hv] at hr;have⟨_,_,h2,h3,h4⟩:=dB.1 hr;cases h2;exact⟨σ',S',a,L,hA,h3,i1,hnx,i2⟩
theorem aMK{tl tr tq b tu u:TypeId}{fq:Array Field}(hl:P.underlying tl=some (.slice tr))(hr:P.underlying tr=some (.slice tq))(hq:P.underlying tq=some (.struct fq))(hb:P.underlying b=some .bool)(hu:P.underlying tu=some (.slice u))(hu2:P.underlying u=some (.int .u32))
  (cr:P.cellsOf tr=1) (cq:P.cellsOf tq=3) (cb:P.cellsOf b=1) (cu:P.cellsOf tu=1) (cu2:P.cellsOf u=1) (br:8<=P.bytesOf tr) (bq:24<=P.bytesOf tq) (bu:4<=P.bytesOf u) (tsq:fq.toList.map (·.type)= [b,tu,tu]) (oq:∀ (i:Nat) (f:Field),fq[i]? =some f->f.offset=i):Lays P tl aOd:=by
 have Lu:Lays P tu EU4:=aH5 hu cu2 ay bu (aDb hu2) iJ;have Lq:Lays P tq aL3:=by
  refine tC hq tsq (fun i f h=>?_) (by simp [cq,cb,cu]) (fO (E:=aH4) (R:=EQ2) (aKo hb) aFi (fO (E:=EU4) (R:=EQ1) Lu aCM (fO (E:=EU4) (R:=NoE) Lu aCM yR)));rw[oq i f h];have hlt:i<3:=by
   have:=(Ce.1 h).1;have h6:=Fg List.length tsq;simp only[Aj,Cy,Ax,Bq] at h6;omega
  match i,hlt with
  | 0,_=>simp
  | 1,_=>simp [cb]
  | 2,_=>simp [cb,cu]
 have Lr:Lays P tr EQs:=oU hr cq ay ar Lq aGG;exact oU hl cr ay ar Lr aNH
end
variable {fns:T dY}
theorem tA{X:St}{v:AV}{s:List (List dD)}{i:Nat}{r:List dD}(h:aE 1 fK X v s)(hi:s[i]? =some r):∃b q rv,dO (.slice 1) v i=some (.ptr b q)/\b<X.nx/\dT (.ptr b q) false 1 X.h=some rv/\aE 3 uY X rv r:=by
 obtain⟨e,b,q,hia,hb,he,⟨rv,rfl,hr⟩,_,hf⟩:=aE.at h ay hi;exact⟨b,q,rv,hia,hb,hf 0 rv rfl,hr⟩
theorem aMA{X:St}{rv:AV}{r:List dD}{a:Nat}{x:dD}(h:aE 3 uY X rv r)(ha:r[a]? =some x):∃b q e,dO (.slice 3) rv a=some (.ptr b q)/\b<X.nx/\dT (.ptr b q) true 3 X.h=some (.agg e)/\uY X e x:=by
 have⟨e,b,q,hia,hb,he,hE,hag,_⟩:=aE.at h ay ha;exact⟨b,q,e,hia,hb,hag,hE⟩
theorem aH9{X:St}{e:bf}{x:dD}(h:uY X e x):cE (.agg e) (.agg e)=true:=by
 obtain⟨nv,dv,rfl,h1,h2⟩:=h;show jR [.bool x.neg,nv,dv] [.bool x.neg,nv,dv]=true;simp only[jR,qU h1,qU h2,yO,aR]
def OkJ(l:List oJ)(s:List (List dD))(j:Nat):Prop:=∀ (x:oJ) (r:List dD),l[j]? =some x->s[j]? =some r->x.bt=(r.length:Int)
theorem aKZ{S:St}{p a n:Int}{v:AV}(H:Has fns)(hv:jJ v=some (.int .i64 n)):fZ fns (.fn 146 [] []) [.agg [.int .i64 p,.int .i64 a],v] S fun r S'=>Same S S'/\r= .bool (decide (a=n)):=by
 refine cF H.f146 (by simp) ?_;refine am ?_;refine bO ?_;refine cI (by refine am ?_;exact aY _) ?_;intro S1 s1 n1 g1;refine am ?_;refine bO (dq @aC @aB (aFm g1) hv ?_);refine aP (ae ?_);exact s1
def aQV(S:St)(iv sv:AV)(l:List oJ)(s:List (List dD))(k:Nat)(A:bG)(X:St):Prop:=A.inr=false/\Same S X/\∃i,i+k=l.length/\(∀j,j<i->OkJ l s j)/\aD 1 A.F=sv/\aD 2 A.F= .fn 146 [] []/\aD 15 A.F=iv/\aD 16 A.F= .int .i64 (l.length:Int)/\aD 17 A.F= .int .i64 (i:Int)
theorem aLl{S:St}{iv sv:AV}{l:List oJ}{s:List (List dD)}(H:Has fns)(hi:aE 2 bP S iv l)(hs:aE 1 fK S sv s)(hl:l.length<=10000000):fZ fns (.fn 145 [] []) [iv,sv,.fn 146 [] []] S fun r S'=>Same S S'/\∃t,r= .bool t/\(t=true↔qH l s):=by
 refine cF H.f145 (by simp) ?_;refine ae ?_;refine bO (ae ?_);refine fC (dp hi.len hs.len @Ah ?_);by_cases hlm:l.length=s.length;rotate_left
 ·refine aN (by simp only[↓sU,sD,rE,↓reduceIte,rA,Ac (show(l.length:Int)≠(s.length:Int) by omega)]) ?_;refine bO (ae ?_);refine aP (ae ?_);exact⟨dk _,_,rfl,fun h=>(by cases h),fun h=>absurd h.1.symm hlm⟩
 refine aM (by simp only[↓sU,sD,rE,↓reduceIte,rA,Aa (show ¬ (l.length:Int)≠(s.length:Int) by omega)]) (aI ?_);try refine ae ?_
 refine aA (aX (Q:=fun o A' X=>(o= .normal/\aQV S iv sv l s 0 A' X)\/(o= .ret/\Same S X/\¬qH l s/\aD 6 A'.F= .bool false)) (aA (aJ ?_)) ?_)
 ·refine dn hi.len @Ah ?_;refine aK (bH (aQV S iv sv l s) ?_ l.length _ _ ⟨rfl,dk _,0,ar,fun j h=>absurd h (Bm j),af,af,af,af,ag⟩);rintro k ⟨F,inr⟩ X ⟨q0,hX,i,hik,he,p1,p2,p15,p16,p17⟩;simp only at q0 p1 p2 p15 p16 p17;subst q0;refine bO (dn p16 p17 ?_);by_cases hlt:i<l.length;rotate_left
  ·refine aA (aM (by simp only[↓sU,sD,rE,↓reduceIte,rA,Aa (show ¬ (i:Int)<(l.length:Int) by omega)]) (bJ ?_));refine ae ?_;obtain rfl:k=0:=by omega
   exact .inl ⟨rfl,hX,i,hik,he,by refine⟨?_,?_,?_,?_,?_⟩<;>simp only[↓sU,sD,rE,↓reduceIte,rA,p1,p2,p15,p16,p17]⟩
  refine aA (aN (by simp only[↓sU,sD,rE,↓reduceIte,rA,Ac (show(i:Int)<(l.length:Int) by omega)]) (aI ?_));try refine ae ?_
  have⟨e,br,qr,hia,lbr,_,hE,hag,_⟩:=aE.at (aE.same (E:=bP) bK hi hX) ay (Ab hlt);have hE:e= [.int .i64 l[i].player,.int .i64 l[i].bt]:=hE;subst hE;have hsl:i<s.length:=by omega
  have w1:=dh i
  refine aA (aK (aA (aJ ?_)));refine ef p15 p17 @aH hia hag ?_;refine cA ?_;intro V1 v1 k1 g1;try refine am ?_
  refine cQ (b:=X.nx) (ap) (by refine am ?_;exact aY _) g1 rfl rfl ?_;intro V v2 k2 g2;refine am ?_;have sV:Same X V:=v2.same v1 (Ag _);have⟨b,q,rv,ia,_,lrv,hr⟩:=tA (aE.same (E:=fK) dL hs (hX.trans sV)) (Ab hsl);refine bO (ed p1 @aH ia lrv ?_);refine bO (dy p2 (aDO g2) ?_);refine bD (am ?_);refine aW (aKZ H hr.len) ?_;rintro _ Z ⟨sZ,rfl⟩;have sXZ:=hX.trans (sV.trans sZ);by_cases hok:l[i].bt=((s[i].length:Nat):Int)
  ·refine dp @eM (Ac hok) @Cc ?_;refine aM (af) (aI ?_);try refine ae ?_
   refine aJ (dn p17 w1 ?_);refine⟨k - 1,ar,rfl,sXZ,i+1,ar,fun j hj=>?_,by refine⟨?_,?_,?_,?_,?_⟩<;>simp only[↓sU,sD,rE,↓reduceIte,rA,p1,p2,p15,p16]⟩;by_cases e:j=i
   ·subst e;intro x r h1 h2;rw[Ab hlt] at h1;rw[Ab hsl] at h2;cases h1;cases h2;exact hok
   ·exact he j ar
  ·refine dp @eM (Aa hok) @Ci ?_;refine aN (af) ?_;refine bO (ae ?_);refine aP (ae ?_);exact .inr ⟨sXZ,fun h=>hok (h.2 i _ _ (Ab hlt) (Ab hsl))⟩
 rintro o ⟨F,inr⟩ X (⟨rfl,q0,hX,i,hik,he,p1,p2,p15,p16,p17⟩ | ⟨rfl,hX,hne,p6⟩);rotate_left
 ·simp only at p6;refine dm p6 ?_;exact⟨hX,_,rfl,fun h=>(by cases h),fun h=>absurd h hne⟩
 simp only at q0;subst q0;try refine ae ?_
 refine bO (ae ?_);refine aP (ae ?_);exact⟨hX,_,rfl,fun _=>⟨hlm.symm,fun j x r h1 h2=>he j (by have:=(Ai.1 h1).1;omega) x r h1 h2⟩,fun _=>rfl⟩
theorem zW{S:St}{iv sv:AV}{l:List oJ}{s:List (List dD)}(H:Has fns)(hi:aE 2 bP S iv l)(hs:aE 1 fK S sv s)(hl:l.length<=10000000):fZ fns (.fn 106 [] []) [iv,sv] S fun r S'=>Same S S'/\∃t,r= .bool t/\(t=true↔qH l s):=by
 refine cF H.f106 (by simp) ?_;refine ae ?_;refine bO (ae ?_);refine bO (ae ?_);refine bD (ae ?_);refine aW (aLl H hi hs hl) ?_;rintro _ Z ⟨sZ,t,rfl,ht⟩;try refine ae ?_
 refine aP (ae ?_);exact⟨sZ,t,rfl,ht⟩
def aRf(S:St)(iv sv:AV)(l:List oJ)(s:List (List dD))(k:Nat)(A:bG)(X:St):Prop:=A.inr=false/\Same S X/\∃i,i+k=s.length/\(∀j,j<i->OkJ l s j)/\aD 0 A.F=iv/\aD 1 A.F=sv/\aD 5 A.F= .int .i64 (i:Int)
theorem tX{S:St}{iv sv:AV}{l:List oJ}{s:List (List dD)}(H:Has fns)(hi:aE 2 bP S iv l)(hs:aE 1 fK S sv s)(hl:l.length<=10000000):fZ fns (.fn 109 [] []) [iv,sv] S fun r S'=>Same S S'/\∃t,r= .bool t/\(t=true↔qH l s):=by
 refine cF H.f109 (by simp) ?_;refine ae ?_;refine bO (ae ?_);refine fC (dp hi.len hs.len @Ah ?_);by_cases hlm:s.length=l.length;rotate_left
 ·refine aN (by simp only[↓sU,sD,rE,↓reduceIte,rA,Ac (show(s.length:Int)≠(l.length:Int) by omega)]) ?_;refine bO (ae ?_);refine aP (ae ?_);exact⟨dk _,_,rfl,fun h=>(by cases h),fun h=>absurd h.1 hlm⟩
 refine aM (by simp only[↓sU,sD,rE,↓reduceIte,rA,Aa (show ¬ (s.length:Int)≠(l.length:Int) by omega)]) (aI ?_);try refine ae ?_
 refine aA (aX (Q:=fun o A' X=>(o= .normal/\aRf S iv sv l s 0 A' X)\/(o= .ret/\Same S X/\¬qH l s/\aD 4 A'.F= .bool false)) (aA (aJ ?_)) ?_)
 ·refine ae ?_;refine aK (bH (aRf S iv sv l s) ?_ s.length _ _ ⟨rfl,dk _,0,ar,fun j h=>absurd h (Bm j),af,af,ag⟩);rintro k ⟨F,inr⟩ X ⟨q0,hX,i,hik,he,p0,p1,p5⟩;simp only at q0 p0 p1 p5;subst q0;refine fC (dq p1 p5 hs.len @Ah ?_);by_cases hsl:i<s.length;rotate_left
  ·refine aM (by simp only[↓sU,sD,rE,↓reduceIte,rA,Aa (show ¬ (i:Int)<(s.length:Int) by omega)]) (bJ ?_);refine ae ?_;obtain rfl:k=0:=by omega
   exact .inl ⟨rfl,hX,i,hik,he,by refine⟨?_,?_,?_⟩<;>simp only[↓sU,sD,rE,↓reduceIte,rA,p0,p1,p5]⟩
  refine aN (by simp only[↓sU,sD,rE,↓reduceIte,rA,Ac (show(i:Int)<(s.length:Int) by omega)]) (aI ?_);try refine ae ?_
  have hlt:i<l.length:=by omega
  have⟨e,br,qr,hia,lbr,_,hE,_,hf⟩:=aE.at (aE.same (E:=bP) bK hi hX) ay (Ab hlt);have hE:e= [.int .i64 l[i].player,.int .i64 l[i].bt]:=hE;subst hE;have hld:=hf 1 _ rfl;have⟨b,q,rv,ia,_,lrv,hr⟩:=tA (aE.same (E:=fK) dL hs hX) (Ab hsl);have w1:=dh i
  refine aA (aK (aA (gD ?_)));simp only[↓sU,sD,rE,↓reduceIte,rA,p0,p1,p5,aH,ia,hia,lrv,aE.self hr,hr.len,aC,aQ,aB,hld,Ah];by_cases hok:l[i].bt=((s[i].length:Nat):Int)
  ·refine aM (by simp only[↓sU,sD,rE,↓reduceIte,rA,Aa (show ¬ ((s[i].length:Nat):Int)≠l[i].bt from fun h=>h hok.symm)]) (aI ?_);try refine ae ?_
   refine aJ (dn p5 w1 ?_);refine⟨k - 1,ar,rfl,hX.trans (Same.nx _ _),i+1,ar,fun j hj=>?_,by refine⟨?_,?_,?_⟩<;>simp only[↓sU,sD,rE,↓reduceIte,rA,p0,p1]⟩;by_cases e:j=i
   ·subst e;intro x r h1 h2;rw[Ab hlt] at h1;rw[Ab hsl] at h2;cases h1;cases h2;exact hok
   ·exact he j ar
  ·refine aN (by simp only[↓sU,sD,rE,↓reduceIte,rA,Ac (show((s[i].length:Nat):Int)≠l[i].bt from fun h=>hok h.symm)]) ?_;refine bO (ae ?_);refine aP (ae ?_);exact .inr ⟨hX.trans (Same.nx _ _),fun h=>hok (h.2 i _ _ (Ab hlt) (Ab hsl))⟩
 rintro o ⟨F,inr⟩ X (⟨rfl,q0,hX,i,hik,he,p0,p1,p5⟩ | ⟨rfl,hX,hne,p4⟩);rotate_left
 ·simp only at p4;refine dm p4 ?_;exact⟨hX,_,rfl,fun h=>(by cases h),fun h=>absurd h hne⟩
 simp only at q0;subst q0;try refine ae ?_
 refine bO (ae ?_);refine aP (ae ?_);exact⟨hX,_,rfl,fun _=>⟨hlm,fun j x r h1 h2=>he j (by have:=(Ai.1 h2).1;omega) x r h1 h2⟩,fun _=>rfl⟩
theorem pP{g:aS}{s:List (List dD)}(h:qH g.bj s){i:Nat}(hi:i<g.bj.length):∃r,s[i]? =some r/\r.length=cG g i:=by
 have hl:i<s.length:=by rw[h.1];exact hi
 refine⟨s[i],Ab hl,?_⟩;have:=h.2 i _ _ (Ab hi) (Ab hl);have e:cd g (i:Int)=g.bj[i]:=by
  unfold cd;rw[Az,Ad,Ab hi];rfl
 unfold cG;rw[e];omega
theorem vA{X X':St}{sv:AV}{s:List (List dD)}{i a:Nat}{r:List dD}(hs:aE 1 fK X sv s)(sX:Same X X')(ht:oI s)(hr:s[i]? =some r)(ha:a<r.length):∃b q rv b' q' e,dO (.slice 1) sv i=some (.ptr b q)/\b<X.nx/\dT (.ptr b q) false 1 X'.h=some rv/\cE rv rv=true/\dO (.slice 3) rv a=some (.ptr b' q')/\b'<X.nx/\dT (.ptr b' q') true 3 X'.h=some (.agg e)/\cE (.agg e) (.agg e)=true/\uY X' e (nO s i a)/\aCt (nO s i a):=by
 have hx:=aB7 hr ha;have⟨b,q,rv,h1,h2,h3,h4⟩:=tA hs hr;have⟨b',q',e,k1,k2,k3,k4⟩:=aMA h4 hx;rw[<-iA sX h2] at h3;rw[<-iA sX k2] at k3;exact⟨b,q,rv,b',q',e,h1,h2,h3,aE.self h4,k1,k2,k3,aH9 k4,kB k4 sX,ht r (Ar hr) _ (Ar hx)⟩
theorem xL{X X':St}{v:AV}{l:ba}{i n:Nat}(h:bI .i64 X v l)(sX:Same X X')(hi:i<l.length)(e:l.getD i 0=(n:Int)):∃b q,dO (.slice 1) v i=some (.ptr b q)/\b<X.nx/\dT (.ptr b q) false 1 X'.h=some (.int .i64 (n:Int)):=by
 have⟨b,q,h1,h2,h3⟩:=jB h hi;rw[e,<-iA sX h2] at h3;exact⟨b,q,h1,h2,h3⟩
section
variable {g:aS}{L:a9}{first:ba}{act:a9}
theorem aDE{X X':St}{v:AV}{i a:Nat}(h:aE 1 iD X v act)(sX:Same X X')(hA:qE g L first act)(hi:i<g.bj.length)(ha:a<cG g i):∃b q rv b' q',dO (.slice 1) v i=some (.ptr b q)/\b<X.nx/\dT (.ptr b q) false 1 X'.h=some rv/\cE rv rv=true/\dO (.slice 1) rv a=some (.ptr b' q')/\b'<X.nx/\dT (.ptr b' q') false 1 X'.h=some (.int .i64 ((qL act i a:Nat):Int)):=by
 have hil:i<act.length:=by rw[hA.len];exact hi
 obtain⟨e,b,q,h1,h2,_,⟨rv,rfl,hr⟩,_,hf⟩:=aE.at h ay (Ab hil);have eg:act.getD i []=act[i]:=by rw[Ad,Ab hil];rfl
 have hrow:=hA.row i hi;obtain⟨y,e1,_⟩:=hA.at_ i a hi ha;rw[eg] at hrow e1;obtain⟨b',q',k1,k2,k3⟩:=xL (n:=qL act i a) hr sX (by rw[hrow];exact ha) (by unfold qL;rw[eg,e1];rfl);exact⟨b,q,rv,b',q',h1,h2,(iA sX h2).trans (hf 0 rv rfl),bI.self hr,k1,k2,k3⟩
theorem aBp(hA:qE g L first act){i a:Nat}(hi:i<g.bj.length)(ha:a<cG g i):qL act i a<cG g (jT first i):=by
 have⟨y,e1,e2,_⟩:=hA.at_ i a hi ha;unfold qL jT;rw[e1,Az];exact e2
theorem aAl(hO:aHn g L first){i:Nat}(hi:i<g.bj.length):first.getD i 0=((jT first i:Nat):Int)/\jT first i<g.bj.length/\jT first (jT first i)=jT first i:=by
 have⟨r,h1,h2⟩:=zK hO i hi;have:=(aBh hO hi).2;unfold jT;exact⟨ar,ar,ar⟩
def aRv(V0:St)(g:aS)(first:ba)(act:a9)(l:List (List dD))(s a:Nat)(Y:St):Prop:=V0.nx<Y.nx/\(∀c,c<V0.nx->Y.h.get c=V0.h.get c)/\∀i b,i<g.bj.length->qS g s a (i,b)->nO l i b=nO l (jT first i) (qL act i b)
def aQE(V0:St)(g:aS)(first:ba)(act:a9)(l:List (List dD))(rb:Nat)(Y:St):Prop:=V0.nx<=Y.nx/\(∀c,c<V0.nx->c≠rb->Y.h.get c=V0.h.get c)/\Y.h.get rb=some (.cells [.bool false] false 0)/\¬aED g first act l
theorem aFY(G:dE g){s:Nat}(hs:s<g.bj.length):0<=(cd g (s:Int)).bt/\(cd g (s:Int)).bt<=10000:=by
 have⟨f1,_,_⟩:=G.fst s hs;rw[pT G hs];have:=G.nxt _ f1;omega
theorem aFp{S:St}{nv iv fv av sv:AV}{l:List (List dD)}(H:Has fns)(G:dE g)(hL:∀m∈L,eX g m)(hO:aHn g L first)(hA:qE g L first act)(hi:aE 2 bP S iv g.bj)(hf:bI .i64 S fv first)(ha:aE 1 iD S av act)(hs:aE 1 fK S sv l)(ht:oI l)(hfit:qH g.bj l):
  fZ fns (.fn 111 [] []) [.agg [fv,av],.agg [.int .i64 g.bo,nv,iv],sv] S fun r S'=>Same S S'/\∃t,r= .bool t/\(t=true↔aED g first act l):=by
 have hNI:=G.ni;refine cF H.f111 (by simp) ?_;refine am ?_;refine bO ?_;refine cI (by refine am ?_;exact aY _) ?_;intro S1 s1 n1 g1;refine am ?_;refine cI (by refine am ?_;exact aY _) ?_;intro S2 s2 n2 g2;try refine am ?_
 refine cI (cs:=[sv]) (by refine am ?_;exact lI hs) ?_;intro S3 s3 n3 g3;try refine am ?_
 refine cA ?_;intro S4 s4 n4 g4;try refine am ?_
 have s04:=s1.trans (s2.trans (s3.trans s4));have c1:S4.h.get S.nx=_:=(s4.2 _ ar).trans ((s3.2 _ ar).trans ((s2.2 _ ar).trans g1));have c2:S4.h.get S1.nx=_:=(s4.2 _ ar).trans ((s3.2 _ ar).trans g2);have c3:S4.h.get S2.nx=_:=(s4.2 _ ar).trans g3;refine aA (aX (Q:=fun o A' Y=>aD 6 A'.F= .ptr S3.nx 0/\A'.inr=false/\∃V0,Same S4 V0/\((o= .normal/\aRv V0 g first act l g.bj.length 0 Y)\/(o= .ret/\aQE V0 g first act l S3.nx Y))) (aA (aJ ?_)) ?_)
 ·refine dp @aC @aB (fH c2) ?_;refine bD (ae ?_);refine aW (lT H (lI hi)) ?_;rintro _ V0 ⟨v0,bc,rfl,bc1,bc2,gbc⟩;try refine ae ?_
  have s0V:=s04.trans v0;have lV:=v0.1;have d1:=(v0.2 _ ar).trans c1;have d3:=(v0.2 _ ar).trans c3;have d4:=(v0.2 _ ar).trans g4;refine aK (tJ (S:=S) (g:=g) (iv:=iv) (R:=aQE V0 g first act l S3.nx) (J:=aRv V0 g first act l) H rfl (af) hi ar (fun s hs=>aFY G hs) gbc bc2 (fun s a Y h=>⟨⟨by have:=s0V.1;have:=h.1;omega,fun c hc=>(h.2.1 c (au s0V.1)).trans (s0V.2 c hc)⟩,h.1⟩) (fun s a Y Y' h hn hk=>⟨au h.1,fun c hc=>(hk c (au h.1) ar).trans (h.2.1 c hc),h.2.2⟩) (fun Y Y' h hn hk=>?_) (fun Y hn hk=>⟨hn,hk,fun i b _ hb=>?_⟩) (fun s Y hs h=>⟨h.1,h.2.1,fun i b hi hb=>h.2.2 i b hi (wR hb)⟩) (fun s a Y hs ha h=>?_) (fun Y h=>?_) (fun Y h=>?_))
  ·have⟨h1,h2,h3,h4⟩:=h;exact⟨ar,fun c hc hne=>(hk c ar ar).trans (h2 c hc hne),(hk _ ar ar).trans h3,h4⟩
  ·unfold qS at hb;simp only at hb;omega
  ·-- a choice
   refine bO (ae ?_);refine aJ (ae ?_);intro bl;have⟨h1,h2,h3⟩:=h;generalize hY':(⟨Y.h.set V0.nx bl,Y.nx⟩:St)=Y';have nY:Y'.nx=Y.nx:=by rw[<-hY']
   have kY:∀c,c<V0.nx->Y'.h.get c=V0.h.get c:=fun c hc=>by rw[<-hY'];simp only;rw[di,if_neg ar];exact h2 c hc
   have hbl':Y'.h.get V0.nx=bl:=by rw[<-hY'];simp only;rw[di,if_pos rfl]
   clear hY';have sY:Same S Y':=⟨au s0V.1,fun c hc=>(kY c (au s0V.1)).trans (s0V.2 c hc)⟩;have y1:=(kY _ ar).trans d1;have y3:=(kY _ ar).trans d3;have y4:=(kY _ ar).trans d4;obtain⟨f1,f2,_⟩:=aAl hO hs;obtain⟨r,hr,hrl⟩:=pP hfit hs;obtain⟨r',hr',hrl'⟩:=pP hfit f2;have hac:=aBp hA hs ha;obtain⟨b1,q1,rv,b2,q2,e,i1,l1,ld1,sm1,i2,l2,ld2,sm2,hE,hT⟩:=vA (aE.same (E:=fK) dL ‹aE 1 fK S sv l› sY) (dk _) ht hr (by rw[hrl];exact ha);obtain⟨b3,q3,rv',b4,q4,e',i3,l3,ld3,sm3,i4,l4,ld4,sm4,hE',_⟩:=vA (aE.same (E:=fK) dL ‹aE 1 fK S sv l› sY) (dk _) ht hr' (a:=qL act s a) (by rw[hrl'];exact hac);obtain⟨b5,q5,i5,l5,ld5⟩:=xL (hf.same sY) (dk _) (i:=s) (by rw[lD.len hO];exact hs) f1;obtain⟨b6,q6,rw6,b7,q7,i6,l6,ld6,sm6,i7,l7,ld7⟩:=aDE (aE.same (E:=iD) cm ‹aE 1 iD S av act› sY) (dk _) hA hs ha;have ldy:=dI (p:=0) y3 rfl;have ky1:S.nx<Y'.nx:=by omega
   have ky3:S2.nx<Y'.nx:=by omega
   refine aK (aA (gS (fun _=>False) ?_));intro Z1 z1;simp only[↓sU,sD,rE,↓reduceIte,rA,aC,aQ,aB,ldy,aMa y1,aFm y1,ky1,ky3,Ak,aH,aE.self ‹aE 1 fK S sv l›,bI.self hf,aE.self ‹aE 1 iD S av act›,i1,l1,ld1,sm1,i2,l2,ld2,sm2,i3,l3,ld3,sm3,i4,l4,ld4,sm4,i5,l5,ld5,i6,l6,ld6,sm6,i7,l7,ld7];refine cU rfl ?_;refine ae ?_;refine aW (aGL H (kB hE z1) (kB hE' z1) hT) ?_;rintro _ Z ⟨sZ,t,rfl,htt⟩;refine⟨sZ,?_⟩;refine dm @eM ?_;have sYZ:=z1.trans sZ;have nYZ:=sYZ.1;cases t
   ·refine aN (by simp only[↓sU,sD,rE,↓reduceIte,rA,Ci]) ?_;have z4:=(sYZ.2 _ ar).trans y4;refine bO (dx @bF ?_);refine cQ (b:=S3.nx) (cs':=[.bool false]) (ap) (by simp only[↓aF,aG,rE,↓reduceIte,rA];rfl) z4 rfl rfl ?_;intro W w1 w2 w3;try refine am ?_
    refine aP ?_;simp only at w1 w2 w3;have nW:=w1.1;simp only at nW;refine⟨(w1.2 _ (by simp only;omega) ar).trans ((sYZ.2 _ ar).trans hbl'),ar,.inr ⟨rfl,ar,fun c hc hne=>(w1.2 _ (by simp only;omega) hne).trans ((sYZ.2 _ ar).trans (kY c hc)),w3,fun hS=>?_⟩⟩;have:=htt.2 (hS s a hs ha);cases this
   ·refine aM (by simp only[↓sU,sD,rE,↓reduceIte,rA,Cc]) (aI ?_);refine dm @bF ?_;refine⟨(sYZ.2 _ ar).trans hbl',ar,.inl ⟨by simp only;omega,fun c hc=>(sYZ.2 _ ar).trans (kY c hc),fun i b hi hb=>?_⟩⟩;rcases qX hb with hb | hb
    ·exact h3 i b hi hb
    ·cases hb;exact htt.1 rfl
  ·refine ae ?_;exact⟨V0,v0,.inl h⟩
  ·refine ae ?_;exact⟨V0,v0,.inr h⟩
 rintro o ⟨F,inr⟩ Y ⟨p6,q0,V0,v0,⟨rfl,h1,h2,h3⟩ | ⟨rfl,h1,h2,h3,h4⟩⟩;rotate_left
 ·simp only at p6;have lV:=v0.1;have ldx:=dI (p:=0) h3 rfl;refine dz @dJ p6 ldx ?_;exact⟨⟨au s04.1,fun c hc=>(h2 c (au s04.1) ar).trans ((s04.trans v0).2 c hc)⟩,_,rfl,fun h=>(by cases h),fun h=>absurd h h4⟩
 simp only at p6 q0;subst q0;have lV:=v0.1;try refine am ?_
 refine bO (am ?_);refine cQ (b:=S3.nx) (cs':=[.bool true]) (aq p6) (by simp only[↓aF,aG,rE,↓reduceIte,rA];rfl) ((h2 _ ar).trans ((v0.2 _ ar).trans g4)) rfl rfl ?_;intro W w1 w2 w3;try refine am ?_
 refine aP ?_;have ldx:=dI (p:=0) w3 rfl;refine dz @dJ p6 ldx ?_;have nW:=w1.1;refine⟨⟨au s04.1,fun c hc=>(w1.2 c (au s04.1) ar).trans ((h2 c (au s04.1)).trans ((s04.trans v0).2 c hc))⟩,_,rfl,fun _ i a hi ha=>?_,fun _=>rfl⟩;refine h3 i a hi ?_;unfold qS;simp only;omega
end
theorem aS6{S:St}{t:Nat}{k p f:AV}{o:Bool}{sz:Nat}(h:S.h.get t=some (.cells [k,p,f] o sz)):eY (.sl t 0 1 1 false) S.h 3 1=some [k,p,f]:=by
 show bC (cK S.h t) (fun cs=>cut cs 0 (1 * 3))=_;unfold cK;rw[h];rfl
theorem aFw{W P:Nat->Prop}{h0:Ev.T AB}{base k d1 d2 c rT m1 m2 ty:Nat}{F:Fr}{U S0:St}{last:Option Nat}{Q:Fr->St->List iQ->Prop}{ops:List AO}{rv:AV}{l:List dD}{e:bf}{x:dD}(hk:jQ last m2=true)(ht:Nat.testBit m2 k=true)(pc:aD c F= .agg e)(pr:aD rT F=rv)(hne:rT≠d1)(hA:sJ 3 (oD U P) S0 U rv l)(hE:oD U P e x)(hP:∀c,P c->c≠base+k/\aZ rv≠some c)(hW:∀c,aZ rv=some c->W c)(hb:base+k<U.nx)(hr0:∀c,aZ rv=some c->c<base)(hS:S0.nx<=base)(hl:l.length<=100000)
  (hr:∀rv' V,sJ 3 (oD V fun c=>P c/\aZ rv'≠some c) S0 V rv' (l++ [x])->U.nx<=V.nx->(∀c,c<U.nx->c≠base+k->aZ rv≠some c->V.h.get c=U.h.get c)->(∀c,aZ rv'=some c->aZ rv=some c\/U.nx<=c)->fF fns W h0 base ops (k+2) (cM (some d2) (cM (some d1) F (.sl (base+k) 0 1 1 false)) rv') V [] (some (k+1)) Q):
  fF fns W h0 base (⟨some d1,.a (.cj ty 3 1 [.bool false,.bw,.bw] [(0,.t c)]),none,m1⟩::⟨some d2,.x (.app ty 3 56 (.t rT) (.t d1)),none,m2⟩::ops) k F U [] last Q:=by
 obtain⟨nv,dv,rfl,i1,i2,i3⟩:=id hE;rw[aIo,aPN (x:=.t c) (a:=.bool x.neg) (b:=nv) (c:=dv) pc,mM];obtain⟨U1,hU1⟩:∃U1:St,U1=⟨U.h.set (base+k) (some (.cells [.bool x.neg,nv,dv] false 0)),U.nx⟩:=⟨_,rfl⟩;have g1:U1.h.get (base+k)=some (.cells [.bool x.neg,nv,dv] false 0):=by rw[hU1];simp only;rw[di,if_pos rfl]
 have n1:U1.nx=U.nx:=by rw[hU1]
 have k1:∀c,c≠base+k->U1.h.get c=U.h.get c:=fun c hc=>by rw[hU1];simp only;rw[di,if_neg hc]
 have mv:∀e a,oD U P e a->oD U1 P e a:=fun _ _ h=>h.move ar fun c _ hc=>⟨k1 c (hP c hc).1,hc⟩;have hA1:sJ 3 (oD U1 P) S0 U1 rv l:=hA.move ar (fun c hc=>k1 c (by have:=hr0 c hc;omega)) mv;have⟨rv',V,eA,aV,nV,rV,bV⟩:=sJ.push (bytes:=56) (x:=.sl (base+k) 0 1 1 false) hA1 ay ar rfl (aS6 g1) rfl (mv _ _ hE) ax ax;refine lQ (r:=rv') (S1:=V) hk ?_ ?_ ?_
 ·rw[cP ht];simp only[<-hU1,fE,bS,if_neg hne,Eo,pr];exact eA
 ·rw[cP ht,<-hU1];exact⟨nV,fun c hc hcw=>rV c ar fun h=>hcw (hW c h)⟩
 rw[cP ht];refine hr rv' V (aV.move (Ag _) (fun _ _=>rfl) fun e a h=>h.move nV fun c hc hp=>⟨rV c hc (hP c hp).2,hp,fun hc'=>?_⟩) ar (fun c hc h1 h2=>(rV c ar h2).trans (k1 c h1)) fun c hc=>?_
 ·rcases bV c hc' with h | h
  ·exact(hP c hp).2 h
  ·omega
 ·rcases bV c hc with h | h
  ·exact .inl h
  ·exact .inr ar
def MxR(lp ob:Nat)(S0 Z:St)(cs:bf)(rv:AV)(i:Nat)(l:List dD)(p v:Nat)(F:Fr)(V:St)(ps:List iQ):Prop:=ps= []/\aD p F= .ptr ob i/\Z.nx<=V.nx/\(∀c,c<Z.nx->aZ rv≠some c->V.h.get c=Z.h.get c)/\sJ 3 (oD V fun c=>¬MxW lp ob cs c/\aZ (aD v F)≠some c) S0 V (aD v F) l/\∀c,aZ (aD v F)=some c->aZ rv=some c\/Z.nx<=c
theorem aMd{lp ob n K p v m i:Nat}{S0 Z:St}{F:Fr}{inr:Bool}{cs:bf}{rv:AV}{R:Nat->List dD}{l:List dD}{ops:List AO}{Q:Out->bG->St->Prop}(hM:Mx lp S0 Z ob n cs R)(hi:cs[i]? =some rv)(he:ops=ops.dropLast++ [⟨none,.x (.st 1 (.t p) (.t v)),none,m⟩])(hK:ops.dropLast.length=K)(hm:(ops.dropLast.all fun o=>decide (o.mask<2 ^ K))=true)(hmm:∀i,i<K->Nat.testBit m i=true)
  (h:∀X1,Same Z X1->X1.h=Z.h->X1.nx=Z.nx+ops.length->fF fns (fun c=>aZ rv=some c) Z.h Z.nx ops.dropLast 0 F X1 [] none (MxR lp ob S0 Z cs rv i l p v))
  (hQ:∀F' V cs',Z.nx<=V.nx->(∀c,c<Z.nx->c≠ob->aZ rv≠some c->V.h.get c=Z.h.get c)->Mx lp S0 V ob n cs' (fun j=>if j=i then l else R j)->Q .normal ⟨F',inr⟩ V):iM fns (.drw ops) ⟨F,inr⟩ Z Q:=by
 have hlt:=(Ai.1 hi).1;refine nI (W:=fun c=>aZ rv=some c) he hK hm h ?_;rintro F' V ps hs' ls ⟨rfl,pp,nV,kV,aV,bV⟩ hlast hld;have hoV:V.h.get ob=some (.cells cs false 0):=(kV _ hM.lt (hM.no rv (Ar hi))).trans hM.ho;refine jZ (v:=.undef) (S1:=⟨V.h.set ob (some (.cells (cs.set i (aD v F')) false 0)),V.nx⟩) (hlast _ hmm) (fun call=>?_) ?_
 ·rw[dS];simp only[fE,pp,bF,aV.cells,aL];exact stc (cs:=cs) (p:=i) (S:=V) hoV hlt
 rw[gG];have hw:∀c,c<V.nx->¬MxW lp ob cs c->(V.h.set ob (some (.cells (cs.set i (aD v F')) false 0))).get c=V.h.get c:=fun c _ hc=>by rw[di,if_neg fun e=>hc (.inr (.inl e))]
 refine⟨?_,?_⟩
 ·simp only[Bz];exact hld _ _ _ hmm
 ·simp only[bF,eF];refine hQ _ _ _ nV (fun c hc hco hcr=>?_) (hM.push hi nV fk ?_ bV fun c hc hco hcr=>?_)
  ·simp only;rw[di,if_neg hco];exact kV c hc hcr
  ·refine aV.move (Ag _) (fun c hc=>?_) fun e a hE=>hE.move (Ag _) fun c hc hp=>⟨hw c hc hp.1,hp⟩;simp only;rw[di,if_neg fun e=>?_];rcases bV c hc with h | h
   ·exact hM.no rv (Ar hi) (by rw[h,e])
   ·have:=hM.lt;omega
  ·simp only;rw[di,if_neg hco];exact kV c hc hcr
theorem aJt{lp ob n k d1 d2 d3 c rT oT iT m1 m2 m3 ty i N:Nat}{S0 Z U:St}{F:Fr}{last:Option Nat}{cs:bf}{rv:AV}{R:Nat->List dD}{e:bf}{x:dD}(hM:Mx lp S0 Z ob n cs R)(hi:cs[i]? =some rv)(uS:Same Z U)(hE:oD U (fun c=>N<=c) e x)(hN:Z.nx+k<N)(hNU:N<=U.nx)(pc:aD c F= .agg e)(pr:aD rT F=rv)(po:aD oT F= .sl ob 0 n n false)(pi:aD iT F= .int .i64 (i:Int))(hd:rT≠d1/\oT≠d1/\oT≠d2/\iT≠d1/\iT≠d2/\d2≠d3)(hk:jQ last m2=true)(ht:Nat.testBit m2 k=true)(hl:(R i).length<=100000):
  fF fns (fun c=>aZ rv=some c) Z.h Z.nx [⟨some d1,.a (.cj ty 3 1 [.bool false,.bw,.bw] [(0,.t c)]),none,m1⟩,⟨some d2,.x (.app ty 3 56 (.t rT) (.t d1)),none,m2⟩,⟨some d3,.q (.cp (.slice 1) (.t oT) (.t iT)),none,m3⟩] k F U [] last (MxR lp ob S0 Z cs rv i (R i++ [x]) d3 d2):=by
 have⟨e1,e2,e3,e4,e5,e6⟩:=hd;have hm:=Ar hi;have hlt:i<n:=by rw[<-hM.hl];exact(Ai.1 hi).1
 have hle:=hM.le;refine aFw (S0:=S0) (P:=fun c=>¬MxW lp ob cs c/\c≠Z.nx+k) (l:=R i) (x:=x) hk ht pc pr e1 ((hM.gr i rv hi).move uS.1 (fun c hc=>uS.2 c (hM.blk hm hc).2) fun _ _ h=>h.move uS.1 fun c hc hp=>⟨uS.2 c hc,hp,ar⟩) (hE.move (Ag _) fun c _ hp=>⟨rfl,hM.high ar,ar⟩) (fun c hp=>⟨hp.2,fun h=>hp.1 (.inr (.inr ⟨rv,hm,h⟩))⟩) (fun c h=>h) ar (fun c hc=>(hM.blk hm hc).2) hle hl fun rv' V aV nV kV bV=>?_;have hia:=dR (b:=ob) (o:=false) hlt;have q1:aD oT (cM (some d2) (cM (some d1) F (.sl (Z.nx+k) 0 1 1 false)) rv')= .sl ob 0 n n false:=by rw[bS,if_neg e3,bS,if_neg e2,po]
 have q2:aD iT (cM (some d2) (cM (some d1) F (.sl (Z.nx+k) 0 1 1 false)) rv')= .int .i64 (i:Int):=by rw[bS,if_neg e5,bS,if_neg e4,pi]
 refine dq q1 q2 @aH hia ?_;refine⟨rfl,by rw[bS,if_pos rfl],au uS.1,fun c hc hr=>(kV c (au uS.1) ar hr).trans (uS.2 c hc),?_,?_⟩
 ·rw[bS,if_neg e6,bS,if_pos rfl];exact aV.move (Ag _) (fun _ _=>rfl) fun _ _ h=>h.move (Ag _) fun c _ hp=>⟨rfl,hp.1.1,hp.2⟩
 ·rw[bS,if_neg e6,bS,if_pos rfl];intro c hc;rcases bV c hc with h | h
  ·exact .inl h
  ·exact .inr (au uS.1)
theorem aKz{key:Nat->Nat}{M:Nat->List dD}{j:Nat}:RowK key M 0 0 j= []:=by
 unfold RowK;rw[if_neg (Bm _)];split
 ·rfl
 ·rfl
theorem aLZ{S X:St}{f:cO}{p q b ob n:Nat}{ac bd:AC}{A:bG}{g:aS}{iv:AV}{key:Nat->Nat}{M:Nat->List dD}{Q:Out->bG->St->Prop}(H:Has fns)(G:dE g)(hi:A.inr=false)(hf:f.val A.F= .fn 147 [] [.ptr b 0])(hv:aE 2 bP S iv g.bj)(hS:Same S X)(hob:S.nx<=ob)(hb:X.h.get b=some (.cells [iv] false 0))(hbl:b<X.nx)(hgo:X.h.get ob=some (.cells (List.replicate n .bw) false 0))(hlo:ob<X.nx)(hT:∀j s,j<n->key j=s->s<g.bj.length->(M j).length<=cG g s)
  (hbody:∀s a Y cs,s<g.bj.length->a<cG g s->Mx X.nx ⟨X.h,X.nx+1⟩ Y ob n cs (RowK key M s a)->(∀c,c<X.nx->c≠ob->Y.h.get c=X.h.get c)->iM fns ac ⟨cM (some q) (cM (some p) A.F (.int .i64 (s:Int))) (.int .i64 (a:Int)),true⟩ Y fun o A1 Y1=>o= .normal/\Y1=Y/\∀Y',Mx X.nx ⟨X.h,X.nx+1⟩ Y' ob n cs (RowK key M s a)->(∀c,c<X.nx->c≠ob->Y'.h.get c=X.h.get c)->iM fns bd A1 Y' fun o _ V=>o= .normal/\Y'.nx<=V.nx/\(∀c,c<=X.nx->c≠ob->V.h.get c=Y'.h.get c)/\∃cs',Mx X.nx ⟨X.h,X.nx+1⟩ V ob n cs' (RowK key M s (a+1)))
  (hend:∀Y cs,Same S Y->Mx X.nx ⟨X.h,X.nx+1⟩ Y ob n cs (RowK key M g.bj.length 0)->(∀c,c<X.nx->c≠ob->Y.h.get c=X.h.get c)->Q .normal A Y):iM fns (.rng f [p,q] ac bd) A X Q:=by
 have hNI:=G.ni;have hSX:=hS.1;refine tJ (S:=S) (R:=fun _=>False) (J:=fun s a Y=>X.nx<Y.nx/\(∀c,c<X.nx->c≠ob->Y.h.get c=X.h.get c)/\∃cs,Mx X.nx ⟨X.h,X.nx+1⟩ Y ob n cs (RowK key M s a)) H hi hf hv ar (fun s hs=>aFY G hs) hb hbl (fun s a Y h=>⟨⟨ar,fun c hc=>(h.2.1 c ar ar).trans (hS.2 c hc)⟩,h.1⟩) (fun s a Y Y' h hn hk=>?_) (fun _ _ h=>h.elim) (fun Y hn hk=>?_) (fun s Y hs h=>?_) (fun s a Y hs ha h=>?_) (fun Y h=>?_) (fun _ h=>h.elim)
 ·have⟨h1,h2,cs,h3⟩:=h;exact⟨ar,fun c hc hne=>(hk c ar ar).trans (h2 c hc hne),cs,h3.move hn hk⟩
 ·refine⟨hn,fun c hc _=>hk c hc,_,(hk ob hlo).trans hgo,ar,Au,by simp only;omega,hn,ar,fun j a hj=>?_,fun a ha=>?_,fun j k a c _ hj _ d hd=>?_⟩
  ·rw[Ch] at hj;split at hj
   ·cases hj;rw[aKz];exact .none
   ·cases hj
  ·rw[(List.mem_replicate.1 ha).2];intro h;cases h
  ·rw[Ch] at hj;split at hj
   ·cases hj;cases hd
   ·cases hj
 ·have⟨h1,h2,cs,h3⟩:=h;exact⟨h1,h2,cs,h3.ext fun j hj=>aKd fun e=>hT j s hj e hs⟩
 ·have⟨h1,h2,cs,h3⟩:=h;refine aX (hbody s a Y cs hs ha h3 h2) ?_;rintro o A1 Y1 ⟨rfl,rfl,hb1⟩;refine⟨rfl,rfl,fun bl=>?_⟩;have k1:∀c,c≠X.nx->(Y1.h.set X.nx bl).get c=Y1.h.get c:=fun c hc=>by rw[di,if_neg hc]
  refine aX (hb1 ⟨Y1.h.set X.nx bl,Y1.nx⟩ (h3.move (Ag _) fun c _ hc=>k1 c hc) fun c hc hne=>(k1 c ar).trans (h2 c hc hne)) ?_;rintro o A2 V ⟨rfl,nV,kV,cs',hV⟩;simp only at nV kV;refine⟨(kV _ (Ag _) ar).trans (by rw[di,if_pos rfl]),nV,.inl ⟨rfl,ar,fun c hc hne=>(kV c ar hne).trans ((k1 c ar).trans (h2 c hc hne)),cs',hV⟩⟩
 ·have⟨h1,h2,cs,h3⟩:=h;exact hend Y cs ⟨ar,fun c hc=>(h2 c ar ar).trans (hS.2 c hc)⟩ h3 h2
end Go.Ev.Gl
