import Derived.Test.YtkklchgmpejobaaGreatDoorGl14
open Nat renaming reduceEqDiff → rE, reduceAdd → rA
set_option maxHeartbeats 16000000
set_option linter.unusedSimpArgs false
set_option linter.unusedVariables false
namespace Go.Ev.Gl
variable {fns:T cV}
inductive oK:List (Option Nat)→Nat→Prop
 | nil:oK [] 0
 | none {l:List (Option Nat)} {n:Nat}:oK l n→oK (l++ [Option.none]) n
 | old {l:List (Option Nat)} {n i:Nat}:oK l n→i<n→oK (l++ [some i]) n
 | new {l:List (Option Nat)} {n:Nat}:oK l n→oK (l++ [some n]) (n+1)
def wW:List (Option Nat)→Nat→Nat→Nat
 | [],_,_=>0
 | b::l,s,i=>if b=some i then s+1 else wW l (s+1) i
theorem aJv:∀ {l:List (Option Nat)} {s i:Nat},wW l s i≤s+l.length
 | [],s,i=>Bt _
 | b::l,s,i=>by
  unfold wW;split
  ·simp
  ·have:=aJv (l:=l) (s:=s+1) (i:=i);rw[Am];omega
theorem fN:∀ {l:List (Option Nat)} {s i:Nat} {b:Option Nat},wW (l++ [b]) s i=if wW l s i≠0 then wW l s i else if b=some i then s+l.length+1 else 0
 | [],s,i,b=>by simp [wW]
 | c::l,s,i,b=>by
  show wW (c::(l++ [b])) s i=_;unfold wW;by_cases h:c=some i
  ·rw[if_pos h,if_pos h,if_pos (by omega)]
  ·rw[if_neg h,if_neg h,fN (l:=l) (s:=s+1),Am];split
   ·rfl
   ·split
    ·omega
    ·rfl
theorem aL5{l:List (Option Nat)}{n:Nat}(h:oK l n):∀i,n≤i→wW l 0 i=0:=by
 induction h with
 | nil=>intro i _;rfl
 | none _ ih=>intro i hi;rw[fN,ih i hi];simp
 | old _ hlt ih=>intro i hi;rw[fN,ih i hi];simp;omega
 | new _ ih=>intro i hi;rw[fN,ih i (by omega)];simp;omega
theorem aKb{l:List (Option Nat)}{n:Nat}(h:oK l n):(∀i,i<n→wW l 0 i≠0)∧∀i,i+1<n→wW l 0 i<wW l 0 (i+1):=by
 induction h with
 | nil=>exact⟨fun i hi=>absurd hi (Dy i),fun i hi=>absurd hi (by omega)⟩
 | none _ ih=>exact⟨fun i hi=>by rw[fN,if_pos (ih.1 i hi)];exact ih.1 i hi,fun i hi=>by rw[fN,fN,if_pos (ih.1 i (by omega)),if_pos (ih.1 (i+1) hi)];exact ih.2 i hi⟩
 | old _ _ ih=>exact⟨fun i hi=>by rw[fN,if_pos (ih.1 i hi)];exact ih.1 i hi,fun i hi=>by rw[fN,fN,if_pos (ih.1 i (by omega)),if_pos (ih.1 (i+1) hi)];exact ih.2 i hi⟩
 | @new l n ho ih=>
  refine⟨fun i hi=>?_,fun i hi=>?_⟩
  ·by_cases e:i<n
   ·rw[fN,if_pos (ih.1 i e)];exact ih.1 i e
   ·obtain rfl:i=n:=by omega
    rw[fN,aL5 ho i (Ag _),if_neg (fun h=>h rfl),if_pos rfl];omega
  ·by_cases e:i+1<n
   ·rw[fN,fN,if_pos (ih.1 i (by omega)),if_pos (ih.1 (i+1) e)];exact ih.2 i e
   ·obtain rfl:n=i+1:=by omega
    rw[fN,fN,if_pos (ih.1 i (by omega)),aL5 ho (i+1) (Ag _),if_neg (fun h=>h rfl),if_pos rfl];have:=aJv (l:=l) (s:=0) (i:=i);omega
def lbl(x:bU):Option Nat:=if x.kind=2 then some x.info.toNat else Option.none
theorem aCT:∀ {l:List bU} {s i:Nat},(∀x∈l,x.kind=2→0≤x.info)→wW (l.map lbl) s i=mO l s i
 | [],_,_,_=>rfl
 | x::l,s,i,h=>by
  have ih:=aCT (l:=l) (s:=s+1) (i:=i) fun y hy=>h y (Bq _ hy);show(if lbl x=some i then s+1 else wW (l.map lbl) (s+1) i)=if x.kind=2∧x.info=(i:Int) then s+1 else mO l (s+1) i;rw[ih];have h0:=h x (Cd ..);by_cases hk:x.kind=2
  ·have h0:=h0 hk;have e:(lbl x=some i)↔(x.kind=2∧x.info=(i:Int)):=by
    unfold lbl;rw[if_pos hk,Al];constructor
    ·intro e;exact⟨hk,by omega⟩
    ·rintro⟨_,e⟩;omega
   by_cases h1:lbl x=some i
   ·rw[if_pos h1,if_pos (e.1 h1)]
   ·rw[if_neg h1,if_neg (fun h=>h1 (e.2 h))]
  ·have h1:lbl x≠some i:=by unfold lbl;rw[if_neg hk];intro h;cases h
   rw[if_neg h1,if_neg (fun h=>hk h.1)]
def zA(k at_:Nat)(B:List bU):Prop:=0<B.length∧∀ (N:Nat) (nx:Nat→List Int),at_+B.length≤N→(∀i x,B[i]? =some x→nx (at_+i)=x.next)→∀f p d,B.length≤f→∃L,iQ N nx f at_ p d=some L∧L.length=B.length∧∀t∈L,t.2.1≤d+(k:Int)
def aE9(k at_:Nat)(cs:List Int)(C:List bU):Prop:=∀ (N:Nat) (nx:Nat→List Int),at_+C.length≤N→(∀i x,C[i]? =some x→nx (at_+i)=x.next)→∀f p d,C.length≤f→∃L,iE (fun r=>iQ N nx f r p d) cs at_=some L∧L.length=C.length∧∀t∈L,t.2.1≤d+(k:Int)
theorem aE9.nil{k at_:Nat}:aE9 k at_ [] []:=fun N nx _ _ f p d _=>⟨[],rfl,rfl,fun t ht=>by cases ht⟩
theorem aDi{rec:Nat→Option (List dH)}{c:Int}:∀ {cs:List Int} {r:Nat} {L M:List dH},iE rec cs r=some L→c=((r+L.length:Nat):Int)→rec (r+L.length)=some M→iE rec (cs++ [c]) r=some (L++M)
 | [],r,L,M,h,hc,hM=>by
  cases h;have hc:c=(r:Int):=hc;have hM:rec r=some M:=hM;show(if c=(r:Int) then(rec r).bind fun L1=>(iE rec [] (r+L1.length)).map (L1++ ·) else Option.none)=_;rw[if_pos hc,hM];show some (M++ [])=some ([]++M);rw[Bz,Bh]
 | b::cs,r,L,M,h,hc,hM=>by
  have h:(if b=(r:Int) then(rec r).bind fun L1=>(iE rec cs (r+L1.length)).map (L1++ ·) else Option.none)=some L:=h;show(if b=(r:Int) then(rec r).bind fun L1=>(iE rec (cs++ [c]) (r+L1.length)).map (L1++ ·) else Option.none)=_;by_cases hb:b=(r:Int)
  ·rw[if_pos hb] at h ⊢;cases h1:rec r with
   | none=>rw[h1] at h;cases h
   | some L1=>
    rw[h1] at h;have h:(iE rec cs (r+L1.length)).map (L1++ ·)=some L:=h;cases h2:iE rec cs (r+L1.length) with
    | none=>rw[h2] at h;cases h
    | some L2=>
     rw[h2] at h;have h:some (L1++L2)=some L:=h;cases h;rw[Ai] at hc hM;have:=aDi (rec:=rec) (c:=c) (M:=M) h2 (by rw[hc];congr 1;omega) (by rw[←hM];congr 1;omega);show((iE rec (cs++ [c]) (r+L1.length)).map (L1++ ·))=_;rw[this];show some (L1++(L2++M))=_;rw[Ba]
  ·rw[if_neg hb] at h;cases h
theorem aE9.snoc{k at_:Nat}{cs:List Int}{C B:List bU}(h:aE9 k at_ cs C)(hB:zA k (at_+C.length) B):aE9 k at_ (cs++ [((at_+C.length:Nat):Int)]) (C++B):=by
 intro N nx hN hnx f p d hf;rw[Ai] at hN hf;obtain⟨L,h1,h2,h3⟩:=h N nx (by omega) (fun i x hi=>hnx i x (by rw[Av (Af.1 hi).1];exact hi)) f p d (by omega);obtain⟨M,g1,g2,g3⟩:=hB.2 N nx (by omega) (fun i x hi=>by
  have:=hnx (C.length+i) x (by rw[Aw (by omega),Nat.add_sub_cancel_left];exact hi);rw[←this];congr 1;omega) f p d (by omega)
 refine⟨L++M,aDi h1 (by rw[h2]) (by rw[h2];exact g1),by rw[Ai,Ai,h2,g2],fun t ht=>?_⟩;rcases Bf.1 ht with h | h
 ·exact h3 t h
 ·exact g3 t h
theorem zA.node{k at_:Nat}{x:bU}{C:List bU}(h:aE9 k (at_+1) x.next C):zA (k+1) at_ (x::C):=by
 refine⟨by simp,fun N nx hN hnx f p d hf=>?_⟩;rw[Am] at hN hf;cases f with
 | zero=>omega
 | succ f=>
  obtain⟨L,h1,h2,h3⟩:=h N nx (by omega) (fun i y hi=>by
   have:=hnx (i+1) y hi;rw[←this];congr 1;omega) f (at_:Int) (d+1) (by omega)
  have h0:nx at_=x.next:=hnx 0 x rfl;refine⟨(p,d,((at_+L.length:Nat):Int))::L,?_,by rw[Am,Am,h2],fun t ht=>?_⟩
  ·show(if at_<N then(iE (fun r=>iQ N nx f r at_ (d+1)) (nx at_) (at_+1)).map fun L=>(p,d,((at_+L.length:Nat):Int))::L else Option.none)=_;rw[if_pos (by omega),h0,h1];rfl
  ·rcases Bi.1 ht with rfl | h
   ·show d≤_;omega
   ·have:=h3 t h;omega
theorem zA.end_{k at_:Nat}{x:bU}(h:x.next= []):zA k at_ [x]:=by
 refine⟨by simp,fun N nx hN hnx f p d hf=>?_⟩;cases f with
 | zero=>simp at hf
 | succ f=>
  have h0:nx at_=x.next:=hnx 0 x rfl;refine⟨[(p,d,((at_+0:Nat):Int))],?_,rfl,fun t ht=>?_⟩
  ·show(if at_<N then(iE (fun r=>iQ N nx f r at_ (d+1)) (nx at_) (at_+1)).map fun L=>(p,d,((at_+L.length:Nat):Int))::L else Option.none)=_;rw[if_pos (by simp at hN;omega),h0,h];rfl
  ·rw[Cb.1 ht];show d≤_;omega
structure aQG(x:bU):Prop where
 kind:x.kind=1
 player:x.player=0
 info:x.info=0
 pay:x.pay= []
 n1:1≤x.next.length
 n2:x.next.length≤3
 len:x.weights.length=x.next.length
 wts:∀w∈x.weights,1≤w∧w≤3
structure aR5(ps:Int)(I:List mT)(x:bU):Prop where
 kind:x.kind=2
 wts:x.weights= []
 pay:x.pay= []
 n1:1≤x.next.length
 n2:x.next.length≤3
 pl:0≤x.player∧x.player<ps
 inf:0≤x.info
 at_:I[x.info.toNat]? =some ⟨x.player,((x.next.length:Nat):Int)⟩
def mF(ps:Int)(I:List mT)(x:bU):Prop:=aNB ps x∨aQG x∨aR5 ps I x
theorem mF.app{ps:Int}{I J:List mT}{x:bU}(h:mF ps I x):mF ps (I++J) x:=by
 rcases h with h | h | h
 ·exact .inl h
 ·exact .inr (.inl h)
 ·exact .inr (.inr ⟨h.kind,h.wts,h.pay,h.n1,h.n2,h.pl,h.inf,by rw[Av (Af.1 h.at_).1];exact h.at_⟩)
theorem aLx{ps:Int}{I:List mT}{x:bU}(h:mF ps I x):iV ps I.length x=0:=by
 unfold iV;rcases h with h | h | h
 ·rw[if_neg (by rw[h.kind];decide),if_neg (by rw[h.kind];decide),if_pos h.kind,if_neg (by unfold uU;rw[h.player,h.info,h.next,h.wts,h.len];simp),if_neg];rintro⟨w,hw,ho⟩;have:=h.pay w hw;omega
 ·rw[if_pos h.kind,if_neg (by unfold tH;rw[h.player,h.info,h.pay,h.len];have:=h.n1;have:=h.n2;simp;omega),if_neg];rintro⟨w,hw,ho⟩;have:=h.wts w hw;omega
 ·have hlt:=(Af.1 h.at_).1;have:=h.pl;have:=h.inf;rw[if_neg (by rw[h.kind];decide),if_pos h.kind,if_neg (by unfold xY;rw[h.wts,h.pay];have:=h.n1;have:=h.n2;simp;omega),if_neg (by omega)]
theorem aEq{ps:Int}{I:List mT}:∀ {l:List bU},(∀x∈l,mF ps I x)→oE ps I.length l=0
 | [],_=>rfl
 | x::l,h=>by
  have h1:=aLx (h x (Cd ..));show(if iV ps I.length x≠0 then iV ps I.length x else oE ps I.length l)=0;rw[if_neg (fun h=>h h1)];exact aEq fun y hy=>h y (Bq _ hy)
theorem aIR{b:Int}:∀ {L:List dH} {m:Int},m≤b→(∀t∈L,t.2.1≤b)→aCd m L≤b
 | [],m,hm,_=>hm
 | t::L,m,hm,h=>by
  rw[aEJ];refine aIR ?_ fun y hy=>h y (Bq _ hy);have:=h t (Cd ..);unfold mx;split<;>omega
theorem aL7{g:bH}{k:Nat}(hp:1≤g.players∧g.players≤4)(hn:1≤g.nodes.length∧g.nodes.length≤2000)(hi:g.infos.length≤200)(hN:∀x∈g.nodes,mF g.players g.infos x)(hT:zA k 0 g.nodes)(hk:k≤40)(hO:oK (g.nodes.map lbl) g.infos.length):iH g=0:=by
 obtain⟨L,h1,h2,h3⟩:=hT.2 g.nodes.length (iU g) (by omega) (fun i x hi=>by rw[Ao];exact aCX hi) (g.nodes.length+1) (-1) 0 (by omega);have hw:lN g=some L:=h1;unfold iH;rw[if_neg (by unfold tZ;omega),if_neg (by rw[aEq hN];exact fun h=>h rfl),hw];show(if L.length≠g.nodes.length then 9 else if 40<aCd 0 L then 5 else aBK g)=0;have hm:aCd 0 L≤40:=aIR (by decide) fun t ht=>by have:=h3 t ht;omega
 rw[if_neg (fun h=>h h2),if_neg (by omega)];have hlen:(lA g).length=g.infos.length:=by unfold lA;simp
 have hinf:∀x∈g.nodes,x.kind=2→0≤x.info:=fun x hx hk=>by
  rcases hN x hx with h | h | h
  ·rw[h.kind] at hk;cases hk
  ·rw[h.kind] at hk;cases hk
  ·exact h.inf
 have hget:∀j,j<g.infos.length→(lA g).getD j 0=((wW (g.nodes.map lbl) 0 j:Nat):Int):=fun j hj=>by rw[aHq hj,aCT hinf]
 obtain⟨o1,o2⟩:=aKb hO;unfold aBK;rw[if_neg,if_neg,if_pos]
 ·intro i h0 hi;rw[hlen] at hi;rw[hget i hi,hget (i - 1) (by omega)];have:=o2 (i - 1) (by omega);rw[show i - 1+1=i by omega] at this;omega
 ·intro h0;obtain⟨j,hj,he⟩:=Eq.1 h0;rw[hlen] at hj;have:=hget j hj;rw[Ae,Ab (by rw[hlen];exact hj)] at this;have e:(lA g)[j]=((wW (g.nodes.map lbl) 0 j:Nat):Int):=this;rw[he] at e;have:=o1 j hj;omega
 ·rintro⟨x,hx,hk,hne⟩;rcases hN x hx with h | h | h
  ·rw[h.kind] at hk;cases hk
  ·rw[h.kind] at hk;cases hk
  ·apply hne;have e:infoAt g x.info=⟨x.player,((x.next.length:Nat):Int)⟩:=by
    unfold infoAt;rw[Ae,h.at_];rfl
   rw[e];exact⟨rfl,rfl⟩
def aNY(Pp:Nat→Prop)(X:St)(cs:List AV)(l:List Int):Prop:=∃a,cs= [a]∧cD .i64 X a l∧∀c,aT a=some c→Pp c
structure vF(Pp:Nat→Prop)(X:St)(v:AV)(rows:List (List Int)):Prop where
 rows:bB 1 (aNY Pp) X v rows
 out:∀c,aT v=some c→Pp c
theorem aNY.move{Pp Pp':Nat→Prop}{X X':St}{cs:List AV}{l:List Int}(h:aNY Pp X cs l)(hn:X.nx≤X'.nx)(hh:∀c,c<X.nx→Pp c→X'.h.get c=X.h.get c∧Pp' c):aNY Pp' X' cs l:=by
 obtain⟨a,rfl,h1,h2⟩:=h;exact⟨a,rfl,eY h1 hn fun c hc=>(hh c (dG h1 hc) (h2 c hc)).1,fun c hc=>(hh c (dG h1 hc) (h2 c hc)).2⟩
theorem vF.move{Pp Pp':Nat→Prop}{X X':St}{v:AV}{rows:List (List Int)}(h:vF Pp X v rows)(hn:X.nx≤X'.nx)(hh:∀c,c<X.nx→Pp c→X'.h.get c=X.h.get c∧Pp' c):vF Pp' X' v rows:=by
 refine⟨?_,fun c hc=>(hh c (aCp h.rows hc) (h.out c hc)).2⟩;rcases h.rows with h' | ⟨b,off,cap,o,cs,rfl,h2,h3,h4,h5⟩
 ·exact .inl h'
 ·refine .inr ⟨b,off,cap,o,cs,rfl,h2,Ah h3 hn,?_,fun i a hi=>?_⟩
  ·unfold cL at h4 ⊢;rw[(hh b h3 (h.out b rfl)).1];exact h4
  ·obtain⟨e,e1,e2,e3⟩:=h5 i a hi;exact⟨e,e1,e2,e3.move hn hh⟩
theorem aRd{S:St}{v:AV}{l:List Int}(h:cD .i64 S v l):nE v=some l.length∧eG v S.h 1 l.length=some (bG l):=by
 rcases h with⟨rfl,rfl | rfl⟩ | ⟨b,off,cap,o,cs,rfl,h2,h3,h4,h5⟩
 ·exact⟨rfl,rfl⟩
 ·exact⟨rfl,rfl⟩
 ·refine⟨rfl,?_⟩;show aX (cL S.h b) (fun c=>cut c off (l.length * 1))=_;rw[h4];show cut cs off (l.length * 1)=_;have hlen:l.length≤(cs.drop off).length:=by
   rw[Cq];rcases Ca l.length with h0 | hp
   ·omega
   ·have:=h5 (l.length - 1) l[l.length - 1] (Ab (by omega));have:=(Af.1 this).1;omega
  unfold cut;rw[fI,fT,Eg,if_pos hlen];congr 1;refine List.ext_getElem? fun i=>?_;by_cases hi:i<l.length
  ·rw[Eo hi,Ek,h5 i l[i] (Ab hi)];unfold bG;rw[Be,Ab hi];rfl
  ·rw[Bn (by rw[Cc];omega),Bn (by unfold bG;rw[Az];omega)]
theorem aCw{b:Nat}{S:St}{v:AV}{l:List Int}(hb:S.h.get b=some (.cells [] false 0))(h:cD .i64 S v l)(h2:l.length≤100000):
  ∃r S',iA 8 1 (.sl b 0 0 0 false) v S=some (r,S')∧Same S S'∧((l= []∧r= .sl b 0 0 0 false∧S'=S)∨(gQ 1 S S' r l.length (bG l)∧l≠ [])):=by
 obtain⟨e1,e2⟩:=aRd h;have hr:l.length≤room:=by unfold room;omega
 have hr2:l.length * 8≤room:=by unfold room;omega
 unfold iA;rw[e1,aK,e2,aK];show ∃r S',oV 8 1 b 0 0 0 false l.length (bG l) S=some (r,S')∧_;unfold oV;rcases Ca l.length with h0 | hp
 ·have hl:l= []:=Cf.1 h0;subst hl;exact⟨.sl b 0 0 0 false,S,rfl,Same.refl S,.inl ⟨rfl,rfl,rfl⟩⟩
 ·have e5:Nat.ble (0+l.length) 0=false:=by
   rw[Bv];intro e;have:=Ar e;omega
  rw[e5,aQ,Aj (by omega),aL,Aj (by rw[Ao];exact hr2),aL,hb,aK];have e4:cut ([]:List AV) 0 (0 * 1)=some []:=by
   unfold cut;rw[fI,fT,Ey,if_pos (Bt _)];rfl
  have hgr:aBP (.cells [] false 0) 1 b 0 0 0 false l.length (bG l) S=some (.sl S.nx 0 (0+l.length) (0+l.length) true,⟨S.h.set S.nx (some (.cells (bG l) true 1)),Nat.succ S.nx⟩):=by
   simp only[aBP,e4,aK,aQ,grown,gD,Bh]
  rw[hgr,Ao];exact⟨.sl S.nx 0 l.length l.length true,⟨S.h.set S.nx (some (.cells (bG l) true 1)),S.nx+1⟩,rfl,Same.alloc S _,.inr ⟨.inr ⟨S.nx,rfl,Ag _,by simp,by simp only;rw[T.get_set,if_pos rfl],by simp [bG]⟩,fun e=>by rw[e] at hp;exact absurd hp (Nat.lt_irrefl 0)⟩⟩
theorem aI3{t b:Nat}{Y X:St}{r:AV}{l:List Int}{w:Int}(h:(l= []∧r= .sl b 0 0 0 false∧X.h.get b=some (.cells [] false 0))∨(gQ 1 Y X r l.length (bG l)∧l≠ []))(hY:Y.nx≤X.nx)(ht:X.h.get t=some (.cells [.int .i64 w] false 0))(htl:t<X.nx)(hl:l.length≤100000):
  ∃r' X',iA 8 1 r (.sl t 0 1 1 false) X=some (r',X')∧cD .i64 X' r' (l++ [w])∧X.nx≤X'.nx∧(∀c,c<X.nx→aT r≠some c→X'.h.get c=X.h.get c)∧∀c,aT r'=some c→X.nx≤c:=by
 rcases h with⟨rfl,rfl,hb⟩ | ⟨hg,_⟩
 ·have hs:cD .i64 X (.sl t 0 1 1 false) [w]:=.inr ⟨t,0,1,false,[.int .i64 w],rfl,Ag _,htl,by unfold cL;rw[ht];rfl,fun i x hi=>by
   cases i with
   | zero=>cases hi;rfl
   | succ i=>simp at hi⟩
  obtain⟨r',X',e1,e2,h3 | ⟨h3,_⟩⟩:=aCw hb hs (by simp)
  ·exact absurd h3.1 (by simp)
  ·exact⟨r',X',e1,h3.is,e2.1,fun c hc _=>e2.2 c hc,fun c hc=>(h3.blk hc).1⟩
 ·have hg':gQ 1 ⟨X.h,Y.nx⟩ X r l.length (bG l):=by
   rcases hg with h | ⟨c,e1,e2,e3,e4,e5⟩
   ·exact .inl h
   ·exact .inr ⟨c,e1,e2,e3,e4,e5⟩
  obtain⟨r',X',e1,e2,e3,e4,e5⟩:=gQ.push (bytes:=8) (t:=t) (w:=w) hg' ⟨hY,fun _ _=>rfl⟩ ht (by unfold room;omega) (by unfold room;omega);exact⟨r',X',e1,e2.is,by omega,e5,fun c hc=>by rw[e3] at hc;cases hc;exact Ag _⟩
noncomputable def aLS:List AO:=[oq 185 (.faddr 3 (.t 11)),
om 186 1 (ld 185),
mt 187 0,
mt 188 1,
om 189 8 (bi .add (.t 188) (ci 1)),
mt 190 13,
oc 191 30 [(.t 187),(.t 189),(.t 190)] 60,
⟨(some 192),(.a (.bslice 3 1 1 [(.int .i64 (.ofNat 0))] [(0,(.t 191))])),none,124⟩]
noncomputable def aLI:List AO:=[⟨(some 193),(.x (.app 3 1 8 (.t 186) (.t 192))),none,255⟩,
om 194 511 (.faddr 3 (.t 11)),
⟨none,(.x (.st 1 (.t 194) (.t 193))),none,1023⟩]
def aPO(P:Nat→Prop)(S0 X:St)(F:Fr)(mb db:Nat)(m:Mk)(LV:List (Int×Int×Int))(xa:AV)(G:Int→Mk→Prop)(F':Fr)(Z:St)(ps:List iM):Prop:=∃ (c:Int) (m':Mk),G c m'∧ps= [⟨7,X.nx+7,.cells [.int .i64 c] false 0⟩]∧X.nx+11≤Z.nx∧lR (fun k=>P k∨X.nx+11≤k) S0 Z mb db m' LV∧(∀k,k<X.nx+11→PB mb db m k→PB mb db m' k)∧(∀k,k<X.nx→PB mb db m k→Z.h.get k=X.h.get k)∧(∀j,j<16→aD j F'=aD j F)∧aD 186 F'=xa∧aD 192 F'= .sl (X.nx+7) 0 1 1 false
theorem aOq{ops:List AO}{P:Nat→Prop}{S0 Y0 X:St}{F:Fr}{inr:Bool}{mb db xb:Nat}{m:Mk}{LV:List (Int×Int×Int)}{k p f xa xw xp nv:AV}{lev:Int}{l:List Int}{G:Int→Mk→Prop}{Q:Out→bQ→St→Prop}(he:ops=aLS++aLI)(hM:lR P S0 X mb db m LV)(hPl:∀c,P c→c<X.nx)(p0:aD 0 F= .ptr mb 0)(p1:aD 1 F= .int .i64 lev)(hlev:0≤lev∧lev≤1000)(p11:aD 11 F= .ptr xb 0)(p13:aD 13 F=nv)(gx:X.h.get xb=some (.cells [k,p,f,xa,xw,xp] false 0))(hx:PB mb db m xb∧¬P xb)(lx:xb<Y0.nx)(hY:Y0.nx≤X.nx)(hg:gQ 1 Y0 X xa l.length (bG l))(hb:∀c,aT xa=some c→PB mb db m c∧¬P c)(hl:l.length≤1000)
  (hcall:∀X1,Same X X1→fR fns (.fn 30 [] []) [.ptr mb 0,.int .i64 (lev+1),nv] X1 fun r Z=>∃ (c:Int) (m':Mk),r= .int .i64 c∧G c m'∧lR (fun k=>P k∨X1.nx≤k) S0 Z mb db m' LV∧fD mb db m X1 m' Z)
  (hQ:∀F' Z xa' c m',(∀j,j<16→aD j F'=aD j F)→G c m'→lR (fun k=>(P k∨X.nx≤k)∧aT xa'≠some k) S0 Z mb db m' LV→X.nx≤Z.nx→(∀k,k<X.nx→PB mb db m k→PB mb db m' k)→(∀k,k<X.nx→PB mb db m k→k≠xb→aT xa≠some k→Z.h.get k=X.h.get k)→Z.h.get xb=some (.cells [k,p,f,xa',xw,xp] false 0)→gQ 1 Y0 Z xa' (l++ [c]).length (bG (l++ [c]))→(∀k,aT xa'=some k→X.nx≤k∧PB mb db m' k)→Q .normal ⟨F',inr⟩ Z):lJ fns (.drw ops) ⟨F,inr⟩ X Q:=by
 have hlen:ops.length=11:=by rw[he];rfl
 have lxX:xb<X.nx:=Ah lx hY;have sp:=hg.self;have wl:IntKind.i64.wrap (lev+1)=lev+1:=wrap_i64 (by omega) (by omega);refine uV (W:=fun c=>c≠xb) (K:=8) (R:=aPO P S0 X F mb db m LV xa G) he rfl rfl (fun X1 x1 hh1 nn1=>?_) ?_
 ·have gxl:=cS (p:=3) gx rfl;have hnn:¬ (xb≠xb):=fun h=>h rfl;unfold aLS;simp only[↓sU,sD,rE,↓reduceIte,rA,p0,p1,p11,p13,aE,aW,aF,gxl,sp,lxX,hnn,Ay,wl];refine jC rfl ?_;refine am ?_;refine aP (hcall X1 x1) ?_;rintro _ X2 ⟨c,m',rfl,hG,hM2,b2⟩;have n1:X1.nx=X.nx+11:=by rw[nn1,hlen]
  have hX1:∀k,k<X.nx→PB mb db m k→X2.h.get k=X.h.get k:=fun k hk hp=>((b2.2 k (by omega) hp).1).trans (x1.2 k hk);refine⟨⟨b2.1,fun c hc hne=>?_⟩,?_⟩
  ·have e:c=xb:=Decidable.byContradiction hne;rw[e];exact(b2.2 xb (by omega) hx.1).1
  have he1:=fun(F:Fr) (id:Nat) (h:aD 191 F= .int .i64 c)=>kQ (t:=3) (z:=.int .i64 0) (x:=.t 191) (F:=F) (id:=id) (k:=.i64) (n:=c) h;simp only[↓sU,sD,rE,↓reduceIte,rA,he1];refine⟨c,m',hG,aq,by rw[←n1];exact b2.1,by rw[←n1];exact hM2,fun k hk hp=>(b2.2 k (by omega) hp).2,hX1,fun j hj=>?_,by refine⟨?_,?_⟩<;>simp only[↓sU,sD,rE,↓reduceIte,rA]⟩;have:j=0∨j=1∨j=2∨j=3∨j=4∨j=5∨j=6∨j=7∨j=8∨j=9∨j=10∨j=11∨j=12∨j=13∨j=14∨j=15:=by omega
  rcases this with rfl | rfl | rfl | rfl | rfl | rfl | rfl | rfl | rfl | rfl | rfl | rfl | rfl | rfl | rfl | rfl<;>simp only[↓sU,sD,rE,↓reduceIte,rA]
 rintro F' S' ps hs ls ⟨c,m',hG,rfl,nZ,hMZ,hPB,hZX,hk,pA,pB⟩ hlast hld;have p11':aD 11 F'= .ptr xb 0:=(hk 11 (by omega)).trans p11;have m1:∀i,i<8→Nat.testBit 255 i=true:=by decide
 obtain⟨U,hU⟩:∃U:St,U=⟨S'.h.set (X.nx+7) (some (.cells [.int .i64 c] false 0)),S'.nx⟩:=⟨_,rfl⟩;have nU:U.nx=S'.nx:=by rw[hU]
 have kU:∀j,j≠X.nx+7→U.h.get j=S'.h.get j:=fun j hj=>by rw[hU];simp only;rw[T.get_set,if_neg hj]
 have gU:U.h.get (X.nx+7)=some (.cells [.int .i64 c] false 0):=by rw[hU];simp only;rw[T.get_set,if_pos rfl]
 have lowv:∀ {j},aT xa=some j→Y0.nx≤j∧j<X.nx:=fun hc=>⟨(hg.blk hc).1,(hg.blk hc).2.1⟩;have hgU:gQ 1 ⟨U.h,Y0.nx⟩ U xa l.length (bG l):=hg.move (by omega) fun j hj=>by
  rw[kU j (by have:=(lowv hj).2;omega)];exact hZX j (lowv hj).2 (hb j hj).1
 obtain⟨xa',V,eA,gA,bA,nA,rA⟩:=gQ.push (bytes:=8) (t:=X.nx+7) (w:=c) hgU ⟨by show Y0.nx≤U.nx;omega,fun _ _=>rfl⟩ gU (by unfold room;omega) (by unfold room;omega);have gxV:V.h.get xb=some (.cells [k,p,f,xa,xw,xp] false 0):=by
  rw[rA xb (by omega) (fun e=>by have:=(lowv e).1;omega),kU xb (by omega)];exact(hZX xb lxX hx.1).trans gx
 have hbA:∀ {j},aT xa'=some j→j=U.nx:=fun hc=>by rw[bA] at hc;exact(Cl hc).symm
 unfold aLI;refine jR (v:=xa') (S1:=V) (hlast _ m1) (fun call=>?_) ?_
 ·rw[dS (show Nat.testBit 255 7=true by decide),fJ];simp only[fW,pA,pB];rw[←hU];exact eA
 rw[dS (show Nat.testBit 255 7=true by decide)];simp only[nB,dV,aE,aF,aW,aQ,fW,cB,bS,p11',rE,↓reduceIte,rA];have gAc:xa'.cells=some [xa']:=gQ.cells gA;refine jR (v:=.undef) (S1:=⟨V.h.set xb (some (.cells [k,p,f,xa',xw,xp] false 0)),V.nx⟩) (show Nat.testBit 1023 8=true by decide) (fun call=>?_) ?_
 ·rw[dD];simp only[fW,bS,rE,↓reduceIte,cB,gAc,aK];exact xW (cs:=[k,p,f,xa,xw,xp]) (p:=3) (S:=V) gxV (by simp)
 rw[iL];refine⟨?_,?_⟩
 ·simp only[Cn,Ba,Co,Bl,Bh];exact hld _ _ _ m1
 ·simp only[cB,dR];have kV:∀j,j<S'.nx→j≠X.nx+7→j≠xb→aT xa≠some j→(V.h.set xb (some (.cells [k,p,f,xa',xw,xp] false 0))).get j=S'.h.get j:=fun j hj h1 h2 h3=>by
   rw[T.get_set,if_neg h2,rA j (by omega) h3,kU j h1]
  have hxm:PB mb db m' xb:=hPB xb (by omega) hx.1;have hMV:lR (fun k=>P k∨X.nx+11≤k) S0 ⟨V.h.set xb (some (.cells [k,p,f,xa',xw,xp] false 0)),V.nx⟩ mb db m' LV:=hMZ.local (by show S'.nx≤V.nx;omega) fun j hj hor=>by
   refine kV j hj (fun e=>?_) (fun e=>?_) (fun e=>?_)
   ·rcases hor with h | h | h
    ·exact h (hPB j (by omega) (by rw[e];exact hM.p.fresh (by omega)))
    ·have:=hPl j h;omega
    ·omega
   ·rcases hor with h | h | h
    ·exact h (by rw[e];exact hxm)
    ·exact hx.2 (by rw[←e];exact h)
    ·omega
   ·have hlo:=(lowv e).2;rcases hor with h | h | h
    ·exact h (hPB j (by omega) (hb j e).1)
    ·exact(hb j e).2 h
    ·omega
  have hM3:lR (fun k=>(P k∨X.nx≤k)∧aT xa'≠some k) S0 ⟨V.h.set xb (some (.cells [k,p,f,xa',xw,xp] false 0)),V.nx⟩ mb db m' LV:=by
   have h1:lR (fun k=>(P k∨X.nx+11≤k)∧k<S'.nx) S0 ⟨V.h.set xb (some (.cells [k,p,f,xa',xw,xp] false 0)),V.nx⟩ mb db m' LV:=(hMZ.mono fun j hj h=>⟨h,hj⟩).local (by show S'.nx≤V.nx;omega) fun j hj hor=>by
    refine kV j hj (fun e=>?_) (fun e=>?_) (fun e=>?_)
    ·rcases hor with h | ⟨h | h,_⟩
     ·exact h (hPB j (by omega) (by rw[e];exact hM.p.fresh (by omega)))
     ·have:=hPl j h;omega
     ·omega
    ·rcases hor with h | ⟨h | h,_⟩
     ·exact h (by rw[e];exact hxm)
     ·exact hx.2 (by rw[←e];exact h)
     ·omega
    ·have hlo:=(lowv e).2;rcases hor with h | ⟨h | h,_⟩
     ·exact h (hPB j (by omega) (hb j e).1)
     ·exact(hb j e).2 h
     ·omega
   refine h1.mono fun j _ h=>⟨h.1.elim .inl fun h=>.inr (by omega),fun e=>?_⟩;have:=hbA e;have:=h.2;omega
  refine hQ _ _ xa' c m' (fun j hj=>?_) hG hM3 (by show X.nx≤V.nx;omega) (fun j hj hp=>hPB j (by omega) hp) (fun j hj hp h1 h2=>?_) (by simp only;rw[T.get_set,if_pos rfl]) ?_ (fun j hj=>?_)
  ·rw[bS,if_neg (by omega),bS,if_neg (by omega)];exact hk j hj
  ·simp only;rw[kV j (by omega) (by omega) h1 h2];exact hZX j hj hp
  ·refine gQ.move (S:=V) (by exact gA) (Ag _) fun j hj=>?_;have:=hbA hj;simp only;rw[T.get_set,if_neg (by omega)]
  ·have:=hbA hj;exact⟨by omega,hMZ.p.fresh (by omega)⟩
theorem aM0{a q:Nat}(ha:a≤1000)(hq:q≤64):∃z y:Nat,eJ .shr (.p .int) (.int .i64 (a:Int)) (.int .i64 (q:Int))=some (.int .i64 (z:Int))∧eJ .and (.p .int) (.int .i64 (z:Int)) (.int .i64 1)=some (.int .i64 (y:Int)):=by
 refine⟨a / 2 ^ q,Nat.land (a / 2 ^ q) 1,?_,?_⟩
 ·show cN .shr .i64 (Int.ofNat a) .i64 (Int.ofNat q)=_;unfold cN;rw[show dP .shr=true from rfl,aL];show sF .shr .i64 (Int.ofNat a) q=_;unfold sF;rw[show Nat.ble q IntKind.i64.bits=true from Aj hq,aL];show some (AV.int .i64 (Int.fdiv (a:Int) ((2 ^ q:Nat):Int)))=_;rw[Int.fdiv_eq_ediv_of_nonneg _ (En _)];rfl
 ·have hz:a / 2 ^ q≤1000:=Ap (Ff _ _) ha;generalize a / 2 ^ q=z at *;show cN .and .i64 (Int.ofNat z) .i64 (Int.ofNat 1)=_;unfold cN;rw[show dP .and=false from rfl,aQ,eQ,aL];show bN (xL .i64 z) (bN (xL .i64 1) (some (AV.int .i64 (.ofNat (Nat.land z 1)))) none) none=_;rw[show xL .i64 z=true from Aj (by show z≤9223372036854775807;omega),aL,show xL .i64 1=true from rfl,aL];rfl
noncomputable def aO2:AC:=qk4
def RoI(Y:St)(F0:Fr)(n lev:Nat)(k:Nat)(A:bQ)(X:St):Prop:=A.inr=false∧Same Y X∧(∀j,j<13→aD j A.F=aD j F0)∧∃ (q:Nat) (nv:AV) (cs:List AV) (A':List (List Int)),q+k=n∧A'.length=q∧(∀l∈A',l.length≤lev+1)∧gQ 1 Y X nv q cs∧aJp Y X nv cs A'∧aD 13 A.F=nv∧aD 14 A.F= .int .i64 (q:Int)
theorem aIo{Pp:Nat→Prop}{Y:St}{F:Fr}{v:AV}{rows:List (List Int)}{tb lev:Nat}{pl many sn i:Int}{Q:Out→bQ→St→Prop}(hv:vF Pp Y v rows)(hrl:∀l∈rows,l.length≤lev)(hlev:lev≤900)(hn:rows.length≤64)(p2:aD 2 F=v)(p8:aD 8 F= .ptr tb 0)(gt:Y.h.get tb=some (.cells [.int .i64 pl,.int .i64 many,.int .i64 sn] false 0))(ltb:tb<Y.nx)(hsn:0≤sn∧sn≤1000)(p12:aD 12 F= .int .i64 i)(p13:aD 13 F= .nilsl)(p14:aD 14 F= .int .i64 0)
  (hQ:∀F' Z nv A',(∀j,j<13→aD j F'=aD j F)→aD 13 F'=nv→Same Y Z→A'.length=rows.length→(∀l∈A',l.length≤lev+1)→vF (fun c=>Y.nx≤c∧c<Z.nx) Z nv A'→Q .normal ⟨F',false⟩ Z):lJ fns aO2 ⟨F,false⟩ Y Q:=by
 unfold aO2;refine bD (Q:=fun o A' Z=>o= .normal∧RoI Y F rows.length lev 0 A' Z) (aN (bT (RoI Y F rows.length lev) ?_ rows.length _ _ ⟨rfl,Same.refl _,fun _ _=>rfl,0,.nilsl,[],[],by omega,rfl,fun l hl=>(by cases hl),.inl ⟨rfl,rfl,rfl⟩,⟨rfl,fun j hj=>absurd hj (Dy j)⟩,p13,p14⟩)) ?_;rotate_left
 ·rintro o ⟨F',inr⟩ Z ⟨rfl,q0,hZ,hk,q,nv,cs,A',hq,hl,hll,hg,hR,p13',_⟩;simp only at q0 hk p13';subst q0;obtain rfl:q=rows.length:=by omega
  refine hQ F' Z nv A' hk p13' hZ hl hll ⟨?_,fun c hc=>⟨(hg.blk hc).1,(hg.blk hc).2.1⟩⟩;rcases hg with⟨rfl,h0,_⟩ | ⟨b,rfl,_,h2,h3,_⟩
  ·exact .inl ⟨Cf.1 (by omega),.inl rfl⟩
  ·refine .inr ⟨b,0,rows.length,true,cs,by rw[hl],by omega,h2,by unfold cL;rw[h3];rfl,fun j l hj=>?_⟩;have hlt:=(Af.1 hj).1;have e:A'.getD j []=l:=by rw[Ae,hj];rfl
   obtain⟨r,h4,h5,h6⟩:=hR.2 j hlt;rw[e] at h5;refine⟨[r],rfl,fun x y hx=>?_,r,rfl,h5,fun c hc=>⟨(h6 c hc).1,dG h5 hc⟩⟩;cases x with
   | zero=>
    cases hx;rw[Ao,Eg];exact h4
   | succ x=>simp at hx
 rintro k ⟨G,inr⟩ X ⟨q0,hX,hk,q,nv,cs,A',hqk,hlA,hll,hg,hR,p13',p14'⟩;simp only at q0 hk p13' p14';subst q0;have g2:aD 2 G=v:=(hk 2 (by omega)).trans p2;have g8:aD 8 G= .ptr tb 0:=(hk 8 (by omega)).trans p8;have g12:aD 12 G= .int .i64 i:=(hk 12 (by omega)).trans p12;have hvX:vF Pp X v rows:=hv.move hX.1 fun c hc hp=>⟨hX.2 c hc,hp⟩;have gtX:=(hX.2 _ ltb).trans gt;refine iP ?_;simp only[↓sU,sD,rE,↓reduceIte,rA,g2,p14',hvX.rows.len,Ak];by_cases hlt:q<rows.length;rotate_left
 ·refine aO (by simp only[↓sU,sD,rE,↓reduceIte,rA,Aa (show ¬ (q:Int)<((rows.length:Nat):Int) by omega)]) (bK ?_);simp only[↓sU,sD,rE,↓reduceIte,rA];have hk0:k=0:=by omega
  subst hk0;refine⟨rfl,hX,fun j hj=>?_,q,nv,cs,A',hqk,hlA,hll,hg,hR,by refine⟨?_,?_⟩<;>simp only[↓sU,sD,rE,↓reduceIte,rA,p13',p14']⟩;rw[←hk j hj];have:j=0∨j=1∨j=2∨j=3∨j=4∨j=5∨j=6∨j=7∨j=8∨j=9∨j=10∨j=11∨j=12:=by omega
  rcases this with rfl | rfl | rfl | rfl | rfl | rfl | rfl | rfl | rfl | rfl | rfl | rfl | rfl<;>simp only[↓sU,sD,rE,↓reduceIte,rA]
 refine aR (by simp only[↓sU,sD,rE,↓reduceIte,rA,Ad (show(q:Int)<((rows.length:Nat):Int) by omega)]) (aM ?_);try simp only[↓sU,sD,rE,↓reduceIte,rA]
 have w1:IntKind.i64.wrap ((q:Int)+1)=((q+1:Nat):Int):=by rw[wrap_i64 (by omega) (by omega)];omega
 obtain⟨_,br,qr,hia,lbr,_,⟨a,rfl,hrow,_⟩,_,hlf⟩:=bB.at hvX.rows (by decide) (aHs hlt);have hld:=hlf 0 a rfl;rw[Bs] at hld;have hrl':(rows.getD q []).length≤lev:=hrl _ (by rw[Ae,Ab hlt];exact Br hlt);generalize rows.getD q []=l at *;refine aC (aN (aC (aG ?_)));refine ah ?_;refine fX aAE ?_;intro X1 x1 n1 b1;have hld1:=hld;rw[←sI x1 lbr] at hld1;simp only[↓aA,aB,rE,↓reduceIte,rA,g2,p14',aH,hia,hld1];obtain⟨r,X2,eA,x2,hr⟩:=aCw b1 (hrow.same x1) (by omega);refine eR (fun call=>by simp only[↓aA,aB,rE,↓reduceIte,rA,fJ];exact eA) ?_;simp only[↓aA,aB,rE,↓reduceIte,rA];have sX2:=x1.trans x2;have sY2:=hX.trans sX2;have gt2:=(sY2.2 _ ltb).trans gt;have t0:=cS (p:=0) gt2 rfl;have t2:=cS (p:=2) gt2 rfl;have lX2:X.nx<X2.nx:=by have:=x2.1;omega
 have hcp:(l= []∧r= .sl X.nx 0 0 0 false∧X2.h.get X.nx=some (.cells [] false 0))∨(gQ 1 X1 X2 r l.length (bG l)∧l≠ []):=by
  rcases hr with⟨e1,e2,e3⟩ | h
  ·exact .inl ⟨e1,e2,by rw[e3];exact b1⟩
  ·exact .inr h
 have hrb:∀c,aT r=some c→X.nx≤c:=fun c hc=>by
  rcases hcp with⟨_,rfl,_⟩ | ⟨h,_⟩
  ·cases hc;exact Ag _
  ·have:=(h.blk hc).1;omega
 obtain⟨s0,rfl⟩:∃s0:Nat,sn=(s0:Int):=⟨sn.toNat,by omega⟩;obtain⟨z,y,hz,hy⟩:=aM0 (a:=s0) (q:=q) (by omega) (by omega);refine aC (bD (Q:=fun o A2 Z=>o= .normal∧A2.inr=false∧(∀j,j<13→aD j A2.F=aD j G)∧aD 13 A2.F=nv∧aD 14 A2.F= .int .i64 (q:Int)∧X2.nx≤Z.nx∧(∀c,c<X.nx→Z.h.get c=X.h.get c)∧∃w,cD .i64 Z (aD 15 A2.F) (l++ [w])∧∀c,aT (aD 15 A2.F)=some c→X.nx≤c) (aC (bD (Q:=fun o A1 Z=>o= .normal∧A1.inr=false∧Z=X2∧(∀j,j<13→aD j A1.F=aD j G)∧aD 13 A1.F=nv∧aD 14 A1.F= .int .i64 (q:Int)∧aD 15 A1.F=r∧∃t,aD 173 A1.F= .bool t) (aG ?_) ?_)) ?_)
 ·by_cases hqp:(q:Int)=pl
  ·simp only[↓sU,sD,rE,↓reduceIte,rA,p13',p14',g8,aE,aF,t0,Ad hqp];exact⟨fun j hj=>by
    have:j=0∨j=1∨j=2∨j=3∨j=4∨j=5∨j=6∨j=7∨j=8∨j=9∨j=10∨j=11∨j=12:=by omega
    rcases this with rfl | rfl | rfl | rfl | rfl | rfl | rfl | rfl | rfl | rfl | rfl | rfl | rfl<;>simp only[↓sU,sD,rE,↓reduceIte,rA],true,rfl⟩
  ·simp only[↓sU,sD,rE,↓reduceIte,rA,p13',p14',g8,aE,aF,t0,t2,Aa hqp,hz,hy];exact⟨fun j hj=>by
    have:j=0∨j=1∨j=2∨j=3∨j=4∨j=5∨j=6∨j=7∨j=8∨j=9∨j=10∨j=11∨j=12:=by omega
    rcases this with rfl | rfl | rfl | rfl | rfl | rfl | rfl | rfl | rfl | rfl | rfl | rfl | rfl<;>simp only[↓sU,sD,rE,↓reduceIte,rA],_,rfl⟩
 ·rintro o ⟨F1,inr⟩ Z ⟨rfl,q0,hZ,k1,e13,e14,e15,t,ht⟩;simp only at q0 k1 e13 e14 e15 ht;subst q0;rw[hZ];clear hZ Z;try simp only[↓sU,sD,rE,↓reduceIte,rA]
  have f12:aD 12 F1= .int .i64 i:=(k1 12 (by omega)).trans g12;have again:∀ {F':Fr} {X3 X4:St} {r':AV} {w:Int},Same X2 X3→X3.nx≤X4.nx→(∀c,c<X3.nx→aT r≠some c→X4.h.get c=X3.h.get c)→cD .i64 X4 r' (l++ [w])→(∀c,aT r'=some c→X3.nx≤c)→X2.nx≤X4.nx∧(∀c,c<X.nx→X4.h.get c=X.h.get c)∧∃w,cD .i64 X4 r' (l++ [w])∧∀c,aT r'=some c→X.nx≤c:=fun {F' X3 X4 r' w} s3 n4 k4 i4 b4=>
   ⟨Ap s3.1 n4,fun c hc=>by
    rw[k4 c (by have:=s3.1;omega) (fun e=>by have:=hrb c e;omega),s3.2 c (by omega)];exact sX2.2 c hc,w,i4,fun c hc=>by have:=b4 c hc;have:=s3.1;omega⟩
  have hcp3:∀ {X3:St},Same X2 X3→((l= []∧r= .sl X.nx 0 0 0 false∧X3.h.get X.nx=some (.cells [] false 0))∨(gQ 1 X1 X3 r l.length (bG l)∧l≠ [])):=fun s3=>hcp.elim (fun h=>.inl ⟨h.1,h.2.1,(s3.2 _ lX2).trans h.2.2⟩) fun h=>.inr ⟨h.1.step s3,h.2⟩;have n12:=x2.1;cases t with
  | true=>
   refine aR (au ht) (aG ?_);simp only[↓aA,aB,rE,↓reduceIte,rA,e15,f12];refine fX (kQ (n:=i) (k:=.i64) (ai)) ?_;intro X3 x3 n3 b3;obtain⟨r',X4,eB,i4,n4,k4,b4⟩:=aI3 (t:=X2.nx) (w:=i) (hcp3 x3) (by omega) b3 (by omega) (by omega);refine eR (fun call=>by simp only[↓aA,aB,rE,↓reduceIte,rA,fJ];exact eB) ?_;simp only[↓aA,aB,rE,↓reduceIte,rA,e13,e14];exact⟨fun j hj=>by rw[←k1 j hj];exact(by
    have:j=0∨j=1∨j=2∨j=3∨j=4∨j=5∨j=6∨j=7∨j=8∨j=9∨j=10∨j=11∨j=12:=by omega
    rcases this with rfl | rfl | rfl | rfl | rfl | rfl | rfl | rfl | rfl | rfl | rfl | rfl | rfl<;>simp only[↓sU,sD,rE,↓reduceIte,rA]),again (F':=F1) x3 n4 k4 i4 b4⟩
  | false=>
   have ev28:∀ (F:Fr) (id:Nat),tQ (.bslice 3 1 1 [.int .i64 0] [(0,.c (.int .i64 (.negSucc 0)))]) F id=some (.sl id 0 1 1 false,.cells [.int .i64 (-1)] false 0):=fun F id=>kQ rfl;refine aO (au ht) (aG ?_);simp only[↓aA,aB,rE,↓reduceIte,rA,e15];refine fX (ev28 _ _) ?_;intro X3 x3 n3 b3;obtain⟨r',X4,eB,i4,n4,k4,b4⟩:=aI3 (t:=X2.nx) (w:= -1) (hcp3 x3) (by omega) b3 (by omega) (by omega);refine eR (fun call=>by simp only[↓aA,aB,rE,↓reduceIte,rA,fJ];exact eB) ?_;simp only[↓aA,aB,rE,↓reduceIte,rA,e13,e14];exact⟨fun j hj=>by rw[←k1 j hj];exact(by
    have:j=0∨j=1∨j=2∨j=3∨j=4∨j=5∨j=6∨j=7∨j=8∨j=9∨j=10∨j=11∨j=12:=by omega
    rcases this with rfl | rfl | rfl | rfl | rfl | rfl | rfl | rfl | rfl | rfl | rfl | rfl | rfl<;>simp only[↓sU,sD,rE,↓reduceIte,rA]),again (F':=F1) x3 n4 k4 i4 b4⟩
 rintro o ⟨F2,inr⟩ Z ⟨rfl,q0,k2,e13,e14,nZ,kZ,w,iZ,bZ⟩;simp only at q0 k2 e13 e14 iZ bZ;subst q0;generalize h15:aD 15 F2=r' at iZ bZ;try simp only[↓sU,sD,rE,↓reduceIte,rA]
 have nXZ:X.nx≤Z.nx:=by omega
 have sXZ:Same X Z:=⟨nXZ,kZ⟩;refine aG ?_;simp only[↓aA,aB,rE,↓reduceIte,rA,e13,h15];refine fX (aOL (S:=Z) iZ (ai)) ?_;intro X5 x5 n5 b5;have hg5:gQ 1 ⟨X5.h,Y.nx⟩ X5 nv q cs:=hg.step (sXZ.trans x5);obtain⟨nv',X6,eC,gC,bC,n6,k6⟩:=gQ.push1 (bytes:=24) (x:=r') hg5 ⟨by have:=hX.1;show Y.nx≤X5.nx;omega,fun _ _=>rfl⟩ b5 (by unfold room;omega) (by unfold room;omega);refine eR (fun call=>by simp only[↓aA,aB,rE,↓reduceIte,rA,fJ];exact eC) ?_;simp only[↓aA,aB,rE,↓reduceIte,rA];have nvlow:∀ {c},aT nv=some c→Y.nx≤c∧c<X.nx:=fun hc=>⟨(hg.blk hc).1,(hg.blk hc).2.1⟩;have i5:cD .i64 X5 r' (l++ [w]):=iZ.same x5;have i6:cD .i64 X6 r' (l++ [w]):=eY i5 (by omega) fun c hc=>k6 c (dG i5 hc) fun e=>by have:=bZ c hc;have:=(nvlow e).2;omega
 have hR6:=hR.push (Z:=X6) (pv':=nv') (r:=r') (l:=l++ [w]) (by have:=hX.1;omega) (by omega) (fun c h1 h2 h3=>by rw[k6 c (by omega) h3,x5.2 c (by omega)];exact kZ c h1) i6 (fun c hc=>⟨bZ c hc,fun e=>by rw[bC] at e;cases e;have:=dG i5 hc;omega⟩) (fun c hc=>by rw[bC] at hc;cases hc;omega);refine aG ?_;simp only[↓sU,sD,rE,↓reduceIte,rA,e14,w1];refine⟨k - 1,by omega,rfl,⟨by have:=hX.1;omega,fun c hc=>?_⟩,fun j hj=>?_,q+1,nv',cs++ [r'],A'++ [l++ [w]],by omega,by rw[Ai,An,hlA],fun m hm=>?_,?_,hR6,by refine⟨?_,?_⟩<;>simp only[↓sU,sD,rE,↓reduceIte,rA]⟩
 ·rw[k6 c (by have:=hX.1;omega) (fun e=>by have:=(nvlow e).1;omega),x5.2 c (by have:=hX.1;omega),kZ c (by have:=hX.1;omega)];exact hX.2 c hc
 ·rw[←hk j hj,←k2 j hj];have:j=0∨j=1∨j=2∨j=3∨j=4∨j=5∨j=6∨j=7∨j=8∨j=9∨j=10∨j=11∨j=12:=by omega
  rcases this with rfl | rfl | rfl | rfl | rfl | rfl | rfl | rfl | rfl | rfl | rfl | rfl | rfl<;>simp only[↓sU,sD,rE,↓reduceIte,rA]
 ·rcases Bf.1 hm with h | h
  ·exact hll m h
  ·rw[Cb.1 h,Ai,An];omega
 ·rcases gC with h | ⟨b,e1,e2,e3,e4,e5⟩
  ·exact .inl h
  ·exact .inr ⟨b,e1,e2,e3,e4,e5⟩
structure aCi(m:Mk):Prop where
 len:m.views.length=m.infos.length
 at_:∀ (j:Nat) (v:Int×Int×Int),m.views[j]? =some v→v.2.2=(j:Int)∧0≤v.1∧v.1<m.ps∧∃a,m.infos[j]? =some ⟨v.1,a⟩∧1≤a∧a≤3
structure aEb(lev:Nat)(m:Mk):Prop where
 vok:aCi m
 lv:∀ (j:Nat) (v:Int×Int×Int),m.views[j]? =some v→v.2.1<(lev:Int)∨aBl m v.2.2
 nd:∀x∈m.nodes,x.kind=2→x.info<((m.infos.length:Nat):Int)
 fit:((m.nodes.length:Nat):Int)+m.pend≤m.most
 pnd:0≤m.pend
 most:m.most≤1000
 il:m.infos.length≤m.nodes.length
 ps:1≤m.ps∧m.ps≤4
structure xX(m m':Mk)(B:List bU)(d:Int):Prop where
 nodes:m'.nodes=m.nodes++B
 ok:∀x∈B,mF m.ps m'.infos x
 ord:∀lab,oK lab m.infos.length→oK (lab++B.map lbl) m'.infos.length
 inf:∃I,m'.infos=m.infos++I
 vws:∃V,m'.views=m.views++V
 vok:aCi m'
 used:∀j,m.infos.length≤j→j<m'.infos.length→∃x∈B,x.kind=2∧x.info=(j:Int)
 most:m'.most=m.most
 ps:m'.ps=m.ps
 pend:m'.pend=m.pend - d
 fit:((m'.nodes.length:Nat):Int)+m'.pend≤m'.most
 il:m'.infos.length≤m'.nodes.length
theorem xX.refl{lev:Nat}{m:Mk}(h:aEb lev m):xX m m [] 0 where
 nodes:=(Bz _).symm
 ok:=fun x hx=>by cases hx
 ord:=fun lab h=>by simpa using h
 inf:=⟨[],(Bz _).symm⟩
 vws:=⟨[],(Bz _).symm⟩
 vok:=h.vok
 used:=fun j h1 h2=>by omega
 most:=rfl
 ps:=rfl
 pend:=(Int.sub_zero _).symm
 fit:=h.fit
 il:=h.il
theorem xX.trans{m m' m'':Mk}{B B':List bU}{d d':Int}(h:xX m m' B d)(h':xX m' m'' B' d'):xX m m'' (B++B') (d+d') where
 nodes:=by rw[h'.nodes,h.nodes,Ba]
 ok:=fun x hx=>by
  rcases Bf.1 hx with h1 | h1
  ·obtain⟨I,e⟩:=h'.inf;rw[e];exact(h.ok x h1).app
  ·rw[←h.ps];exact h'.ok x h1
 ord:=fun lab hl=>by
  rw[Dc,←Ba];exact h'.ord _ (h.ord lab hl)
 inf:=by
  obtain⟨I,e⟩:=h.inf;obtain⟨I',e'⟩:=h'.inf;exact⟨I++I',by rw[e',e,Ba]⟩
 vws:=by
  obtain⟨I,e⟩:=h.vws;obtain⟨I',e'⟩:=h'.vws;exact⟨I++I',by rw[e',e,Ba]⟩
 vok:=h'.vok
 used:=fun j h1 h2=>by
  by_cases hj:j<m'.infos.length
  ·obtain⟨x,hx,hk⟩:=h.used j h1 hj;exact⟨x,Dp _ hx,hk⟩
  ·obtain⟨x,hx,hk⟩:=h'.used j (by omega) h2;exact⟨x,Cz _ hx,hk⟩
 most:=h'.most.trans h.most
 ps:=h'.ps.trans h.ps
 pend:=by rw[h'.pend,h.pend];omega
 fit:=h'.fit
 il:=h'.il
theorem aBl.mono{m m':Mk}{B:List bU}{i:Int}(h:aBl m i)(hn:m'.nodes=m.nodes++B):aBl m' i:=by
 obtain⟨x,hx,hk⟩:=h;exact⟨x,by rw[hn];exact Dp _ hx,hk⟩
theorem xX.pre{lev:Nat}{m m':Mk}{B:List bU}{d:Int}(h:xX m m' B d)(hp:aEb lev m)(hd:0≤m'.pend):aEb lev m' where
 vok:=h.vok
 lv:=fun j v hv=>by
  obtain⟨V,e⟩:=h.vws;by_cases hj:j<m.views.length
  ·rw[e,Av hj] at hv;rcases hp.lv j v hv with h1 | h1
   ·exact .inl h1
   ·exact .inr (h1.mono h.nodes)
  ·have hlt:=(Af.1 hv).1;have e1:=(h.vok.at_ j v hv).1;obtain⟨x,hx,hk⟩:=h.used j (by have:=hp.vok.len;omega) (by have:=h.vok.len;omega);exact .inr ⟨x,by rw[h.nodes];exact Cz _ hx,hk.1,by rw[hk.2,e1]⟩
 nd:=fun x hx hk=>by
  obtain⟨I,e⟩:=h.inf;have hl:m.infos.length≤m'.infos.length:=by rw[e,Ai];omega
  rw[h.nodes] at hx;rcases Bf.1 hx with h1 | h1
  ·have:=hp.nd x h1 hk;omega
  ·rcases h.ok x h1 with h2 | h2 | h2
   ·rw[h2.kind] at hk;cases hk
   ·rw[h2.kind] at hk;cases hk
   ·have:=(Af.1 h2.at_).1;have:=h2.inf;omega
 fit:=h.fit
 pnd:=hd
 most:=by rw[h.most];exact hp.most
 il:=h.il
 ps:=by rw[h.ps];exact hp.ps
def aCj(fns:T cV)(S0:St)(mb db:Nat)(LV:List (Int×Int×Int))(lev:Nat):Prop:=∀ (X:St) (P:Nat→Prop) (m:Mk) (v:AV) (rows:List (List Int)),lR P S0 X mb db m LV→S0.nx≤X.nx→aEb lev m→1≤m.pend→vF (fun c=>PB mb db m c∧P c) X v rows→rows.length=m.ps.toNat→(∀l∈rows,l.length≤lev)→(∀p∈LV,p.1<m.ps)→
 fR fns (.fn 30 [] []) [.ptr mb 0,.int .i64 (lev:Int),v] X fun r Z=>r= .int .i64 ((m.nodes.length:Nat):Int)∧∃m' B,xX m m' B 1∧zA (LV.length - lev) m.nodes.length B∧lR (fun c=>P c∨X.nx≤c) S0 Z mb db m' LV∧fD mb db m X m' Z
noncomputable def aO3:AC:=qk6
def Pin(P:Nat→Prop)(X:St)(xb:Nat)(xa xw:AV)(c:Nat):Prop:=(P c∨X.nx≤c)∧c≠xb∧aT xa≠some c∧aT xw≠some c
structure KdR(P:Nat→Prop)(S0 X X1:St)(mb db xb:Nat)(LV:List (Int×Int×Int))(K:Nat)(m1:Mk)(xk xp xf:AV)(pl:Int)(Y:St)(i iw:Nat)(mi:Mk)(cs:List Int)(C:List bU)(ws:List Int)(xa xw:AV):Prop where
 mkb:lR (Pin P X xb xa xw) S0 Y mb db mi LV
 bld:xX m1 mi C (i:Int)
 forT:aE9 K m1.nodes.length cs C
 len:cs.length=i
 wts:(pl<0→ws.length=iw∧∀w∈ws,1≤w∧w≤3)∧(¬pl<0→ws= [])
 nx:X1.nx≤Y.nx
 frm:∀c,c<X1.nx→PB mb db m1 c→PB mb db mi c∧(c≠xb→Y.h.get c=X1.h.get c)
 gx:Y.h.get xb=some (.cells [xk,xp,xf,xa,xw,.nilsl] false 0)
 ga:gQ 1 X1 Y xa cs.length (bG cs)
 gw:gQ 1 X1 Y xw ws.length (bG ws)
 pa:∀c,aT xa=some c→PB mb db mi c
 pw:∀c,aT xw=some c→PB mb db mi c
 ne:∀c,aT xa=some c→aT xw≠some c
theorem KdR.same{P:Nat→Prop}{S0 X X1:St}{mb db xb:Nat}{LV:List (Int×Int×Int)}{K:Nat}{m1:Mk}{xk xp xf:AV}{pl:Int}{Y Z:St}{i iw:Nat}{mi:Mk}{cs:List Int}{C:List bU}{ws:List Int}{xa xw:AV}(h:KdR P S0 X X1 mb db xb LV K m1 xk xp xf pl Y i iw mi cs C ws xa xw)(hx:xb<X1.nx)(hs:Same Y Z):KdR P S0 X X1 mb db xb LV K m1 xk xp xf pl Z i iw mi cs C ws xa xw where
 mkb:=h.mkb.same hs
 bld:=h.bld
 forT:=h.forT
 len:=h.len
 wts:=h.wts
 nx:=Ap h.nx hs.1
 frm:=fun c hc hp=>⟨(h.frm c hc hp).1,fun hne=>(hs.2 c (Ah hc h.nx)).trans ((h.frm c hc hp).2 hne)⟩
 gx:=(hs.2 xb (Ah hx h.nx)).trans h.gx
 ga:=h.ga.step hs
 gw:=h.gw.step hs
 pa:=h.pa
 pw:=h.pw
 ne:=h.ne
def KdI(P:Nat→Prop)(S0 X X1:St)(mb db xb:Nat)(LV:List (Int×Int×Int))(K:Nat)(m1:Mk)(xk xp xf:AV)(pl:Int)(many:Nat)(F0:Fr)(k:Nat)(A:bQ)(Y:St):Prop:=A.inr=false∧(∀j,j<12→aD j A.F=aD j F0)∧∃i mi cs C ws xa xw,i+k=many∧KdR P S0 X X1 mb db xb LV K m1 xk xp xf pl Y i i mi cs C ws xa xw∧aD 12 A.F= .int .i64 (i:Int)
theorem aH3{P:Nat→Prop}{S0 X X1:St}{F:Fr}{mb db tb xb:Nat}{LV:List (Int×Int×Int)}{m1:Mk}{xk xp xf v:AV}{pl mn sn:Int}{many lev:Nat}{rows:List (List Int)}{Q:Out→bQ→St→Prop}(H:Has fns)(hIH:aCj fns S0 mb db LV (lev+1))(hP:∀c,P c→c<X.nx)(hX:X.nx≤X1.nx)(hM:lR (fun c=>(P c∨X.nx≤c)∧c≠xb) S0 X1 mb db m1 LV)(hS:S0.nx≤X.nx)(hpre:aEb (lev+1) m1)(hpend:(many:Int)≤m1.pend)(hmany:many≤3)(hlev:lev≤800)
  (hLP:∀p∈LV,p.1<m1.ps) (hseen:vF (fun c=>PB mb db m1 c∧P c) X1 v rows) (hrn:rows.length=m1.ps.toNat) (hrl:∀l∈rows,l.length≤lev) (ltb:tb<X1.nx) (lxb:xb<X1.nx) (xxb:X.nx≤xb) (ntx:tb≠xb) (ptb:PB mb db m1 tb) (pxb:PB mb db m1 xb) (gtb:X1.h.get tb=some (.cells [.int .i64 pl,.int .i64 mn,.int .i64 sn] false 0)) (gxb:X1.h.get xb=some (.cells [xk,xp,xf,.nilsl,.nilsl,.nilsl] false 0)) (hsn:0≤sn∧sn≤1000)
  (p0:aD 0 F= .ptr mb 0) (p1:aD 1 F= .int .i64 (lev:Int)) (p2:aD 2 F=v) (p8:aD 8 F= .ptr tb 0) (p9:aD 9 F= .int .i64 (many:Int)) (p11:aD 11 F= .ptr xb 0) (p12:aD 12 F= .int .i64 0)
  (hQ:∀F' Y mi cs C ws xa xw,(∀j,j<12→aD j F'=aD j F)→KdR P S0 X X1 mb db xb LV (LV.length - (lev+1)) m1 xk xp xf pl Y many many mi cs C ws xa xw→Q .normal ⟨F',false⟩ Y):lJ fns aO3 ⟨F,false⟩ X1 Q:=by
 unfold aO3;refine bD (Q:=fun o A' Z=>o= .normal∧KdI P S0 X X1 mb db xb LV (LV.length - (lev+1)) m1 xk xp xf pl many F 0 A' Z) (aN (bT (KdI P S0 X X1 mb db xb LV (LV.length - (lev+1)) m1 xk xp xf pl many F) ?_ many _ _ ⟨rfl,fun _ _=>rfl,0,m1,[],[],[],.nilsl,.nilsl,by omega,⟨hM.mono fun c _ h=>⟨h.1,h.2,(by intro e;cases e),(by intro e;cases e)⟩,xX.refl hpre,aE9.nil,rfl,⟨fun _=>⟨rfl,fun w hw=>by cases hw⟩,fun _=>rfl⟩,Ag _,fun c _ hp=>⟨hp,fun _=>rfl⟩,gxb,.inl ⟨rfl,rfl,rfl⟩,.inl ⟨rfl,rfl,rfl⟩,fun c hc=>(by cases hc),fun c hc=>(by cases hc),fun c hc=>(by cases hc)⟩,p12⟩)) ?_;rotate_left
 ·rintro o ⟨F',inr⟩ Z ⟨rfl,q0,hk,i,mi,cs,C,ws,xa,xw,hik,hR,_⟩;simp only at q0 hk;subst q0;obtain rfl:i=many:=by omega
  exact hQ F' Z mi cs C ws xa xw hk hR
 rintro k ⟨G,inr⟩ Y ⟨q0,hk,i,mi,cs,C,ws,xa,xw,hik,hR,g12⟩;simp only at q0 hk g12;subst q0;have g0:aD 0 G= .ptr mb 0:=(hk 0 (by omega)).trans p0;have g1:aD 1 G= .int .i64 (lev:Int):=(hk 1 (by omega)).trans p1;have g2:aD 2 G=v:=(hk 2 (by omega)).trans p2;have g8:aD 8 G= .ptr tb 0:=(hk 8 (by omega)).trans p8;have g9:aD 9 G= .int .i64 (many:Int):=(hk 9 (by omega)).trans p9;have g11:aD 11 G= .ptr xb 0:=(hk 11 (by omega)).trans p11;refine iP ?_;simp only[↓sU,sD,rE,↓reduceIte,rA,g9,g12];by_cases hlt:i<many;rotate_left
 ·refine aO (by simp only[↓sU,sD,rE,↓reduceIte,rA,Aa (show ¬ (i:Int)<(many:Int) by omega)]) (bK ?_);simp only[↓sU,sD,rE,↓reduceIte,rA];have hk0:k=0:=by omega
  subst hk0;refine⟨rfl,fun j hj=>?_,i,mi,cs,C,ws,xa,xw,hik,hR,au g12⟩;rw[←hk j hj];have:j=0∨j=1∨j=2∨j=3∨j=4∨j=5∨j=6∨j=7∨j=8∨j=9∨j=10∨j=11:=by omega
  rcases this with rfl | rfl | rfl | rfl | rfl | rfl | rfl | rfl | rfl | rfl | rfl | rfl<;>simp only[↓sU,sD,rE,↓reduceIte,rA]
 refine aR (by simp only[↓sU,sD,rE,↓reduceIte,rA,Ad (show(i:Int)<(many:Int) by omega)]) (aM ?_);try simp only[↓sU,sD,rE,↓reduceIte,rA]
 have w1:IntKind.i64.wrap ((i:Int)+1)=((i+1:Nat):Int):=by rw[wrap_i64 (by omega) (by omega)];omega
 have gtY:=((hR.frm tb ltb ptb).2 ntx).trans gtb;have t0:=cS (p:=0) gtY rfl;refine aC (aN (aC (bD (Q:=fun o A' Z=>o= .normal∧A'.inr=false∧(∀j,j<13→aD j A'.F=aD j G)∧∃ws' xw',KdR P S0 X X1 mb db xb LV (LV.length - (lev+1)) m1 xk xp xf pl Z i (i+1) mi cs C ws' xa xw') (aC (aG ?_)) ?_)))
 ·simp only[↓sU,sD,rE,↓reduceIte,rA,g8,aE,aF,t0];by_cases hpl:pl<0
  ·refine aR (by simp only[↓sU,sD,rE,↓reduceIte,rA,Ad hpl]) ?_;have hmk:lR (fun c=>Pin P X xb xa xw c∧c<Y.nx) S0 Y mb db mi LV:=hR.mkb.mono fun c hc h=>⟨h,hc⟩;have hlw:=(hR.wts.1 hpl).1;refine aLb (Y0:=X1) (mb:=mb) (db:=db) (xb:=xb) (m:=mi) (LV:=LV) (pv:=xw) (l:=ws) H rfl hmk (au g0) (au g11) hR.gx ⟨(hR.frm xb lxb pxb).1,fun h=>h.1.2.1 rfl⟩ lxb hR.nx hR.gw (fun c hc=>⟨hR.pw c hc,fun h=>h.1.2.2.2 hc⟩) (fun c hc h=>by have:=h.2;omega) (by omega) ?_;intro F' Z xw' w hk' hZ nZ kZ gZ hgZ hbZ w2 w3;have lowa:∀ {c},aT xa=some c→X1.nx≤c∧c<Y.nx:=fun hc=>⟨(hR.ga.blk hc).1,(hR.ga.blk hc).2.1⟩;refine⟨rfl,rfl,fun j hj=>?_,ws++ [w],xw',hZ.mono fun c hc h=>⟨h.1.1,h.1.2.1,h.1.2.2.1,fun e=>by have:=hbZ c e;have:=h.2;omega⟩,hR.bld,hR.forT,hR.len,⟨fun _=>⟨by rw[Ai,An,hlw],fun u hu=>?_⟩,fun h=>absurd hpl h⟩,Ap hR.nx nZ,fun c hc hp=>⟨(hR.frm c hc hp).1,fun hne=>(kZ c (Ah hc hR.nx) (hR.frm c hc hp).1 hne (fun e=>by have:=(hR.gw.blk e).1;omega)).trans ((hR.frm c hc hp).2 hne)⟩,gZ,hR.ga.move nZ fun c hc=>kZ c (lowa hc).2 (hR.pa c hc) (by have:=(lowa hc).1;omega) (hR.ne c hc),hgZ,hR.pa,fun c hc=>hR.mkb.p.fresh (hbZ c hc),fun c hc e=>by have:=hbZ c e;have:=(lowa hc).2;omega⟩
   ·have hj16:=hk' j (by omega);rw[hj16];have:j=0∨j=1∨j=2∨j=3∨j=4∨j=5∨j=6∨j=7∨j=8∨j=9∨j=10∨j=11∨j=12:=by omega
    rcases this with rfl | rfl | rfl | rfl | rfl | rfl | rfl | rfl | rfl | rfl | rfl | rfl | rfl<;>simp only[↓sU,sD,rE,↓reduceIte,rA]
   ·rcases Bf.1 hu with h | h
    ·exact(hR.wts.1 hpl).2 u h
    ·rw[Cb.1 h];exact⟨w2,w3⟩
  ·refine aO (by simp only[↓sU,sD,rE,↓reduceIte,rA,Aa hpl]) (aM ?_);refine am ?_;refine⟨fun j hj=>?_,ws,xw,⟨hR.mkb,hR.bld,hR.forT,hR.len,⟨fun h=>absurd h hpl,hR.wts.2⟩,hR.nx,hR.frm,hR.gx,hR.ga,hR.gw,hR.pa,hR.pw,hR.ne⟩⟩;have:j=0∨j=1∨j=2∨j=3∨j=4∨j=5∨j=6∨j=7∨j=8∨j=9∨j=10∨j=11∨j=12:=by omega
   rcases this with rfl | rfl | rfl | rfl | rfl | rfl | rfl | rfl | rfl | rfl | rfl | rfl | rfl<;>simp only[↓sU,sD,rE,↓reduceIte,rA]
 clear hR gtY t0;rintro o ⟨G1,inr⟩ Z ⟨rfl,q0,k1,ws',xw',hZ⟩;simp only at q0 k1;subst q0;have b0:aD 0 G1= .ptr mb 0:=(k1 0 (by omega)).trans g0;have b1:aD 1 G1= .int .i64 (lev:Int):=(k1 1 (by omega)).trans g1;have b2:aD 2 G1=v:=(k1 2 (by omega)).trans g2;have b8:aD 8 G1= .ptr tb 0:=(k1 8 (by omega)).trans g8;have b11:aD 11 G1= .ptr xb 0:=(k1 11 (by omega)).trans g11;have b12:aD 12 G1= .int .i64 (i:Int):=(k1 12 (by omega)).trans g12;have gtZ:=((hZ.frm tb ltb ptb).2 ntx).trans gtb;have hps:=hpre.ps;have hseenZ:vF (fun c=>PB mb db mi c∧P c) Z v rows:=hseen.move hZ.nx fun c hc hp=>⟨(hZ.frm c hc hp.1).2 (by have:=hP c hp.2;omega),(hZ.frm c hc hp.1).1,hp.2⟩;try simp only[↓sU,sD,rE,↓reduceIte,rA]
 refine cC ?_;refine am ?_;refine iP ?_;refine am ?_;refine aIo (tb:=tb) (lev:=lev) (pl:=pl) (many:=mn) (sn:=sn) (i:=(i:Int)) hseenZ hrl (by omega) (by omega) (au b2) (au b8) gtZ (by have:=hZ.nx;omega) hsn (au b12) (aq) (ar) ?_;intro F3 Z3 nv A' k3 e13 s3 hlA hlenA hsA;have c0:=k3 0 (by omega);have c1:=k3 1 (by omega);have c11:=k3 11 (by omega);have c12:=k3 12 (by omega);simp only[↓sU,sD,rE,↓reduceIte,rA,b0,b1,b11,b12] at c0 c1 c11 c12;try simp only[↓sU,sD,rE,↓reduceIte,rA]
 have hZ3:=hZ.same lxb s3;have hm3:lR (fun c=>Pin P X xb xa xw' c∧c<Z3.nx) S0 Z3 mb db mi LV:=hZ3.mkb.mono fun c hc h=>⟨h,hc⟩;have hnd:mi.nodes.length=m1.nodes.length+C.length:=by rw[hZ3.bld.nodes,Ai]
 have hpn:=hZ3.bld.pend;have lowa:∀ {c},aT xa=some c→X1.nx≤c∧c<Z.nx:=fun hc=>⟨(hZ.ga.blk hc).1,(hZ.ga.blk hc).2.1⟩;have loww:∀ {c},aT xw'=some c→X1.nx≤c∧c<Z.nx:=fun hc=>⟨(hZ.gw.blk hc).1,(hZ.gw.blk hc).2.1⟩;have nZ3:=hZ3.nx;have hcl:=hZ3.len;refine aOq (Y0:=X1) (mb:=mb) (db:=db) (xb:=xb) (m:=mi) (LV:=LV) (xa:=xa) (l:=cs) (nv:=nv) (lev:=(lev:Int)) (G:=fun c m'=>c=((mi.nodes.length:Nat):Int)∧∃B,xX mi m' B 1∧zA (LV.length - (lev+1)) mi.nodes.length B) rfl hm3 (fun c h=>h.2) c0 c1 (by omega) c11 e13 hZ3.gx ⟨(hZ3.frm xb lxb pxb).1,fun h=>h.1.2.1 rfl⟩ lxb hZ3.nx hZ3.ga (fun c hc=>⟨hZ3.pa c hc,fun h=>h.1.2.2.1 hc⟩) (by omega) ?_ ?_
 ·intro X4 x4;have hcall:=hIH X4 (fun c=>Pin P X xb xa xw' c∧c<Z3.nx) mi nv A' (hm3.same x4) (by have:=x4.1;omega) (hZ3.bld.pre hpre (by omega)) (by omega) (hsA.move x4.1 fun c hc hp=>⟨x4.2 c hc,hZ.mkb.p.fresh hp.1,⟨.inr (by have:=hZ.nx;omega),by have:=hZ.nx;omega,fun e=>by have:=(lowa e).2;omega,fun e=>by have:=(loww e).2;omega⟩,hp.2⟩) (by rw[hlA,hrn,hZ3.bld.ps]) hlenA (fun p hp=>by rw[hZ3.bld.ps];exact hLP p hp);rw[show((lev:Int)+1)=((lev+1:Nat):Int) by omega];refine aP hcall ?_;rintro r W ⟨rfl,m',B,hB,hT,hW,bW⟩;exact⟨_,m',rfl,⟨rfl,B,hB,hT⟩,hW,bW⟩
 ·rintro F5 W xa' c m' k5 ⟨rfl,B,hB,hT⟩ hW nW pW kW gxW gaW paW;have d12:=k5 12 (by omega);rw[c12] at d12;try simp only[↓sU,sD,rE,↓reduceIte,rA]
  refine aG ?_;simp only[↓sU,sD,rE,↓reduceIte,rA,d12,w1];have hbt:=hZ3.bld.trans hB;rw[show((i:Int)+1)=((i+1:Nat):Int) by omega] at hbt;have hft:=hZ3.forT.snoc (B:=B) (by rw[←hnd];exact hT);rw[←hnd] at hft;have hxaz:∀ {c},aT xa'=some c→Z3.nx≤c:=fun hc=>(paW _ hc).1;refine⟨k - 1,by omega,rfl,fun j hj=>?_,i+1,m',cs++ [((mi.nodes.length:Nat):Int)],C++B,ws',xa',xw',by omega,⟨hW.mono fun c hc h=>?_,hbt,hft,by rw[Ai,An,hcl],hZ3.wts,by omega,fun c hc hp=>⟨pW c (by omega) (hZ3.frm c hc hp).1,fun hne=>(kW c (by omega) (hZ3.frm c hc hp).1 hne (fun e=>by have:=(lowa e).1;omega)).trans ((hZ3.frm c hc hp).2 hne)⟩,gxW,gaW,hZ3.gw.move nW fun c hc=>kW c (by have:=(loww hc).2;have:=s3.1;omega) (hZ3.pw c hc) (by have:=(loww hc).1;omega) (fun e=>hZ3.ne c e hc),fun c hc=>(paW c hc).2,fun c hc=>pW c (by have:=(loww hc).2;have:=s3.1;omega) (hZ3.pw c hc),fun c hc e=>by have:=hxaz hc;have:=(loww e).2;have:=s3.1;omega⟩,aq⟩
  ·have e5:=k5 j (by omega);have e3:=k3 j (by omega);rw[←hk j hj,←k1 j (by omega)];have:j=0∨j=1∨j=2∨j=3∨j=4∨j=5∨j=6∨j=7∨j=8∨j=9∨j=10∨j=11:=by omega
   rcases this with rfl | rfl | rfl | rfl | rfl | rfl | rfl | rfl | rfl | rfl | rfl | rfl<;>(simp only[↓sU,sD,rE,↓reduceIte,rA] at e3;simp only[↓sU,sD,rE,↓reduceIte,rA,e5,e3])
  ·rcases h.1 with h1 | h1
   ·exact⟨h1.1.1,h1.1.2.1,h.2,h1.1.2.2.2⟩
   ·exact⟨.inr (by omega),by omega,h.2,fun e=>by have:=(loww e).2;have:=s3.1;omega⟩
def aAu:bU:=⟨0,0,0,[],[],[]⟩
theorem aGc{A C:List bU}{x y:bU}:(A++ [y]++C).set A.length x=A++(x::C):=by
 rw[Ba,List.set_append_right _ _ (Ag _),Cu];rfl
theorem aOI{lev:Nat}{m m':Mk}{x:bU}(hp:aEb lev m)(hp1:1≤m.pend)(hx:aNB m.ps x)(h1:m'.nodes=m.nodes++ [x])(h2:m'.infos=m.infos)(h3:m'.views=m.views)(h4:m'.most=m.most)(h5:m'.ps=m.ps)(h6:m'.pend=m.pend - 1):xX m m' [x] 1 where
 nodes:=h1
 ok:=fun y hy=>by rw[Cb.1 hy];exact .inl hx
 ord:=fun lab hl=>by
  have e:lbl x=Option.none:=by unfold lbl;rw[if_neg (by rw[hx.kind];decide)]
  rw[h2];show oK (lab++ [lbl x]) _;rw[e];exact .none hl
 inf:=⟨[],by rw[h2,Bz]⟩
 vws:=⟨[],by rw[h3,Bz]⟩
 vok:=⟨by rw[h2,h3];exact hp.vok.len,fun j v hv=>by rw[h3] at hv;rw[h2,h5];exact hp.vok.at_ j v hv⟩
 used:=fun j h7 h8=>by rw[h2] at h8;omega
 most:=h4
 ps:=h5
 pend:=h6
 fit:=by
  have:=hp.fit;rw[h1,h6,h4,Ai,An];omega
 il:=by
  have:=hp.il;rw[h1,h2,Ai,An];omega
structure aNr(lev:Nat)(m2 m3:Mk)(pl info many:Int):Prop where
 nodes:m3.nodes=m2.nodes
 most:m3.most=m2.most
 ps:m3.ps=m2.ps
 pend:m3.pend=m2.pend
 vok:aCi m3
 info0:0≤info
 many1:1≤many∧many≤3
 cases:(m3.infos=m2.infos∧m3.views=m2.views∧((pl<0∧info=0)∨(0≤pl∧m2.infos[info.toNat]? =some ⟨pl,many⟩∧aBl m2 info)))∨(0≤pl∧info=((m2.infos.length:Nat):Int)∧m3.infos=m2.infos++ [⟨pl,many⟩]∧m3.views=m2.views++ [(pl,(lev:Int),info)])
theorem aEU{lev:Nat}{m2 m3:Mk}{pl info many:Int}(h:aNr lev m2 m3 pl info many)(hnd:∀x∈m2.nodes,x.kind=2→x.info<((m2.infos.length:Nat):Int)):
  ((pl<0∨info≠((m3.infos.length:Nat):Int) - 1∨aBl m3 info)→m3.infos=m2.infos∧m3.views=m2.views)∧((0≤pl∧info=((m3.infos.length:Nat):Int) - 1∧¬aBl m3 info)→m3.infos.dropLast=m2.infos∧m3.views.dropLast=m2.views):=by
 rcases h.cases with⟨h1,h2,h3⟩ | ⟨h1,h2,h3,h4⟩
 ·refine⟨fun _=>⟨h1,h2⟩,fun⟨a,b,c⟩=>?_⟩;rcases h3 with⟨h5,_⟩ | ⟨_,_,h5⟩
  ·omega
  ·exact absurd (by obtain⟨x,hx,hk⟩:=h5;exact⟨x,by rw[h.nodes];exact hx,hk⟩) c
 ·refine⟨fun ho=>?_,fun _=>⟨by rw[h3,List.dropLast_concat],by rw[h4,List.dropLast_concat]⟩⟩;rcases ho with ho | ho | ho
  ·omega
  ·rw[h3,Ai,An] at ho;omega
  ·obtain⟨x,hx,hk,hi⟩:=ho;rw[h.nodes] at hx;have:=hnd x hx hk;omega
def gS(pl info:Int)(cs ws:List Int):bU:=if pl<0 then⟨1,0,0,cs,ws,[]⟩ else⟨2,pl,info,cs,ws,[]⟩
theorem aM1{lev K:Nat}{m m2 m3 m5 mi m':Mk}{pl info many:Int}{cs ws:List Int}{C:List bU}{i:Nat}(hp:aEb lev m)(hp1:1≤m.pend)(hpl:pl<m.ps)(e2:m2.nodes=m.nodes++ [aAu]∧m2.infos=m.infos∧m2.views=m.views∧m2.most=m.most∧m2.ps=m.ps∧m2.pend=m.pend - 1)(hf:aNr lev m2 m3 pl info many)(e5:m5.nodes=m3.nodes∧m5.infos=m3.infos∧m5.views=m3.views∧m5.most=m3.most∧m5.ps=m3.ps∧m5.pend=m3.pend+many)(hb:xX m5 mi C (i:Int))(hi:(i:Int)=many)(hcs:cs.length=i)(hft:aE9 K m5.nodes.length cs C)(hws:(pl<0→ws.length=i∧∀w∈ws,1≤w∧w≤3)∧(¬pl<0→ws= []))
  (h1:m'.nodes=mi.nodes.set m.nodes.length (gS pl info cs ws)) (h2:m'.infos=mi.infos) (h3:m'.views=mi.views) (h4:m'.most=mi.most) (h5:m'.ps=mi.ps) (h6:m'.pend=mi.pend):xX m m' (gS pl info cs ws::C) 1∧zA (K+1) m.nodes.length (gS pl info cs ws::C):=by
 obtain⟨a1,a2,a3,a4,a5,a6⟩:=e2;obtain⟨c1,c2,c3,c4,c5,c6⟩:=e5;have hN:mi.nodes=m.nodes++ [aAu]++C:=by rw[hb.nodes,c1,hf.nodes,a1]
 have hN':m'.nodes=m.nodes++(gS pl info cs ws::C):=by rw[h1,hN,aGc]
 have hm1:=hf.many1;have hi0:=hf.info0;obtain⟨I5,hI5⟩:=hb.inf;obtain⟨V5,hV5⟩:=hb.vws;have hil:∃I,m5.infos=m.infos++I:=by
  rcases hf.cases with⟨b1,_,_⟩ | ⟨_,_,b1,_⟩
  ·exact⟨[],by rw[c2,b1,a2,Bz]⟩
  ·exact⟨_,by rw[c2,b1,a2]⟩
 have hvl:∃V,m5.views=m.views++V:=by
  rcases hf.cases with⟨_,b1,_⟩ | ⟨_,_,_,b1⟩
  ·exact⟨[],by rw[c3,b1,a3,Bz]⟩
  ·exact⟨_,by rw[c3,b1,a3]⟩
 obtain⟨I,hI⟩:=hil;obtain⟨V,hV⟩:=hvl;have hps:mi.ps=m.ps:=by rw[hb.ps,c5,hf.ps,a5]
 have hnext:(gS pl info cs ws).next=cs:=by unfold gS;split<;>rfl
 have hok:mF m.ps mi.infos (gS pl info cs ws):=by
  unfold gS;by_cases hpn:pl<0
  ·rw[if_pos hpn];obtain⟨w1,w2⟩:=hws.1 hpn;exact .inr (.inl ⟨rfl,rfl,rfl,rfl,by show 1≤cs.length;omega,by show cs.length≤3;omega,by show ws.length=cs.length;omega,w2⟩)
  ·rw[if_neg hpn];have hat:mi.infos[info.toNat]? =some ⟨pl,((cs.length:Nat):Int)⟩:=by
    rw[hcs,hi,hI5];rcases hf.cases with⟨b1,_,b3⟩ | ⟨_,b2,b1,_⟩
    ·rcases b3 with⟨b3,_⟩ | ⟨_,b3,_⟩
     ·exact absurd b3 hpn
     ·rw[c2,b1,Av (Af.1 b3).1];exact b3
    ·rw[c2,b1,b2,Cj,Av (by simp),Aw (Ag _),Cu];rfl
   exact .inr (.inr ⟨rfl,hws.2 hpn,rfl,by show 1≤cs.length;omega,by show cs.length≤3;omega,⟨by show 0≤pl;omega,hpl⟩,hi0,hat⟩)
 refine⟨⟨hN',fun x hx=>?_,fun lab hl=>?_,⟨I++I5,by rw[h2,hI5,hI,Ba]⟩,⟨V++V5,by rw[h3,hV5,hV,Ba]⟩,⟨by rw[h2,h3];exact hb.vok.len,fun j v hv=>by rw[h3] at hv;rw[h2,h5];exact hb.vok.at_ j v hv⟩,fun j j1 j2=>?_,by rw[h4,hb.most,c4,hf.most,a4],by rw[h5,hps],by rw[h6,hb.pend,c6,hf.pend,a6];omega,?_,?_⟩,?_⟩
 ·rw[h2];rcases Bi.1 hx with rfl | hx
  ·exact hok
  ·have:=hb.ok x hx;rw[c5,hf.ps,a5] at this;exact this
 ·rw[h2];have hl5:oK (lab++ [lbl (gS pl info cs ws)]) m5.infos.length:=by
   rcases hf.cases with⟨b1,_,b3⟩ | ⟨b0,b2,b1,_⟩
   ·rw[c2,b1,a2];rcases b3 with⟨b3,_⟩ | ⟨b3,b4,_⟩
    ·have e:lbl (gS pl info cs ws)=Option.none:=by unfold gS;rw[if_pos b3];rfl
     rw[e];exact .none hl
    ·have e:lbl (gS pl info cs ws)=some info.toNat:=by unfold gS;rw[if_neg (by omega)];rfl
     rw[e];have:=(Af.1 b4).1;rw[a2] at this;exact .old hl this
   ·have e:lbl (gS pl info cs ws)=some info.toNat:=by unfold gS;rw[if_neg (by omega)];rfl
    rw[e,c2,b1,b2,Cj,a2,Ai,An];exact .new hl
  have:=hb.ord _ hl5;rw[Ba] at this;exact this
 ·rw[h2] at j2;by_cases hj:j<m5.infos.length
  ·rcases hf.cases with⟨b1,_,_⟩ | ⟨b0,b2,b1,_⟩
   ·rw[c2,b1,a2] at hj;omega
   ·rw[c2,b1,a2,Ai,An] at hj;refine⟨_,Cd ..,?_,?_⟩
    ·unfold gS;rw[if_neg (by omega)]
    ·unfold gS;rw[if_neg (by omega)];show info=_;rw[b2,a2];omega
  ·obtain⟨x,hx,hk⟩:=hb.used j (by omega) j2;exact⟨x,Bq _ hx,hk⟩
 ·have:=hb.fit;rw[hN',h6,h4];rw[hN] at this;simp only[Ai,Am,Bo] at this ⊢;omega
 ·have:=hb.il;rw[hN',h2];rw[hN] at this;simp only[Ai,Am,Bo] at this ⊢;omega
 ·refine zA.node ?_;rw[hnext];have e:m5.nodes.length=m.nodes.length+1:=by rw[c1,hf.nodes,a1,Ai];rfl
  rw[←e];exact hft
theorem aMi{lev:Nat}{m m2 m3 m5:Mk}{pl info many:Int}(hp:aEb lev m)(hp1:1≤m.pend)(e2:m2.nodes=m.nodes++ [aAu]∧m2.infos=m.infos∧m2.views=m.views∧m2.most=m.most∧m2.ps=m.ps∧m2.pend=m.pend - 1)(hf:aNr lev m2 m3 pl info many)(e5:m5.nodes=m3.nodes∧m5.infos=m3.infos∧m5.views=m3.views∧m5.most=m3.most∧m5.ps=m3.ps∧m5.pend=m3.pend+many)(hfit:((m.nodes.length:Nat):Int)+1+(m.pend - 1)+many≤m.most):aEb (lev+1) m5:=by
 obtain⟨a1,a2,a3,a4,a5,a6⟩:=e2;obtain⟨c1,c2,c3,c4,c5,c6⟩:=e5;have hm1:=hf.many1;have hN:m5.nodes=m.nodes++ [aAu]:=by rw[c1,hf.nodes,a1]
 have hil:=hp.il;have hlen5:m.infos.length≤m5.infos.length∧m5.infos.length≤m.infos.length+1:=by
  rcases hf.cases with⟨b1,_,_⟩ | ⟨_,_,b1,_⟩
  ·rw[c2,b1,a2];omega
  ·rw[c2,b1,a2,Ai,An];omega
 refine⟨⟨by rw[c2,c3];exact hf.vok.len,fun j v hv=>by rw[c3] at hv;rw[c2,c5];exact hf.vok.at_ j v hv⟩,fun j v hv=>?_,fun x hx hk=>?_,by rw[hN,c4,hf.most,a4,c6,hf.pend,a6,Ai,An];omega,by rw[c6,hf.pend,a6];omega,by rw[c4,hf.most,a4];exact hp.most,by rw[hN,Ai,An];omega,by rw[c5,hf.ps,a5];exact hp.ps⟩
 ·rw[c3] at hv;have old:m.views[j]? =some v→v.2.1<((lev+1:Nat):Int)∨aBl m5 v.2.2:=fun h=>(hp.lv j v h).elim (fun h=>.inl (by omega)) fun h=>.inr (h.mono hN);rcases hf.cases with⟨_,b1,_⟩ | ⟨_,_,_,b1⟩
  ·rw[b1,a3] at hv;exact old hv
  ·rw[b1,a3] at hv;by_cases hj:j<m.views.length
   ·rw[Av hj] at hv;exact old hv
   ·rw[Aw (by omega)] at hv;have h0:j - m.views.length=0:=by
     rcases Ca (j - m.views.length) with h | h
     ·exact h
     ·rw[Bn (by simp;omega)] at hv;cases hv
    rw[h0] at hv;cases hv;exact .inl (by show(lev:Int)<_;omega)
 ·rw[hN] at hx;rcases Bf.1 hx with h | h
  ·have:=hp.nd x h hk;omega
  ·rw[Cb.1 h] at hk;cases hk
end Go.Ev.Gl
