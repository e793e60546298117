import Derived.Test.YtbmodoaceepfoaaGl8
set_option linter.all false
open Nat renaming reduceEqDiff -> rE, reduceAdd -> rA
set_option maxHeartbeats 0
namespace Go.Ev.Gl
variable {fns:T eY}
variable {S S0 S1 X:St}{b i n j sz t:Nat}{nv iv x y mv v:AV}{g:aX}{h:Ev.T AB}{ok:Prop}{P:St->St->AV->AV->Prop}{l:bu}{cs' cs:cd}{F:Fr}
def kJ.same{d:St}{f a:Nat}{pv:AV}{R Z:bu}(h:kJ S f a b pv nv iv g R Z)(c:Same S d):kJ d f a b pv nv iv g R Z:=
 ⟨h.w.same c,(c.2 _ h.bp).trans h.gp,(c.2 _ h.bz).trans h.gz,h.lp,h.lz,Ae h.bp c.1,Ae h.bz c.1⟩
def aR9(fns:Ev.T eY)(S:St)(nv iv mv:AV)(g:aX)(m:bu)(ok:Prop)(P:St->St->AV->AV->Prop):Prop:=
 dC g=0->m.length=g.cg.length->aBg m g.cg.length->¬aFr m->∀ (S0:St) (d b c:Nat) (pv:AV) (T:List cS) (Z:bu),Same S S0->gP g=some T->T.length=g.cg.length->bN .i64 S0 pv (T.map (·.1))->kJ S0 d b c pv nv iv g (mO g) Z->
  iI fns (.fn 78 [] []) [.ptr d 0,mv] S0 fun r a=>Same S0 a/\∃x y t,r= .tup [.agg [x,y],.bool t]/\(t=true↔ok)/\(t=true->P S0 a x y)
noncomputable def aAd(g:aX)(m:bu)(ok:Prop):Int:=if dC g≠0 then dC g else lE g.cg.length m ok
abbrev aI6(P:St->St->AV->AV->Prop):Prop:=∀ {S0 S1 a:St} {x y:AV},P S0 S1 x y->S1.nx<=a.nx->(∀c,S0.nx<=c->c<S1.nx->a.h.get c=S1.h.get c)->P S0 a x y
def aUS{o:Bool}{s:Nat}(a:h.get b=some (.cells [x,y] o s)):eK (.ptr b (0+0)) false 1 h=some x:=ldc a rfl
def aUg{o:Bool}{s:Nat}(a:h.get b=some (.cells [x,y] o s)):eK (.ptr b (0+1)) false 1 h=some y:=ldc a rfl
def aJm{m:bu}(H:Has fns)(B:aI6 P)(C:aG 6 cF S nv g.cg)(hi:aG 2 cE S iv g.ch)(G:bN .i64 S mv m)(k:g.cg.length<=100000)(l:aR9 fns S nv iv mv g m ok P):
  iI fns (.fn 49 [] []) [.agg [je g.cm,nv,iv],mv] S fun r o=>Same S o/\∃x y,r= .tup [x,je (aAd g m ok)]/\(aAd g m ok≠0->x= .ct)/\(aAd g m ok=0->∃S0,S.nx<=S0.nx/\P S0 o x y):=by
 refine cK H.f49 (by simp) ?_;refine ae ?_;refine cA ?_;refine cR (by refine ae ?_;exact aY _) ?_;intro S1 s1 n1 J;refine ae ?_;refine cA (de (gK J) ?_);refine bK (ae ?_);refine aW (aCz H (aG.same (E:=cF) bQ C s1) (aG.same (E:=cE) cB hi s1) k) ?_;rintro _ X ⟨K,p,rfl,q⟩;have j:=s1.trans K;refine ew @xP @xN ?_;refine gH (ae ?_);by_cases d:dC g=0;rotate_left
 .have L:aAd g m ok=dC g:=by unfold aAd;rw[if_pos d]
  rw[L];refine aS (iu (Ac (show dC g≠0 from d))) ?_;refine cA (ae ?_);refine aT (ae ?_);exact⟨j,.ct,.ct,rfl,fun _=>rfl,fun h=>absurd h d⟩
 have M:aAd g m ok=lE g.cg.length m ok:=by unfold aAd;rw[if_neg (fun h=>h d)]
 rw[M];refine aQ (iu (Aa (show ¬dC g≠0 from fun h=>h d))) (aK ?_);refine ae ?_
 obtain⟨N,s,t,pv,T,Z,rfl,_,O,u,v,D⟩:=q d;refine cA (am ?_);refine bK (am ?_);refine aW (aAt (P:=P) (ok:=ok) H B D.w (aG.same (E:=cF) bQ C j) (G.same j) k fun Q R U o f=>l d Q R U o N s t pv T Z (j.trans f) O u (v.same f) (D.same f)) ?_;rintro _ Y ⟨hY,x,y,rfl,w,z⟩;have sY:=j.trans hY;refine fo @xP @xN ?_;refine bS ?_;intro Y1 y1 k1 e1;refine cQ (b:=Y.nx) (aq) (by refine am ?_;exact aY _) e1 rfl rfl ?_;intro Y2 y2 k2 e2;refine am ?_;have i:Same Y Y2:=y2.same y1 (Af _);refine cA (ft @aB @aA (aUS e2) ?_);refine aT (am ?_);refine⟨sY.trans i,x,y,rfl,fun h=>(z h).1,fun h=>?_⟩;have⟨S0,a,b⟩:=w h;exact⟨S0,Av j.1 a,B b i.1 fun c _ hc=>i.2 c hc⟩
def aGn{m:bu}(H:Has fns)(B:aI6 P)(C:aG 6 cF S nv g.cg)(hi:aG 2 cE S iv g.ch)(G:bN .i64 S mv m)(k:g.cg.length<=100000)(l:aR9 fns S nv iv mv g m ok P):
  iI fns (.fn 50 [] []) [.agg [je g.cm,nv,iv],mv] S fun r o=>Same S o/\∃x y,r= .tup [y,je (aAd g m ok)]/\(aAd g m ok≠0->y= .ct)/\(aAd g m ok=0->∃S0,S.nx<=S0.nx/\P S0 o x y):=by
 refine cK H.f50 (by simp) ?_;refine ae ?_;refine cA ?_;refine cR (by refine ae ?_;exact aY _) ?_;intro S1 s1 n1 J;refine ae ?_;refine cA (de (gK J) ?_);refine bK (ae ?_);refine aW (aCz H (aG.same (E:=cF) bQ C s1) (aG.same (E:=cE) cB hi s1) k) ?_;rintro _ X ⟨K,p,rfl,q⟩;have j:=s1.trans K;refine ew @xP @xN ?_;refine gH (ae ?_);by_cases d:dC g=0;rotate_left
 .have L:aAd g m ok=dC g:=by unfold aAd;rw[if_pos d]
  rw[L];refine aS (iu (Ac (show dC g≠0 from d))) ?_;refine cA (ae ?_);refine aT (ae ?_);exact⟨j,.ct,.ct,rfl,fun _=>rfl,fun h=>absurd h d⟩
 have M:aAd g m ok=lE g.cg.length m ok:=by unfold aAd;rw[if_neg (fun h=>h d)]
 rw[M];refine aQ (iu (Aa (show ¬dC g≠0 from fun h=>h d))) (aK ?_);refine ae ?_
 obtain⟨N,s,t,pv,T,Z,rfl,_,O,u,v,D⟩:=q d;refine cA (am ?_);refine bK (am ?_);refine aW (aAt (P:=P) (ok:=ok) H B D.w (aG.same (E:=cF) bQ C j) (G.same j) k fun Q R U o f=>l d Q R U o N s t pv T Z (j.trans f) O u (v.same f) (D.same f)) ?_;rintro _ Y ⟨hY,x,y,rfl,w,z⟩;have sY:=j.trans hY;refine fo @xP @xN ?_;refine bS ?_;intro Y1 y1 k1 e1;refine cQ (b:=Y.nx) (aq) (by refine am ?_;exact aY _) e1 rfl rfl ?_;intro Y2 y2 k2 e2;refine am ?_;have i:Same Y Y2:=y2.same y1 (Af _);refine cA (ft @aB @aA (aUg e2) ?_);refine aT (am ?_);refine⟨sY.trans i,x,y,rfl,fun h=>(z h).2,fun h=>?_⟩;have⟨S0,a,b⟩:=w h;exact⟨S0,Av j.1 a,B b i.1 fun c _ hc=>i.2 c hc⟩
def cu(g:aX)(i:Nat):cJ:=g.cg.getD i ⟨0,0,0,[],[],[]⟩
def gE(m:bu)(i:Nat):Nat:=(m.getD i 0).toNat
def jZ(g:aX)(m:bu)(i k:Nat):Int:=lM (cu g (gE m i)).next 0 (m.getD ((cu g i).next.getD k 0).toNat 0)
structure jD(g:aX)(m:bu):Prop where
 root:m.getD 0 0=0
 like:∀i,i<g.cg.length->(cu g i).kind=(cu g (gE m i)).kind/\(cu g i).next.length=(cu g (gE m i)).next.length/\(cu g i).pay=(cu g (gE m i)).pay/\(cu g i).player=(cu g (gE m i)).player
 kid:∀i k,i<g.cg.length->k<(cu g i).next.length->0<=jZ g m i k
 weigh:∀i k,i<g.cg.length->k<(cu g i).next.length->(cu g i).kind=1->(cu g i).weights.getD k 0=(cu g (gE m i)).weights.getD (jZ g m i k).toNat 0
 info:∀i j,i<g.cg.length->j<g.cg.length->(cu g i).kind=2->(cu g j).kind=2->(cu g i).info=(cu g j).info->(cu g (gE m i)).info=(cu g (gE m j)).info/\∀k,k<(cu g i).next.length->jZ g m i k=jZ g m j k
 inj:∀i j,i<g.cg.length->j<g.cg.length->(cu g i).kind=2->(cu g j).kind=2->(cu g (gE m i)).info=(cu g (gE m j)).info->(cu g i).info=(cu g j).info
def eG(g:aX)(s:Nat):Nat:=jA g.cg 0 s - 1
def dx(g:aX)(m:bu):bu:=(List.range g.ch.length).map fun s=>(cu g (gE m (eG g s))).info
def dy(g:aX)(m:bu):bt:=(List.range g.ch.length).map fun s=>(List.range (cu g (eG g s)).next.length).map fun k=>jZ g m (eG g s) k
def aFb{x:cJ}(h:g.cg[i]? =some x):cu g i=x:=by unfold cu;rw[Ad,h];rfl
def dI(h:i<g.cg.length):g.cg[i]? =some (cu g i):=by unfold cu;rw[Ad,Ab h];rfl
def gR(g:aX)(i:Nat):dN g i=(cu g i).next:=by
 unfold dN cu;rw[Ad];cases g.cg[i]? <;>rfl
theorem aF2{i:Nat}:∀ {l:List cJ} {s:Nat},jA l s i≠0->∃j x,l[j]? =some x/\jA l s i=s+j+1/\x.kind=2/\x.info=(i:Int)
 | [],s,h=>absurd rfl h
 | x::l,s,h=>by
  simp only[jA] at h ⊢;by_cases a:x.kind=2/\x.info=(i:Int)
  .rw[if_pos a];exact⟨0,x,rfl,rfl,a.1,a.2⟩
  .rw[if_neg a] at h ⊢;have⟨j,y,b,c,d,f⟩:=aF2 h;exact⟨j+1,y,by rw[Ea];exact b,by rw[c];omega,d,f⟩
def aM2{ps:Int}{x:cJ}(h:gQ ps b x=0)(c:ps<=4):x.pay.length<=4:=by
 unfold gQ at h;split at h
 .split at h
  .cases h
  .rename_i a;unfold oL at a;omega
 .split at h
  .split at h
   .cases h
   .rename_i a;unfold vD at a;omega
  .split at h
   .split at h
    .cases h
    .rename_i a;unfold oM at a;omega
   .cases h
structure eO(g:aX):Prop where
 n1:0<g.cg.length
 n2:g.cg.length<=2000
 ni:g.ch.length<=200
 nxt:∀i,i<g.cg.length->(cu g i).next.length<=1000
 pay:∀i,i<g.cg.length->(cu g i).pay.length<=4
 wts:∀i,i<g.cg.length->(cu g i).kind=1->(cu g i).weights.length=(cu g i).next.length
 inf:∀i,i<g.cg.length->(cu g i).kind=2->0<=(cu g i).info/\(cu g i).info<g.ch.length/\(cv g (cu g i).info).cr=(((cu g i).next.length:Nat):Int)
 fst:∀s,s<g.ch.length->eG g s<g.cg.length/\(cu g (eG g s)).kind=2/\(cu g (eG g s)).info=(s:Int)
 walk:∃T,gP g=some T/\T.length=g.cg.length/\WF (dN g) 0 (-1) T
theorem iN(h:dC g=0):eO g:=by
 unfold dC at h;split at h
 .cases h
 rename_i r;split at h
 .rename_i p;exact absurd h p
 rename_i f;have f:=Dx.1 f;cases k:gP g with
 | none=>rw[k] at h;cases h
 | some T=>
  rw[k] at h;simp only at h;split at h
  .cases h
  rename_i z;split at h
  .cases h
  unfold vR at h;split at h
  .cases h
  rename_i l;split at h
  .cases h
  rename_i o;unfold nL at r;have c:∀i,i<g.cg.length->cu g i∈g.cg:=fun i hi=>Ar (dI hi);refine⟨au,au,au,fun i hi=>aCF (jF f _ (c i hi)),fun i hi=>aM2 (jF f _ (c i hi)) au,fun i hi q=>?_,fun i hi q=>?_,fun s t=>?_,T,k,au,?_⟩
  .have:=jF f _ (c i hi);unfold gQ at this;rw[if_pos q] at this;split at this
   .cases this
   .rename_i u;unfold oL at u;omega
  .have⟨a,b⟩:=aCx (jF f _ (c i hi)) q;refine⟨a,b,Decidable.byContradiction fun d=>l ⟨_,c i hi,q,fun v=>d v.2⟩⟩
  .have d:jA g.cg 0 s≠0:=fun e=>o (by
    unfold fL;exact Cq.2 ⟨s,Dk.2 t,by rw[e];rfl⟩)
   have⟨j,x,p,B,w,y⟩:=aF2 d;have e:eG g s=j:=by unfold eG;omega
   rw[e,aFb p];exact⟨(Ai.1 p).1,w,y⟩
  .unfold gP at k;exact jU k
def aDh(g:aX)(m:bu)(i:Nat):Prop:=(cu g i).kind=(cu g (gE m i)).kind/\(cu g i).next.length=(cu g (gE m i)).next.length/\(cu g i).pay=(cu g (gE m i)).pay/\(cu g i).player=(cu g (gE m i)).player
def aBL(g:aX)(m:bu)(i k:Nat):Prop:=(cu g i).kind=1->(cu g i).weights.getD k 0=(cu g (gE m i)).weights.getD (jZ g m i k).toNat 0
structure Seen(g:aX)(m:bu)(V:Nat->Prop)(W:Nat->Nat->Prop)(I:bu)(A:bt):Prop where
 li:I.length=g.ch.length
 la:A.length=g.ch.length
 ls:∀s,s<g.ch.length->(((A.getD s []).length:Nat):Int)=(cv g (s:Int)).cr
 iv:∀j,j<g.cg.length->V j->(cu g j).kind=2->I.getD (cu g j).info.toNat 0=(cu g (gE m j)).info
 iw:∀s,s<g.ch.length->0<=I.getD s 0->∃j,j<g.cg.length/\V j/\(cu g j).kind=2/\(cu g j).info=(s:Int)
 lk:∀j,j<g.cg.length->V j->aDh g m j
 kd:∀j k,j<g.cg.length->k<(cu g j).next.length->W j k->0<=jZ g m j k/\aBL g m j k/\((cu g j).kind=2->(A.getD (cu g j).info.toNat []).getD k 0=jZ g m j k)
structure aBb(g:aX)(m:bu):Prop where
 len:m.length=g.cg.length
 inn:aBg m g.cg.length
section
variable {g:aX}{m:bu}{V V':Nat->Prop}{W W':Nat->Nat->Prop}{I F:bu}{A:bt}
def aBb.at(h:aBb g m)(hi:i<g.cg.length):m.getD i 0=((gE m i:Nat):Int)/\gE m i<g.cg.length:=by
 have b:i<m.length:=by rw[h.len];exact hi
 have a:m.getD i 0∈m:=by rw[Ad,Ab b];exact Bt _
 have:=h.inn _ a;unfold gE;omega
def Seen.congr(h:Seen g m V W I A)(f:∀j,j<g.cg.length->(V j↔V' j))(o:∀j k,j<g.cg.length->k<(cu g j).next.length->W' j k->W j k):Seen g m V' W' I A:=
 ⟨h.li,h.la,h.ls,fun j d i=>h.iv j d ((f j d).2 i),fun s p q=>by have⟨j,a,b,c⟩:=h.iw s p q;exact⟨j,a,(f j a).1 b,c⟩,fun j d i=>h.lk j d ((f j d).2 i),fun j k d l r=>h.kd j k d l (o j k d l r)⟩
def oK{x:Int}(a:n<l.length):(l.set n x).getD j 0=if n=j then x else l.getD j 0:=by
 rw[Ad,Cw];split
 .rfl
 .rw[Ad]
def vN{l:bt}{x:bu}(a:n<l.length):(l.set n x).getD j []=if n=j then x else l.getD j []:=by
 rw[Ad,Cw];split
 .rfl
 .rw[Ad]
def rH(G:eO g)(M:aBb g m)(hi:i<g.cg.length)(a:aDh g m i)(b:(cu g i).kind=2):0<=(cu g (gE m i)).info/\(cu g (gE m i)).info<g.ch.length:=by
 have:=G.inf (gE m i) (M.at hi).2 (by rw[<-a.1];exact b);exact⟨this.1,this.2.1⟩
def Seen.node(h:Seen g m V W I A)(l:aDh g m i)(o:(cu g i).kind≠2):Seen g m (fun j=>V j\/j=i) W I A:=
 ⟨h.li,h.la,h.ls,fun j k d f=>by
  rcases d with d|rfl
  .exact h.iv j k d f
  .exact absurd f o,fun s p q=>by have⟨j,a,b,c⟩:=h.iw s p q;exact⟨j,a,.inl b,c⟩,fun j k d=>by
  rcases d with d|rfl
  .exact h.lk j k d
  .exact l,h.kd⟩
def Seen.nodeM(G:eO g)(M:aBb g m)(h:Seen g m V W I A)(hi:i<g.cg.length)(q:aDh g m i)(p:(cu g i).kind=2)(r:0<=I.getD (cu g i).info.toNat 0->I.getD (cu g i).info.toNat 0=(cu g (gE m i)).info):Seen g m (fun j=>V j\/j=i) W (I.set (cu g i).info.toNat (cu g (gE m i)).info) A:=by
 have⟨v,w,x⟩:=G.inf i hi p;have l:(cu g i).info.toNat<I.length:=by rw[h.li];omega
 refine⟨by rw[Aw];exact h.li,h.la,h.ls,fun j k d f=>?_,fun s t o=>?_,fun j k d=>?_,h.kd⟩
 .rw[oK l];have⟨y,z,B⟩:=G.inf j k f;rcases d with d|rfl
  .have:=h.iv j k d f;split
   .rename_i e;have u:(cu g j).info=(cu g i).info:=by omega
    rw[u] at this;have:=r (by rw[this];exact(rH G M k (h.lk j k d) f).1);omega
   .exact this
  .rw[if_pos rfl]
 .rw[oK l] at o;split at o
  .rename_i e;exact⟨i,hi,.inr rfl,p,au⟩
  .have⟨j,a,b,c⟩:=h.iw s t o;exact⟨j,a,.inl b,c⟩
 .rcases d with d|rfl
  .exact h.lk j k d
  .exact q
def Seen.kid(h:Seen g m V W I A){k:Nat}(c:0<=jZ g m i k)(d:aBL g m i k)(f:(cu g i).kind≠2):Seen g m V (fun j k'=>W j k'\/(j=i/\k'=k)) I A:=
 ⟨h.li,h.la,h.ls,h.iv,h.iw,h.lk,fun j k' l a b=>by
  rcases b with b|⟨rfl,rfl⟩
  .exact h.kd j k' l a b
  .exact⟨c,d,fun e=>absurd e f⟩⟩
def Seen.kidM(G:eO g)(h:Seen g m V W I A){k:Nat}(hi:i<g.cg.length)(t:k<(cu g i).next.length)(u:0<=jZ g m i k)(v:aBL g m i k)(w:(cu g i).kind=2)
  (x:∀j,j<g.cg.length->W j k->(cu g j).kind=2->(cu g j).info=(cu g i).info->(A.getD (cu g i).info.toNat []).getD k 0=jZ g m i k):
  Seen g m V (fun j k'=>W j k'\/(j=i/\k'=k)) I (A.set (cu g i).info.toNat ((A.getD (cu g i).info.toNat []).set k (jZ g m i k))):=by
 have⟨C,D,y⟩:=G.inf i hi w;have b:(cu g i).info.toNat<A.length:=by rw[h.la];omega
 have f:=h.ls (cu g i).info.toNat au;rw[show(((cu g i).info.toNat:Nat):Int)=(cu g i).info by omega,y] at f;refine⟨h.li,by rw[Aw];exact h.la,fun s p=>?_,h.iv,h.iw,h.lk,fun j k' l o c=>?_⟩
 .rw[vN b];split
  .rename_i e;rw[Aw,e];exact h.ls s p
  .exact h.ls s p
 .have key:(cu g j).kind=2->((A.set (cu g i).info.toNat ((A.getD (cu g i).info.toNat []).set k (jZ g m i k))).getD (cu g j).info.toNat []).getD k' 0=if(cu g j).info=(cu g i).info/\k=k' then jZ g m i k else(A.getD (cu g j).info.toNat []).getD k' 0:=fun a=>by
   have⟨E,H,J⟩:=G.inf j l a;rw[vN b];by_cases e:(cu g j).info=(cu g i).info
   .rw[if_pos (by rw[e]),oK au,e];by_cases d:k=k'
    .rw[if_pos d,if_pos ⟨rfl,d⟩]
    .rw[if_neg d,if_neg (fun h=>d h.2)]
   .rw[if_neg au,if_neg (fun h=>e h.1)]
  rcases c with c|⟨rfl,rfl⟩
  .have⟨z,B,q⟩:=h.kd j k' l o c;refine⟨z,B,fun a=>?_⟩;rw[key a];split
   .rename_i e;obtain⟨r,rfl⟩:=e;have:=q a;rw[<-x j l c a r,<-r];exact this
   .exact q a
  .exact⟨u,v,fun a=>by rw[key a,if_pos ⟨rfl,rfl⟩]⟩
def aKf(hi:i<g.cg.length)(h:¬aDh g m i):¬jD g m:=fun a=>h (a.like i hi)
def aOM{k:Nat}(hi:i<g.cg.length)(b:k<(cu g i).next.length)(h:¬0<=jZ g m i k):¬jD g m:=fun a=>h (a.kid i k hi b)
def aHv{k:Nat}(hi:i<g.cg.length)(b:k<(cu g i).next.length)(h:¬aBL g m i k):¬jD g m:=fun a=>h (a.weigh i k hi b)
def Seen.no_info(h:Seen g m V W I A)(G:eO g)(hi:i<g.cg.length)(b:(cu g i).kind=2)(f:0<=I.getD (cu g i).info.toNat 0)(k:I.getD (cu g i).info.toNat 0≠(cu g (gE m i)).info):¬jD g m:=fun a=>by
 have⟨o,p,q⟩:=G.inf i hi b;have⟨j,c,l,d,b4⟩:=h.iw _ au f;have e:(cu g j).info=(cu g i).info:=by omega
 have:=h.iv j c l d;rw[e] at this;exact k (this.trans (a.info j i c hi d b e).1)
def Seen.no_act(h:Seen g m V W I A)(G:eO g){k:Nat}(hi:i<g.cg.length)(c:j<g.cg.length)(d:(cu g i).kind=2)(b:(cu g j).kind=2)(e:(cu g j).info=(cu g i).info)(f:k<(cu g i).next.length)(l:W j k)(o:(A.getD (cu g i).info.toNat []).getD k 0≠jZ g m i k):¬jD g m:=fun a=>by
 have p:=(G.inf i hi d).2.2;have q:=(G.inf j c b).2.2;rw[e,p] at q;have:=(h.kd j k c au l).2.2 b;rw[e] at this;exact o (this.trans ((a.info j i c hi b d e).2 k au))
def Seen.no_inj(h:Seen g m (fun _=>True) W I A)(G:eO g){a:Nat}(j:a<g.ch.length)(k:b<g.ch.length)(l:b≠a)(o:I.getD a 0=I.getD b 0):¬jD g m:=fun u=>by
 have⟨f1,f2,f3⟩:=G.fst a j;have⟨c,d,p⟩:=G.fst b k;have f:=h.iv _ f1 trivial f2;have i:=h.iv _ c trivial d;rw[f3,Ay] at f;rw[p,Ay] at i;have:=u.inj _ _ f1 c f2 d (by rw[<-f,<-i,o]);omega
def Seen.inj(h:Seen g m (fun _=>True) W I A)(G:eO g)(k:∀a b,b<a->a<g.ch.length->I.getD a 0≠I.getD b 0):∀i j,i<g.cg.length->j<g.cg.length->(cu g i).kind=2->(cu g j).kind=2->(cu g (gE m i)).info=(cu g (gE m j)).info->(cu g i).info=(cu g j).info:=fun i j hi l c d e=>by
 have⟨q,r,_⟩:=G.inf i hi c;have⟨s,t,_⟩:=G.inf j l d;have o:=h.iv i hi trivial c;have p:=h.iv j l trivial d;rcases Dw (cu g i).info.toNat (cu g j).info.toNat with f|f|f
 .exact absurd (by rw[o,p,e]) (k _ _ f au)
 .omega
 .exact absurd (by rw[o,p,e]) (k _ _ f au)
def Seen.auto(h:Seen g m (fun _=>True) (fun _ _=>True) I A)(G:eO g)(root:m.getD 0 0=0)(inj:∀i j,i<g.cg.length->j<g.cg.length->(cu g i).kind=2->(cu g j).kind=2->(cu g (gE m i)).info=(cu g (gE m j)).info->(cu g i).info=(cu g j).info):jD g m:=by
 refine⟨root,fun i hi=>h.lk i hi trivial,fun i k hi c=>(h.kd i k hi c trivial).1,fun i k hi c=>(h.kd i k hi c trivial).2.1,fun i j hi d a b e=>⟨?_,fun k c=>?_⟩,inj⟩
 .rw[<-h.iv i hi trivial a,<-h.iv j d trivial b,e]
 .have f:=(G.inf i hi a).2.2;have l:=(G.inf j d b).2.2;rw[<-e,f] at l;rw[<- (h.kd i k hi c trivial).2.2 a,<- (h.kd j k d au trivial).2.2 b,e]
def Seen.dx(h:Seen g m (fun _=>True) W I A)(G:eO g):I=dx g m:=by
 refine aKT (by rw[h.li];simp [Gl.dx]) fun s a=>?_;have a:s<g.ch.length:=by simpa [Gl.dx] using a
 have⟨f1,f2,f3⟩:=G.fst s a;have:=h.iv _ f1 trivial f2;rw[f3] at this;rw[show((s:Int)).toNat=s by omega] at this;rw[this];unfold Gl.dx;rw[Ad,Az,Br a];rfl
def Seen.dy(h:Seen g m V (fun _ _=>True) I A)(G:eO g):A=dy g m:=by
 refine List.ext_getElem? fun s=>?_;by_cases a:s<g.ch.length
 .have⟨f1,f2,f3⟩:=G.fst s a;have c:=(G.inf _ f1 f2).2.2;have f:=h.ls s a;rw[f3] at c;unfold Gl.dy;rw[Az,Br a,Ab (show s<A.length by rw[h.la];exact a)];have d:A[s]'(by rw[h.la];exact a)=A.getD s []:=by rw[Ad,Ab (show s<A.length by rw[h.la];exact a)];rfl
  rw[d];show some _=some _;congr 1;refine aKT (by simp only[Al,Bj];omega) fun k b=>?_;have b:k<(cu g (eG g s)).next.length:=by simpa using b
  have:=(h.kd _ k f1 b trivial).2.2 f2;rw[f3,show((s:Int)).toNat=s by omega] at this;rw[this,Ad,Az,Br b];rfl
 .rw[Cd (by rw[h.la];omega),Cd (by simp [Gl.dy];omega)]
end
def sT(b:Nat)(l:bu):AV:=.sl b 0 l.length l.length false
structure Rws(S0 X:St)(bs:Nat->Nat)(cs:cd)(A:bt):Prop where
 cl:∀j,j<A.length->cs[j]? =some (sT (bs j) (A.getD j []))
 bl:∀j,j<A.length->S0.nx<=bs j/\bs j<X.nx/\X.h.get (bs j)=some (.cells (bD (A.getD j [])) false 0)
 dj:∀j k,j<A.length->k<A.length->j≠k->bs j≠bs k
section
variable {S0 X X':St}{bs:Nat->Nat}{cs:cd}{A:bt}
def Rws.move(h:Rws S0 X bs cs A)(f:X.nx<=X'.nx)(i:∀j,j<A.length->X'.h.get (bs j)=X.h.get (bs j)):Rws S0 X' bs cs A:=
 ⟨h.cl,fun j d=>by have⟨a,b,c⟩:=h.bl j d;exact⟨a,Ae b f,(i j d).trans c⟩,h.dj⟩
def Rws.same(h:Rws S0 X bs cs A)(a:Same X X'):Rws S0 X' bs cs A:=h.move a.1 fun j b=>a.2 _ (h.bl j b).2.1
def Rws.none:Rws S0 X bs cs []:=⟨fun j a=>absurd a (Ca j),fun j a=>absurd a (Ca j),fun j k a=>absurd a (Ca j)⟩
def aCw{l:bt}{x:bu}:(l++ [x]).getD j []=if j=l.length then x else l.getD j []:=by
 rw[Ad,Ad];by_cases h:j<l.length
 .rw[Ao h,if_neg au]
 .rw[Ap au];by_cases e:j=l.length
  .rw[if_pos e,e,Dt];rfl
  .rw[if_neg e,Cd (by simp;omega),Cd au]
def Rws.add(h:Rws S0 X bs cs A){nb:Nat}(f:S0.nx<=nb)(i:nb<X.nx)(o:X.h.get nb=jf (bD l))(a:∀j,j<A.length->bs j≠nb)(p:∀j,j<A.length->cs'[j]? =cs[j]?)(q:cs'[A.length]? =some (sT nb l)):Rws S0 X (fun j=>if j=A.length then nb else bs j) cs' (A++ [l]):=by
 refine⟨fun j b=>?_,fun j b=>?_,fun j k b r c=>?_⟩
 .rw[Aj,Ba] at b;rw[aCw]
  by_cases e:j=A.length
  .rw[if_pos e,if_pos e,e];exact q
  .rw[if_neg e,if_neg e,p j au];exact h.cl j au
 .rw[Aj,Ba] at b;rw[aCw]
  by_cases e:j=A.length
  .rw[if_pos e,if_pos e];exact⟨f,i,o⟩
  .rw[if_neg e,if_neg e];exact h.bl j au
 .rw[Aj,Ba] at b r
  by_cases e:j=A.length
  .rw[if_pos e,if_neg au];exact Cg (a k au)
  .rw[if_neg e];by_cases d:k=A.length
   .rw[if_pos d];exact a j au
   .rw[if_neg d];exact h.dj j k au au  c
def Rws.put(h:Rws S0 X bs cs A){s k:Nat}{v:Int}(f:s<A.length)(l:X.nx<=n):Rws S0 ⟨X.h.set (bs s) (jf (bD ((A.getD s []).set k v))),n⟩ bs cs (A.set s ((A.getD s []).set k v)):=by
 refine⟨fun j d=>?_,fun j d=>?_,fun j k d i=>?_⟩
 .rw[Aw] at d;rw[vN f,h.cl j d];split
  .rename_i e;unfold sT;rw[Aw,e]
  .rfl
 .rw[Aw] at d;rw[vN f];have⟨a,b,c⟩:=h.bl j d;refine⟨a,Ae b l,?_⟩;simp only
  rw[ef];by_cases e:s=j
  .rw[if_pos e,if_pos (by rw[e])]
  .rw[if_neg e,if_neg (h.dj j s d f (Cg e))];exact c
 .rw[Aw] at d i;exact h.dj j k d i
theorem Rws.is(h:Rws S0 X bs cs A){ob cap:Nat}{o c:Bool}(b:X.h.get ob=some (.cells cs o sz))(lt:ob<X.nx)(p:A.length<=cap):aG 1 nK X (.sl ob 0 A.length cap c) A:=by
 refine .inr ⟨ob,0,cap,c,cs,rfl,p,lt,by unfold cI;rw[b];rfl,fun i l hi=>?_⟩;have a:=(Ai.1 hi).1;have e:A.getD i []=l:=by rw[Ad,hi];rfl
 have d:=h.cl i a;have⟨_,q,f⟩:=h.bl i a;rw[e] at d f;refine⟨[sT (bs i) l],rfl,fun j x k=>?_,_,rfl,aDM f q rfl⟩;cases j with
 | zero=>
  cases k;rw[Am,Dm,Bs];exact d
 | succ j=>simp at k
end
def fP.push1{bytes:Nat}(h:fP 1 S0 S v n cs)(k:Same S0 S)(o:S.h.get t=jf [x])(p:n+1<=room)(f:(n+1) * bytes<=room):
  ∃v' d,gG bytes 1 v (.sl t 0 1 1 false) S=some (v',d)/\fP 1 S0 d v' (n+1) (cs++ [x])/\aM v'=some S.nx/\d.nx=S.nx+1/\∀c,c<S.nx->aM v≠some c->d.h.get c=S.h.get c:=by
 have l:=aPE o;rcases h with⟨rfl,rfl,rfl⟩|⟨b,rfl,q,y,r,a⟩
 .refine⟨.sl S.nx 0 1 1 true,⟨S.h.set S.nx (some (.cells [x] true 1)),S.nx+1⟩,?_,.inr ⟨S.nx,by rw[Am],k.1,by simp,?_,?_⟩,rfl,rfl,fun c a _=>(Same.alloc S _).2 c a⟩
  .show(bG (some 1) fun j=>bG (eU (.sl t 0 1 1 false) S.h 1 j) fun new=>aAA .ct bytes 1 j new S)=_;rw[aH,l,aH];show qS bytes 1 1 [x] S=_;unfold qS;rw[show Nat.beq 1 0=false from rfl,aU,Ak au,aN,Ak (by rw[Am] at f;exact f),aN];rfl
  .simp only;rw[ef,if_pos rfl];rfl
  .rfl
 .refine⟨.sl S.nx 0 (n+1) (n+1) true,⟨(S.h.set b none).set S.nx (some (.cells (cs++ [x]) true 1)),S.nx+1⟩,?_,.inr ⟨S.nx,rfl,k.1,by simp,?_,by rw[Aj,a,Ba,Du,Fp]⟩,rfl,rfl,fun c a i=>?_⟩
  .show(bG (some 1) fun j=>bG (eU (.sl t 0 1 1 false) S.h 1 j) fun new=>aAA (.sl b 0 n n true) bytes 1 j new S)=_;rw[aH,l,aH];show lR bytes 1 b 0 n n true 1 [x] S=_;unfold lR;have s:Nat.ble (n+1) n=false:=by rw[Cj];intro h;have:=Bc h;omega
   rw[s,aU,Ak p,aN,Ak f,aN,r,aH];have u:cut cs 0 (n * 1)=some cs:=by
    unfold cut;rw[iG,iP,Dn,if_pos au,Bd au]
   have w:Nat.beq (0+n * 1) (mF cs)=true:=by rw[gD,a,Bl];omega
   simp only[xX,u,aH,aN,w,show Nat.beq 1 1=true from rfl,grown,fS]
  .simp only;rw[ef,if_pos rfl]
  .simp only;have:c≠b:=fun e=>i (by rw[e];rfl);rw[ef,if_neg au,ef,if_neg this]
def aSa{c:Nat}{o:Bool}{z:AV}{x:cT}{id:Nat}(a:x.val F= .sl b 0 n c o):uH (.dd t 1 1 [z] [(0,x)]) F id=some (.sl id 0 1 1 false,.cells [.sl b 0 n c o] false 0):=by
 show(bG (eI (repeatL [z] 1) [(0 * 1,1,x.val F)]) fun cs=>some (AV.sl id 0 1 1 false,AB.cells cs false 0))=_;rw[a];rfl
def fP.move{k:Nat}{a:St}(h:fP k S0 S v n cs)(d:S.nx<=a.nx)(f:∀c,aM v=some c->a.h.get c=S.h.get c):fP k S0 a v n cs:=by
 rcases h with h|⟨b,rfl,i,j,l,o⟩
 .exact .inl h
 .exact .inr ⟨b,rfl,i,Ae j d,(f b rfl).trans l,o⟩
def fP.csl{k:Nat}(h:fP k S0 S v n cs):cs.length=n * k:=by
 rcases h with⟨_,rfl,rfl⟩|⟨b,_,_,_,_,a⟩
 .rw[Dy];rfl
 .exact a
def bN.place{k:IntKind}(h:bN k S v l)(hi:i<l.length):∃b p,xS v i= .ptr b p/\b<S.nx:=by
 rcases h with⟨a,_⟩|⟨b,off,cap,o,cs,rfl,_,c,_⟩
 .rw[a] at hi;exact absurd hi (Ca _)
 .exact⟨b,_,rfl,c⟩
def aKx{a s d:Nat}(c:h.get a=some (.cells cs false s))(f:h.get b=some (.cells cs' true d)):a≠b:=fun e=>by
 rw[e,f] at c;have⟨_,i,_⟩:=AB.cells.inj (Bh c);cases i
def aOJ{W:Nat->Prop}{E:Ev.T AB}{base:Nat}{Q:Fr->St->List iR->Prop}{a m1 B o p:Nat}{z d h:cd}{t1 t2 C q:cT}(r:Nat.testBit m1 o=true)(s:Nat.testBit m1 p=true)(t:kE (some i) B=true)
  (G:t1.val F= .ptr a 0) (H:t2.val F= .ptr b 0) (u:(C.val F).cells=some d) (v:(q.val F).cells=some h) (D:z.length=n) (J:d.length=n) (K:h.length=n) (f:a≠b) (L:base<=a) (M:base<=b)
  (N:∀j,j.nx=S.nx->j.h.get a=jf d->j.h.get b=jf h->(∀c,c≠a->c≠b->j.h.get c=S.h.get c)->Q F j []):
  gF fns W E base [⟨none,.x (.st n t1 C),none,m1⟩,⟨none,.x (.st n t2 q),none,B⟩] i F S [⟨p,b,.cells z false 0⟩,⟨o,a,.cells z false 0⟩] none Q:=by
 have w:cP m1 [⟨p,b,.cells z false 0⟩,⟨o,a,.cells z false 0⟩] S.h=([],(S.h.set b (jf z)).set a (jf z)):=by rw[iF s,iF r,bL]
 have x:((S.h.set b (jf z)).set a (jf z)).get a=jf z:=by rw[ef,if_pos rfl]
 have x1:=mI (S:=⟨(S.h.set b (jf z)).set a (jf z),S.nx⟩) (cs':=d) (n:=n) x D J;refine qA (S1:=⟨((S.h.set b (jf z)).set a (jf z)).set a (jf d),S.nx⟩) rfl ?_ ?_ ?_
 .rw[w,G,u,aH];exact x1
 .rw[w];exact⟨Af _,fun c O _=>by simp only;rw[ef,if_neg au]⟩
 rw[w];have y:(((S.h.set b (jf z)).set a (jf z)).set a (jf d)).get b=jf z:=by rw[ef,if_neg (Cg f),ef,if_neg (Cg f),ef,if_pos rfl]
 have x2:=mI (S:=⟨((S.h.set b (jf z)).set a (jf z)).set a (jf d),S.nx⟩) (cs':=h) (n:=n) y D K;refine qA (S1:=⟨(((S.h.set b (jf z)).set a (jf z)).set a (jf d)).set b (jf h),S.nx⟩) t ?_ ?_ ?_
 .rw[bL];show bG (q.val F).cells (fun cs=>qX (t2.val F) n cs _)=_;rw[H,v,aH];exact x2
 .rw[bL];exact⟨Af _,fun c O _=>by simp only;rw[ef,if_neg au]⟩
 rw[bL];refine N _ rfl ?_ ?_ fun c k l=>?_
 .simp only;rw[ef,if_neg f,ef,if_pos rfl]
 .simp only;rw[ef,if_pos rfl]
 .simp only;rw[ef,if_neg l,ef,if_neg k,ef,if_neg k,ef,if_neg l]
def fP.low{k:Nat}(h:fP k S1 X v n cs)(a:S.nx<=S1.nx):fP k S X v n cs:=by
 rcases h with h|⟨b,c,d,f⟩
 .exact .inl h
 .exact .inr ⟨b,c,Av a d,f⟩
def Rws.low{bs:Nat->Nat}{A:bt}(h:Rws S1 X bs cs A)(c:S.nx<=S1.nx):Rws S X bs cs A:=⟨h.cl,fun j d=>by have⟨a,b⟩:=h.bl j d;exact⟨Av c a,b⟩,h.dj⟩
def aBe(g:aX):bt:=g.ch.map fun x=>List.replicate x.cr.toNat 0
def aTK(S1:St)(gb:Nat)(mv:AV)(g:aX)(k:Nat)(A:bO)(X:St):Prop:=A.inr=false/\Same S1 X/\∃i v w cs bs,i+k=g.ch.length/\fP 1 S1 X v i (bD (List.replicate i (-1)))/\fP 1 S1 X w i cs/\Rws S1 X bs cs ((aBe g).take i)/\(∀c,aM v=some c->aM w≠some c)/\aC 1 A.F=mv/\aC 2 A.F= .ptr gb 0/\aC 4 A.F=v/\aC 5 A.F=w/\aC 7 A.F=je (i:Int)
def aTF{m:bu}(G:eO g):Seen g m (fun j=>j<0) (fun j _=>j<0) (List.replicate g.ch.length (-1)) (aBe g):=by
 refine⟨Aq ..,by unfold aBe;rw[Al],fun s a=>?_,fun j _ c=>au,fun s a d=>?_,fun j _ c=>au,fun j k _ _ c=>au⟩
 .have⟨f1,f2,f3⟩:=G.fst s a;have b:=(G.inf _ f1 f2).2.2;rw[f3] at b;have e:(aBe g).getD s []=List.replicate (cv g (s:Int)).cr.toNat 0:=by
   unfold aBe cv;rw[Ad,Az,Ad,Ay,Ab a];rfl
  rw[e,Aq];omega
 .rw[Ad,Ch,if_pos a] at d;exact absurd d az
def aTB(S1:St)(gb:Nat)(mv v w:AV)(cs:cd)(bs:Nat->Nat)(g:aX)(m:bu)(k:Nat)(A:bO)(X:St):Prop:=A.inr=false/\Same S1 X/\∃i I a,i+k=g.cg.length/\fP 1 S1 X v g.ch.length (bD I)/\fP 1 S1 X w g.ch.length cs/\Rws S1 X bs cs a/\Seen g m (fun j=>j<i) (fun j _=>j<i) I a/\aC 1 A.F=mv/\aC 2 A.F= .ptr gb 0/\aC 4 A.F=v/\aC 5 A.F=w/\aC 8 A.F=je (i:Int)
def aE1{p:Nat}{o:Bool}(c:h.get b=some (.cells (bD l) o sz))(a:p<l.length):eK (.ptr b p) false 1 h=some (je (l.getD p 0)):=cH c (by
 unfold bD;rw[Az,Ab a,Ad,Ab a];rfl)
def qK{k:IntKind}{x:Int}(h:0<=x):gN (.int k x)=some x.toNat:=by
 obtain⟨n,rfl⟩:∃n:Nat,x=(n:Int):=⟨x.toNat,au⟩;rw[Ay];exact aJ ..
def nE(F:Fr)(gb xb a:Nat)(mv v w:AV)(i:Nat):Prop:=aC 1 F=mv/\aC 2 F= .ptr gb 0/\aC 4 F=v/\aC 5 F=w/\aC 8 F=je (i:Int)/\aC 9 F= .ptr xb 0/\aC 10 F= .ptr a 0
def uX{x0 x1 x2:Int}{a b c:AV}{k:IntKind}(d:cO a a=true)(f:cO b b=true)(h:cO c c=true):cO (.agg [.int k x0,.int k x1,.int k x2,a,b,c]) (.agg [.int k x0,.int k x1,.int k x2,a,b,c])=true:=zQ (eM ..) (eM ..) (eM ..) d f h
def aKg{m:bu}{k:Nat}(h:0<=jZ g m i k):(jZ g m i k).toNat<(cu g (gE m i)).next.length:=by
 unfold jZ at h ⊢;rcases pV (c:=m.getD ((cu g i).next.getD k 0).toNat 0) (l:=(cu g (gE m i)).next) (s:=0) with⟨a,_⟩|⟨j,a,b,_⟩
 .rw[a] at h;exact absurd h az
 .rw[a];have:=(Ai.1 b).1;omega
def aSH(S1:St)(gb xb a:Nat)(mv v w:AV)(cs:cd)(bs:Nat->Nat)(g:aX)(m:bu)(i:Nat)(d:Bool)(f h:Option AB)(k:Nat)(A:bO)(X:St):Prop:=A.inr=false/\Same S1 X/\xb<X.nx/\a<X.nx/\∃b I c,b+k=(cu g i).next.length/\fP 1 S1 X v g.ch.length (bD I)/\fP 1 S1 X w g.ch.length cs/\Rws S1 X bs cs c/\Seen g m (fun j=>j<i\/j=i) (fun j k'=>j<i\/(j=i/\k'<b)) I c/\nE A.F gb xb a mv v w i/\X.h.get xb=f/\X.h.get a=h/\aC 11 A.F= .bool d/\aC 12 A.F=je (b:Int)
def aSW(c:St)(v w:AV)(I:bu)(n k:Nat)(A:bO)(X:St):Prop:=A.inr=false/\Same c X/\∃i,i+k=n/\(∀a b,b<a->a<i->I.getD a 0≠I.getD b 0)/\aC 4 A.F=v/\aC 5 A.F=w/\aC 14 A.F=je (i:Int)
def aTU(a:St)(v w:AV)(I:bu)(i k:Nat)(A:bO)(X:St):Prop:=A.inr=false/\Same a X/\∃l,l+k=i/\(∀b,b<l->I.getD i 0≠I.getD b 0)/\aC 4 A.F=v/\aC 5 A.F=w/\aC 14 A.F=je (i:Int)/\aC 15 A.F=je (l:Int)
def aD1(S1:St)(g:aX)(m:bu)(A:bO)(X:St):Prop:=Same S1 X/\¬jD g m/\aC 4 A.F= .ct/\aC 5 A.F= .ct/\aC 6 A.F= .bool false
def aSX(g:aX)(m:bu)(S a:St)(x y:AV):Prop:=fP 1 S a x g.ch.length (bD (dx g m))/\∃cs bs,fP 1 S a y g.ch.length cs/\Rws S a bs cs (dy g m)
theorem aIO{S:St}{nv iv mv:AV}{g:aX}{m:bu}(H:Has fns)(hn:aG 6 cF S nv g.cg)(hi:aG 2 cE S iv g.ch)(hm:bN .i64 S mv m)(G:eO g)(M:aBb g m):
  iI fns (.fn 29 [] []) [.agg [.int .i64 g.cm,nv,iv],mv] S fun r S'=>Same S S'/\∃a b t,r= .tup [a,b,.bool t]/\(t=true↔jD g m)/\(t=true->aSX g m S S' a b):=by
 have hml:0<m.length:=by rw[M.len];exact G.n1
 have hN:=G.n2;have hNI:=G.ni;refine cK H.f29 (by simp) ?_;refine ae ?_;refine cA ?_;refine cR (by refine ae ?_;exact aY _) ?_;intro S1 s1 n1 c1;refine ae ?_;have lg1:S.nx<S1.nx:=by omega
 have hm1:=hm.same s1;have ia0:=hm1.df hml;have la0:=hm1.ld hml;refine gH (ez @aJ6 ia0 la0 ?_);by_cases h0:m.getD 0 0=0;rotate_left
 ·refine aS (iu (Ac (show m.getD 0 0≠0 from h0))) ?_;refine cA (ae ?_);refine aT (ae ?_);exact⟨s1,_,_,false,rfl,⟨fun h=>(by cases h),fun a=>absurd a.root h0⟩,fun h=>by cases h⟩
 refine aQ (iu (Aa (show ¬m.getD 0 0≠0 from fun h=>h h0))) (aK ?_);try refine ae ?_
 refine aD (bB (Q:=fun o A' X=>o= .normal/\aTK S1 S.nx mv g 0 A' X) (aD (aL ?_)) ?_)
 ·refine ae ?_;refine aO (bX (aTK S1 S.nx mv g) ?_ g.ch.length _ _ ⟨rfl,eu _,0,.ct,.ct,[],fun _=>0,au,.inl ⟨rfl,rfl,rfl⟩,.inl ⟨rfl,rfl,rfl⟩,Rws.none,(fun c hc=>by cases hc),by refine⟨?_,?_,?_,?_,?_⟩<;>simp only[↓sU,sD,rE,↓reduceIte,rA]⟩);rintro k ⟨F,inr⟩ X ⟨q0,hX,i,v,w,cs,bs,hik,gv,gw,hR,hvw,p1,p2,p4,p5,p7⟩;simp only at q0 p1 p2 p4 p5 p7;subst q0;have lgX:S.nx<X.nx:=Ae lg1 hX.1;have cX:X.h.get S.nx=some (.cells [.int .i64 g.cm,nv,iv] false 0):=by rw[hX.2 _ lg1];exact c1
  refine gH (fg p2 p7 @aB @aA (iS cX) hi.len ?_);by_cases hlt:i<g.ch.length
  ·refine aS im (aK ?_);try refine ae ?_
   have⟨f1,f2,f3⟩:=G.fst i hlt;have hac:=(G.inf _ f1 f2).2.2;rw[f3] at hac;have⟨e,b,q,hian,hb,he,heq,_,hlf⟩:=aG.at hi az (Ab hlt);have hia':g.ch[i]=cv g (i:Int):=by unfold cv;rw[Ad,Ay,Ab hlt];rfl
   unfold cE at heq;subst heq;have hl1:=hlf 1 _ rfl;rw[hia',hac] at hl1;rw[<-jH (s1.trans hX) hb] at hl1;have hnl:(cu g (eG g i)).next.length<=1000:=G.nxt _ f1;generalize hna:(cu g (eG g i)).next.length=na at *;have hgW:¬ (aM v=some S.nx\/aM w=some S.nx):=by
    rintro(h | h)
    ·have:=(gv.blk h).1;omega
    ·have:=(gw.blk h).1;omega
   have hbW:¬ (aM v=some b\/aM w=some b):=by
    rintro(h | h)
    ·have:=(gv.blk h).1;omega
    ·have:=(gw.blk h).1;omega
   have lbX:b<X.nx:=by omega
   have ev28:∀ (F:Fr) (id:Nat),uH (.dd 3 1 1 [.int .i64 0] [(0,.c (.int .i64 (.negSucc 0)))]) F id=some (.sl id 0 1 1 false,.cells [.int .i64 (-1)] false 0):=fun F id=>jS rfl;have w1:=ed i
   refine aD (aO (nN (fun c=>aM v=some c\/aM w=some c) ?_));have sB:Same X ⟨X.h.set (X.nx+1) (some (.cells [.int .i64 (-1)] false 0)),X.nx+15⟩:=⟨by simp,fun c hc=>by simp only;rw[ef,if_neg au]⟩;have⟨v',S2,eA,gA,bA,nA,rA⟩:=fP.push1 (bytes:=8) (t:=X.nx+1) (x:=.int .i64 (-1)) (gv.step sB) (hX.trans sB) jd ay ay;simp only at bA nA rA;refine ew p4 ev28 ?_;refine oS (r:=v') (S1:=S2) rfl ?_ ?_ ?_
   ·rw[cL (az:Nat.testBit 3 1=true)];refine ae ?_;exact eA
   ·rw[cL (az:Nat.testBit 3 1=true)];exact⟨by simp only;omega,fun c hc hw=>rA c au fun e=>hw (.inl e)⟩
   rw[cL (az:Nat.testBit 3 1=true)];have siv:=aG.self hi;simp only[↓sU,sD,rE,↓reduceIte,rA,p2,p5,p7,aB,aP,aA,iS cX,lgX,hgW,An,siv,aJ,hian,hl1,lbX,hbW];refine qE (n:=na) (iu @aJ) (iu @aJ) ay ay  ?_;refine ae ?_;rw[aSa (b:=X.nx+10) (n:=na) (c:=na) (o:=false) (af),lT];have hA0:((aBe g).take i).length=i:=by unfold aBe;rw[Bv,Al];omega
   have hA1:(aBe g).take (i+1)=(aBe g).take i++ [List.replicate na 0]:=by
    rw[Bx];congr 1;unfold aBe;rw[Az,Ab hlt,hia'];show [List.replicate (cv g (i:Int)).cr.toNat 0]=_;rw[hac,Ay]
   have hz:repeatL [AV.int .i64 0] na=bD (List.replicate na 0):=wH na;have hm1:∀c,aM v=some c->c<X.nx:=fun c hc=>(gv.blk hc).2.1;have hm2:∀c,aM w=some c->c<X.nx:=fun c hc=>(gw.blk hc).2.1;have hflip:∀c,aM w=some c->aM v≠some c:=fun c h1 h2=>hvw c h2 h1;generalize hX2:(⟨(S2.h.set (X.nx+11) (some (.cells [.sl (X.nx+10) 0 na na false] false 0))).set (X.nx+10) (some (.cells (repeatL [.int .i64 0] na) false 0)),S2.nx⟩:St)=X2;have k2:∀c,c≠X.nx+10->c≠X.nx+11->X2.h.get c=S2.h.get c:=fun c h1 h2=>by rw[<-hX2];simp only;rw[ef,if_neg h1,ef,if_neg h2]
   have k10:X2.h.get (X.nx+10)=some (.cells (bD (List.replicate na 0)) false 0):=by rw[<-hX2,hz];simp only;rw[ef,if_pos rfl]
   have k11:X2.h.get (X.nx+11)=some (.cells [sT (X.nx+10) (List.replicate na 0)] false 0):=by rw[<-hX2];simp only;rw[ef,if_neg au,ef,if_pos rfl];unfold sT;rw[Aq]
   have n2:X2.nx=X.nx+16:=by rw[<-hX2];simp only;omega
   have hold2:∀c,c<X.nx->aM v≠some c->X2.h.get c=X.h.get c:=fun c hc hne=>by rw[k2 c au au,rA c au hne,sB.2 c hc]
   have sX2:Same S1 X2:=⟨ax hX.1,fun c hc=>by rw[hold2 c (ax hX.1) (fun e=>by have:=(gv.blk e).1;omega)];exact hX.2 c hc⟩;have gw2:fP 1 S1 X2 w i cs:=gw.move au fun c hc=>hold2 c (hm2 c hc) (hflip c hc);have⟨w',S3,eW,gB,bW,nW,rW⟩:=fP.push1 (bytes:=24) gw2 sX2 k11 ay ay;have hold3:∀c,c<X.nx->aM v≠some c->aM w≠some c->S3.h.get c=X.h.get c:=fun c hc h1 h2=>by rw[rW c au h2,hold2 c hc h1]
   have sX3:Same S1 S3:=⟨ax sX2.1,fun c hc=>by rw[rW c (ax sX2.1) (fun e=>by have:=(gw.blk e).1;omega)];exact sX2.2 c hc⟩;have gv3:fP 1 S1 S3 v' (i+1) (bD (List.replicate i (-1))++ [.int .i64 (-1)]):=gA.move au fun c hc=>by
    rw[bA] at hc;cases hc;rw[rW _ au (fun e=>by have:=hm2 _ e;omega),k2 _ au au]
   have e1:bD (List.replicate i (-1))++ [.int .i64 (-1)]=bD (List.replicate (i+1) (-1)):=by
    rw[List.replicate_succ'];unfold bD;rw[Co];rfl
   rw[e1] at gv3;have hcl:=gw.csl;have hR3:Rws S1 S3 (fun j=>if j=((aBe g).take i).length then X.nx+10 else bs j) (cs++ [sT (X.nx+10) (List.replicate na 0)]) ((aBe g).take i++ [List.replicate na 0]):=by
    refine Rws.add (hR.move au fun j hj=>?_) (ax hX.1) au ?_ (fun j hj=>?_) (fun j hj=>?_) ?_
    ·have⟨_,b2,b3⟩:=hR.bl j hj;exact hold3 _ b2 (gv.off b3) (gw.off b3)
    ·rw[rW _ au (fun e=>by have:=hm2 _ e;omega)];exact k10
    ·have:=(hR.bl j hj).2.1;omega
    ·rw[Ao au]
    ·rw[Ap au,hA0,show i - cs.length=0 by omega];rfl
   refine oS (r:=w') (S1:=S3) rfl ?_ ?_ ?_
   ·rw[iF (az:Nat.testBit 4095 11=true),iF (az:Nat.testBit 4095 10=true),bL,hX2];refine ae ?_;exact eW
   ·rw[iF (az:Nat.testBit 4095 11=true),iF (az:Nat.testBit 4095 10=true),bL,hX2];exact⟨au,fun c hc hw=>rW c au fun e=>hw (.inr e)⟩
   rw[iF (az:Nat.testBit 4095 11=true),iF (az:Nat.testBit 4095 10=true),bL];refine ae ?_;refine aL (ew p7 w1 ?_);refine⟨k - 1,au,rfl,sX3,i+1,v',w',_,_,au,gv3,gB,by rw[hA1];exact hR3,fun c h1 h2=>?_,by refine⟨?_,?_,?_,?_,?_⟩<;>simp only[↓sU,sD,rE,↓reduceIte,rA,p1,p2]⟩;rw[bA] at h1;rw[bW] at h2;have h1:=Bh h1;have h2:=Bh h2;omega
  ·refine aQ im (bT ?_);refine ae ?_;have hk0:k=0:=by omega
   subst hk0;exact⟨rfl,hX,i,v,w,cs,bs,hik,gv,gw,hR,hvw,by refine⟨?_,?_,?_,?_,?_⟩<;>simp only[↓sU,sD,rE,↓reduceIte,rA,p1,p2,p4,p5,p7]⟩
 rintro o ⟨F,inr⟩ X ⟨rfl,q0,hX,i,v,w,cs,bs,hik,gv,gw,hR,hvw,p1,p2,p4,p5,p7⟩;simp only at q0 p1 p2 p4 p5;subst q0;clear p7;obtain rfl:i=g.ch.length:=by omega
 have hAl:(aBe g).length=g.ch.length:=by unfold aBe;rw[Al]
 rw[Bd au] at hR;try refine ae ?_
 refine aD (bB (Q:=fun o A' Y=>(o= .normal/\aTB S1 S.nx mv v w cs bs g m 0 A' Y)\/(o= .ret/\aD1 S1 g m A' Y)) (aD (aL ?_)) ?_)
 ·refine ae ?_;refine aO (bX (aTB S1 S.nx mv v w cs bs g m) ?_ g.cg.length _ _ ⟨rfl,hX,0,_,_,au,gv,gw,hR,aTF G,by refine⟨?_,?_,?_,?_,?_⟩<;>simp only[↓sU,sD,rE,↓reduceIte,rA,p1,p2,p4,p5]⟩);clear p1 p2 p4 p5 gv gw hR hX X;rintro k ⟨F,inr⟩ X ⟨q0,hX,i,I,As,hik,gv,gw,hR,hS,p1,p2,p4,p5,p8⟩;simp only at q0 p1 p2 p4 p5 p8;subst q0;refine gH (ff p1 p8 hm.len M.len @Ah ?_);by_cases hlt:i<g.cg.length;rotate_left
  ·refine aQ im (bT ?_);refine ae ?_;have hk0:k=0:=by omega
   subst hk0;exact .inl ⟨rfl,hX,i,I,As,hik,gv,gw,hR,hS,by refine⟨?_,?_,?_,?_,?_⟩<;>simp only[↓sU,sD,rE,↓reduceIte,rA,p1,p2,p4,p5,p8]⟩
  refine aS im (aK ?_);try refine ae ?_
  have lgX:S.nx<X.nx:=Ae lg1 hX.1;have cX:X.h.get S.nx=some (.cells [.int .i64 g.cm,nv,iv] false 0):=by rw[hX.2 _ lg1];exact c1
  have sX:=s1.trans hX;have hmX:=hm.same sX;have ia:=hmX.df (show i<m.length by rw[M.len];exact hlt);have la:=hmX.ld (show i<m.length by rw[M.len];exact hlt);have⟨hto,htoN⟩:=M.at hlt;rw[hto] at la;obtain⟨_,bx,qx,hiax,hbx,_,⟨xa,xw,xp,rfl,hxa,hxw,hxp⟩,hldx,_⟩:=aG.at hn az (dI hlt);obtain⟨_,by',qy,hiay,hby,_,⟨ya,yw,yp,rfl,hya,hyw,hyp⟩,hldy,_⟩:=aG.at hn az (dI htoN);rw[<-jH sX hbx] at hldx;rw[<-jH sX hby] at hldy;have snv:=aG.self hn;have sx:=uX (k:=.i64) (x0:=(cu g i).kind) (x1:=(cu g i).player) (x2:=(cu g i).info) (bN.self hxa) (bN.self hxw) (bN.self hxp);have sy:=uX (k:=.i64) (x0:=(cu g (gE m i)).kind) (x1:=(cu g (gE m i)).player) (x2:=(cu g (gE m i)).info) (bN.self hya) (bN.self hyw) (bN.self hyp);have lbx:bx<X.nx:=Ae hbx sX.1;have lby:by'<X.nx:=Ae hby sX.1;have lel:∀ {i:Nat},i<m.length->∃b p,xS mv i= .ptr b p/\b<X.nx:=fun {i} h=>bN.place hmX h;have⟨bm,pm,hem,lbm⟩:=lel (show i<m.length by rw[M.len];exact hlt);rw[hem] at ia la;have w1:=ed i
  refine aD (aO (aD (nN (fun _=>False) ?_)));simp only[↓sU,sD,rE,↓reduceIte,rA,p1,p2,p8,aB,aP,aA,fV cX,lgX,An,snv,aJ,hiax,hldx,sx,lbx,ia,la,lbm,hiay,hldy,sy,lby,rK];refine aOJ (n:=6) rfl rfl rfl (af) (af) (by refine ae ?_;exact aY _) (by refine ae ?_;exact aY _) rfl rfl rfl au au au ?_;intro X1 hX1n hgx hgy hX1;rw[bL];have hX1n:X1.nx=X.nx+17:=hX1n;have sX1:Same X X1:=⟨au,fun c hc=>hX1 c au au⟩;have lxX:X.nx<=X.nx+13:=by omega
  have lyX:X.nx<=X.nx+14:=by omega
  have lx1:X.nx+13<X1.nx:=by omega
  have ly1:X.nx+14<X1.nx:=by omega
  show jP fns _ _ X1 _;refine aD (aD (bB (Q:=fun o A' Y=>o= .normal/\A'.inr=false/\Same X1 Y/\nE A'.F S.nx (X.nx+13) (X.nx+14) mv v w i/\∃t,aC 87 A'.F= .bool t/\(t=true↔¬aDh g m i)) (aL ?_) ?_))
  ·have sX1':=sX.trans sX1;have hxa1:=hxa.same sX1';have hya1:=hya.same sX1';have hxp1:=hxp.same sX1';have hyp1:=hyp.same sX1';by_cases q1:(cu g i).kind=(cu g (gE m i)).kind;rotate_left
   ·simp only[↓sU,sD,rE,↓reduceIte,rA,aB,aA,fI hgx,fI hgy,Ac (show(cu g i).kind≠(cu g (gE m i)).kind from q1),nE,p1,p2,p4,p5,p8];exact⟨eu _,true,rfl,fun _ h=>q1 h.1,fun _=>rfl⟩
   by_cases q2:(cu g i).next.length=(cu g (gE m i)).next.length;rotate_left
   ·simp only[↓sU,sD,rE,↓reduceIte,rA,aB,aA,fI hgx,fI hgy,dG hgx,dG hgy,hxa1.len,hya1.len,Ah,Aa (show ¬ (cu g i).kind≠(cu g (gE m i)).kind from fun h=>h q1),Ac (show(((cu g i).next.length:Nat):Int)≠(((cu g (gE m i)).next.length:Nat):Int) by omega),nE,p1,p2,p4,p5,p8];exact⟨eu _,true,rfl,fun _ h=>q2 h.2.1,fun _=>rfl⟩
   simp only[↓sU,sD,rE,↓reduceIte,rA,aB,aA,fI hgx,fI hgy,dG hgx,dG hgy,eX hgx,eX hgy,hxa1.len,hya1.len,Ah,Aa (show ¬ (cu g i).kind≠(cu g (gE m i)).kind from fun h=>h q1),Aa (show ¬ (((cu g i).next.length:Nat):Int)≠(((cu g (gE m i)).next.length:Nat):Int) by omega),nE,p1,p2,p4,p5,p8];refine bK (ae ?_);refine aW (aC3 H hxp1 hyp1 (by have:=G.pay i hlt;omega)) ?_;rintro _ Y ⟨rfl,hY⟩;by_cases q3:(cu g i).pay=(cu g (gE m i)).pay;rotate_left
   ·refine fj @fY (Aa q3) @Dl p1 p2 p4 p5 p8 ?_;exact⟨hY,true,rfl,fun _ h=>q3 h.2.2.1,fun _=>rfl⟩
   have hgxY:Y.h.get (X.nx+13)=_:=(hY.2 _ lx1).trans hgx;have hgyY:Y.h.get (X.nx+14)=_:=(hY.2 _ ly1).trans hgy;simp only[↓sU,sD,rE,↓reduceIte,rA,fY,Ac q3,Cm,aB,aA,eH hgxY,eH hgyY,p1,p2,p4,p5,p8];refine⟨hY,_,rfl,?_⟩;rw[Cl];exact⟨fun h hl=>h hl.2.2.2,fun h he=>h ⟨q1,q2,q3,he⟩⟩
  clear p1 p2 p4 p5 p8;rintro o ⟨F,inr⟩ Y ⟨rfl,q0,hY,hP,t,p87,hLt⟩;simp only at q0 hP p87;subst q0;have⟨p1,p2,p4,p5,p8,p9,p10⟩:=hP;have sXY:=sX1.trans hY;have sSY:=hX.trans sXY;try refine ae ?_
  cases t with
  | true=>
   refine aS (ah p87) ?_;refine cA (ae ?_);refine aT (ae ?_);refine .inr ⟨sSY,aKf hlt (hLt.1 rfl),?_⟩;simp only[↓sU,sD,rE,↓reduceIte,rA]
  | false=>
  have hL:aDh g m i:=Classical.byContradiction fun h=>by have:=hLt.2 h;cases this
  refine aQ (ah p87) (aK ?_);try refine ae ?_
  clear p87 hLt;have gvY:=gv.step sXY;have gwY:=gw.step sXY;have hRY:=hR.same sXY;have hgxY:=(hY.2 _ lx1).trans hgx;have hgyY:=(hY.2 _ ly1).trans hgy;have lxY:X.nx+13<Y.nx:=Ae lx1 hY.1;have lyY:X.nx+14<Y.nx:=Ae ly1 hY.1;clear hgx hgy hX1 hX1n;refine cA (ae ?_);refine aD (bB (Q:=fun o A' Z=>(o= .normal/\A'.inr=false/\Y.nx<=Z.nx/\Same S1 Z/\(∃I',fP 1 S1 Z v g.ch.length (bD I')/\fP 1 S1 Z w g.ch.length cs/\Rws S1 Z bs cs As/\Seen g m (fun j=>j<i\/j=i) (fun j _=>j<i) I' As)/\nE A'.F S.nx (X.nx+13) (X.nx+14) mv v w i/\Z.h.get (X.nx+13)=Y.h.get (X.nx+13)/\Z.h.get (X.nx+14)=Y.h.get (X.nx+14)/\∃kn,aC 11 A'.F= .bool kn/\((cu g i).kind=2->(kn=true↔∃j,j<i/\(cu g j).kind=2/\(cu g j).info=(cu g i).info))/\((cu g i).kind≠2->kn=false))\/(o= .ret/\aD1 S1 g m A' Z)) (aD (aL ?_)) ?_)
  ·refine fe p9 @aB @aA (fI hgxY) ?_;by_cases hk:(cu g i).kind=2;rotate_left
   ·refine aQ (iu (Aa hk)) (aK ?_);refine .inl ⟨rfl,rfl,Af _,sSY,⟨I,gvY,gwY,hRY,hS.node hL hk⟩,?_,rfl,rfl,false,af,fun h=>absurd h hk,fun _=>rfl⟩;simp only[↓sU,sD,rE,↓reduceIte,rA,nE,p1,p2,p4,p5,p8,p9,p10]
   refine aS (iu (Ac hk)) ?_;have⟨a1,a2,a3⟩:=G.inf i hlt hk;have hs:(cu g i).info.toNat<g.ch.length:=by omega
   have hsI:(cu g i).info.toNat<I.length:=by rw[hS.li];exact hs
   have hni:=qK (k:=.i64) a1;rcases gvY with⟨_,h0',_⟩ | ⟨vb,hv,hvb0,hvb1,hvb2,hvb3⟩
   ·rw[h0'] at hs;exact absurd hs (Ca _)
   have hia:=fQ (b:=vb) (o:=true) hs;have hld:=aE1 hvb2 hsI;refine cA ?_;simp only[↓sU,sD,rE,↓reduceIte,rA,p4,p9,aB,aA,dF hgxY,hni,hv,hia,hld];have hknow:0<=I.getD (cu g i).info.toNat 0↔∃j,j<i/\(cu g j).kind=2/\(cu g j).info=(cu g i).info:=by
    constructor
    ·intro h;have⟨j,b1,b2,b3,b4⟩:=hS.iw _ hs h;exact⟨j,b2,b3,au⟩
    ·rintro⟨j,b2,b3,b4⟩;have:=hS.iv j au b2 b3;rw[<-b4,this];exact(rH G M au (hS.lk j au b2) b3).1
   refine aD (bB (Q:=fun o A' Z=>(o= .normal/\A'.inr=false/\Z=⟨Y.h,Y.nx+11⟩/\nE A'.F S.nx (X.nx+13) (X.nx+14) mv v w i/\aC 11 A'.F= .bool (decide (0<=I.getD (cu g i).info.toNat 0))/\(0<=I.getD (cu g i).info.toNat 0->I.getD (cu g i).info.toNat 0=(cu g (gE m i)).info))\/(o= .ret/\aD1 S1 g m A' Z)) (aD (jK ?_)) ?_)
   ·by_cases hkn:0<=I.getD (cu g i).info.toNat 0
    ·simp only[↓sU,sD,rE,↓reduceIte,rA,p4,p9,p10,aB,aP,aA,dF hgxY,dF hgyY,hni,hv,hia,hld,Ac (show I.getD (cu g i).info.toNat 0≥0 from hkn)];by_cases he:I.getD (cu g i).info.toNat 0=(cu g (gE m i)).info
     ·refine aQ (iu (Aa (show ¬I.getD (cu g i).info.toNat 0≠(cu g (gE m i)).info from fun h=>h he))) (aK ?_);refine .inl ⟨rfl,rfl,rfl,?_,?_,fun _=>he⟩
      ·simp only[↓sU,sD,rE,↓reduceIte,rA,nE,p1,p2,p4,p5,p8,p9,p10,hv]
      ·simp only[↓sU,sD,rE,↓reduceIte,rA,Ac hkn]
     ·refine aS (iu (Ac (show I.getD (cu g i).info.toNat 0≠(cu g (gE m i)).info from he))) ?_;refine cA (ae ?_);refine aT ?_;refine .inr ⟨rfl,sSY.trans (Same.nx _ _),hS.no_info G hlt hk hkn he,?_⟩;simp only[↓sU,sD,rE,↓reduceIte,rA]
    ·refine de (Aa (show ¬I.getD (cu g i).info.toNat 0≥0 from hkn)) ?_;refine aQ (af) (aK ?_);refine .inl ⟨rfl,rfl,rfl,?_,?_,fun h=>absurd h hkn⟩
     ·simp only[↓sU,sD,rE,↓reduceIte,rA,nE,p1,p2,p4,p5,p8,p9,p10,hv]
     ·simp only[↓sU,sD,rE,↓reduceIte,rA,Aa hkn]
   clear p1 p2 p4 p5 p8 p9 p10;rintro o ⟨F,inr⟩ Z (⟨rfl,q0,rfl,hP,p11,hke⟩ | ⟨rfl,hf⟩);rotate_left
   ·refine ae ?_;exact .inr hf
   simp only at q0 hP p11;subst q0;have⟨p1,p2,p4,p5,p8,p9,p10⟩:=hP;try refine ae ?_
   refine aL ?_;simp only[↓sU,sD,rE,↓reduceIte,rA,p4,p9,p10,aB,aA,dF hgxY,dF hgyY,hni,hv,hia];refine fN (fun call=>by refine ew @dL @dD ?_;exact yI (S:=⟨Y.h,Y.nx+11⟩) hvb2 hsI) ?_;refine ae ?_;have hvw':aM w≠some vb:=hvw vb (by rw[hv];rfl);have hvbX:vb<X.nx:=by
    rcases gv with⟨h,_⟩ | ⟨vb',h,_,h2,_⟩
    ·rw[h] at hv;cases hv
    ·rw[h] at hv;cases hv;exact h2
   refine .inl ⟨au,⟨by have:=sSY.1;simp only;omega,fun c hc=>?_⟩,⟨_,.inr ⟨vb,rfl,hvb0,Ae hvb1 (Bq _ _),jd,by unfold bD at hvb3 ⊢;rw[Al] at hvb3 ⊢;rw[Aw];exact hvb3⟩,gwY.move (Bq _ _) (fun c hc=>?_),hRY.move (Bq _ _) (fun j hj=>?_),hS.nodeM G M hlt hL hk hke⟩,?_,?_,?_,decide (0<=I.getD (cu g i).info.toNat 0),ah p11,fun _=>?_,fun h=>absurd hk h⟩
   ·simp only;rw[ef,if_neg au];exact sSY.2 c hc
   ·simp only;rw[ef,if_neg (fun e=>hvw' (by rw[hc,e]))]
   ·simp only;rw[ef,if_neg (aKx (hRY.bl j hj).2.2 hvb2)]
   ·simp only[↓sU,sD,rE,↓reduceIte,rA,nE,p1,p2,p4,p5,p8,p9,p10,hv]
   ·try simp only
    rw[ef,if_neg au]
   ·try simp only
    rw[ef,if_neg au]
   ·rw[Cl];exact hknow
  clear p1 p2 p4 p5 p8 p9 p10;rintro o ⟨F,inr⟩ Z (⟨rfl,q0,hYZ,sSZ,⟨I',gvZ,gwZ,hRZ,hSZ⟩,hP,ex,ey,kn,p11,hkn,hkf⟩ | ⟨rfl,hf⟩);rotate_left
  ·refine ae ?_;exact .inr hf
  simp only at q0 hP p11;subst q0;have hbs:∀s,s<g.ch.length->bs s<X.nx:=fun s hs=>(hR.bl s (by rw[hS.la];exact hs)).2.1;have hcr:∀c∈(cu g i).next,0<=c/\c<g.cg.length:=fun c hc=>by
   have⟨T,_,hTl,hW⟩:=G.walk;have:=hW.cf i au c (by rw[Am,gR];exact hc);omega
  rw[hgxY] at ex;rw[hgyY] at ey;clear gvY gwY hRY hgxY hgyY gv gw hR hS hY sXY sSY ia la;have⟨p1,p2,p4,p5,p8,p9,p10⟩:=hP;try refine ae ?_
  refine cA (ae ?_);refine bB (Q:=fun o A' W=>(o= .normal/\aSH S1 S.nx (X.nx+13) (X.nx+14) mv v w cs bs g m i kn (Z.h.get (X.nx+13)) (Z.h.get (X.nx+14)) 0 A' W)\/(o= .ret/\aD1 S1 g m A' W)) (aO (bX (aSH S1 S.nx (X.nx+13) (X.nx+14) mv v w cs bs g m i kn (Z.h.get (X.nx+13)) (Z.h.get (X.nx+14))) ?_ (cu g i).next.length _ _ ⟨rfl,sSZ,au,au,0,I',As,au,gvZ,gwZ,hRZ,hSZ.congr (fun _ _=>Iff.rfl) (fun j k' _ _ h=>au),(by simp only[↓sU,sD,rE,↓reduceIte,rA,nE,p1,p2,p4,p5,p8,p9,p10]),rfl,rfl,(ah p11),(af)⟩)) ?_
  ·clear p1 p2 p4 p5 p8 p9 p10 p11 gvZ gwZ hRZ hSZ sSZ;rintro k ⟨F,inr⟩ W ⟨q0,hW,lxW,lyW,kk,I,As,hkk,gv,gw,hR,hS,hP,exW,eyW,p11,p12⟩;simp only at q0 hP p11 p12;subst q0;rw[ex] at exW;rw[ey] at eyW;have⟨p1,p2,p4,p5,p8,p9,p10⟩:=hP;have sW:=s1.trans hW;have hxaW:=hxa.same sW;refine gH (fh p9 p12 @aB @aA (dG exW) hxaW.len @Ah ?_);by_cases hkl:kk<(cu g i).next.length;rotate_left
   ·refine aQ im (bT ?_);refine ae ?_;have hk0:k=0:=by omega
    subst hk0;exact .inl ⟨rfl,hW,lxW,lyW,kk,I,As,hkk,gv,gw,hR,hS,(by simp only[↓sU,sD,rE,↓reduceIte,rA,nE,p1,p2,p4,p5,p8,p9,p10]),by rw[exW,ex],by rw[eyW,ey],(ah p11),(ah p12)⟩
   refine aS im (aK ?_);try refine ae ?_
   have hmW:=hm.same sW;have hcm:(cu g i).next.getD kk 0∈(cu g i).next:=by rw[Ad,Ab hkl];exact Bt _
   have⟨hc0,hcN⟩:=hcr _ hcm;have hiac:=hxaW.df hkl;have hlac:=hxaW.ld hkl;have⟨b1,o1,hp1,lb1⟩:=bN.place hxaW hkl;rw[hp1] at hiac hlac;have hnc:=qK (k:=.i64) hc0;have hcl:((cu g i).next.getD kk 0).toNat<m.length:=by rw[M.len];omega
   have hiam:=hmW.df hcl;have hlam:=hmW.ld hcl;have⟨b2,o2,hp2,lb2⟩:=bN.place hmW hcl;rw[hp2] at hiam hlam;have hyaW:=hya.same sW;have hywW:=hyw.same sW;have hypW:=hyp.same sW;have sxa:=bN.self hxa;have smv:=bN.self hm;have w2:IntKind.i64.wrap ((kk:Int)+1)=((kk+1:Nat):Int):=by have:=G.nxt i hlt;rw[wrap_i64 au au];omega
   have hzz:lM (cu g (gE m i)).next 0 (m.getD ((cu g i).next.getD kk 0).toNat 0)=jZ g m i kk:=rfl;refine aD (aO (aD (iD (fun _=>False) ?_)));intro W1 w1';simp only[↓sU,sD,rE,↓reduceIte,rA,p1,p9,p10,p12,aB,aP,aA,ldN eyW,dG exW,lxW,lyW,An,sy,sxa,aJ,hiac,hlac,lb1,hnc,hiam,hlam,lb2];refine dR rfl ?_;refine ae ?_;refine aW (aJk H ⟨ya,yw,yp,rfl,hyaW.same w1',hywW.same w1',hypW.same w1'⟩ (by have:=G.nxt _ htoN;omega)) ?_;rintro _ W2 ⟨rfl,hW2⟩;refine⟨hW2,?_⟩;rw[hzz];have sWW:=w1'.trans hW2;have sS2:=hW.trans sWW;have sW2:=s1.trans sS2;have exV:=(sWW.2 _ lxW).trans exW;have eyV:=(sWW.2 _ lyW).trans eyW;have gvV:=gv.step sWW;have gwV:=gw.step sWW;have hRV:=hR.same sWW;have lxV:X.nx+13<W2.nx:=Ae lxW sWW.1;have lyV:X.nx+14<W2.nx:=Ae lyW sWW.1;have hxwV:=hxw.same sW2;have hywV:=hyw.same sW2;clear hzz gv gw hR exW eyW lxW lyW hiac hlac hiam hlam hnc;generalize hzd:jZ g m i kk=z at *;refine aD (bB (Q:=fun o A' V=>(o= .normal/\A'.inr=false/\V=⟨W2.h,W2.nx+35⟩/\nE A'.F S.nx (X.nx+13) (X.nx+14) mv v w i/\aC 11 A'.F= .bool kn/\aC 12 A'.F= .int .i64 (kk:Int)/\aC 13 A'.F= .int .i64 z/\0<=z/\aBL g m i kk/\((cu g i).kind=2->kn=true->(As.getD (cu g i).info.toNat []).getD kk 0=z))\/(o= .ret/\aD1 S1 g m A' V)) (aD (jK ?_)) ?_)
   ·by_cases c1:z<0
    ·refine de (Ac c1) ?_;refine aS (af) ?_;refine cA (ae ?_);refine aT ?_;refine .inr ⟨rfl,sS2.trans (Same.nx _ _),aOM hlt hkl (by rw[hzd];omega),?_⟩;simp only[↓sU,sD,rE,↓reduceIte,rA]
    have hz0:0<=z:=Int.not_lt.1 c1;have hnz:=qK (k:=.i64) hz0;have hzl:z.toNat<(cu g (gE m i)).next.length:=by rw[<-hzd];exact aKg (by rw[hzd];exact hz0)
    by_cases k1:(cu g i).kind=1
    ·have k2:(cu g (gE m i)).kind=1:=by rw[<-hL.1];exact k1
     have l1:kk<(cu g i).weights.length:=by rw[G.wts i hlt k1];exact hkl
     have l2:z.toNat<(cu g (gE m i)).weights.length:=by rw[G.wts _ htoN k2];exact hzl
     have i1:=hxwV.df l1;have i2:=hxwV.ld l1;have i3:=hywV.df l2;have i4:=hywV.ld l2;have sxw:=bN.self hxw;have syw:=bN.self hyw;have hkn0:kn=false:=hkf au;subst hkn0;by_cases c2:(cu g i).weights.getD kk 0=(cu g (gE m i)).weights.getD z.toNat 0
     ·simp only[↓sU,sD,rE,↓reduceIte,rA,Aa c1,p9,p10,p11,p12,aB,aP,aA,fI exV,dT exV,dT eyV,Ac k1,sxw,syw,aJ,hnz,i1,i2,i3,i4,Aa (show ¬ (cu g i).weights.getD kk 0≠(cu g (gE m i)).weights.getD z.toNat 0 from fun h=>h c2)];refine aQ (af) (aK ?_);refine .inl ⟨rfl,rfl,rfl,?_,?_,?_,?_,Int.not_lt.1 c1,fun _=>by rw[hzd];exact c2,fun h=>au⟩
      ·simp only[↓sU,sD,rE,↓reduceIte,rA,nE,p1,p2,p4,p5,p8,p9,p10]
      ·simp only[↓sU,sD,rE,↓reduceIte,rA,p11]
      ·simp only[↓sU,sD,rE,↓reduceIte,rA,p12]
      ·simp only[↓sU,sD,rE,↓reduceIte,rA]
     ·simp only[↓sU,sD,rE,↓reduceIte,rA,Aa c1,p9,p10,p11,p12,aB,aP,aA,fI exV,dT exV,dT eyV,Ac k1,sxw,syw,aJ,hnz,i1,i2,i3,i4,Ac (show(cu g i).weights.getD kk 0≠(cu g (gE m i)).weights.getD z.toNat 0 from c2)];refine aS (af) ?_;refine cA (ae ?_);refine aT ?_;refine .inr ⟨rfl,sS2.trans (Same.nx _ _),aHv hlt hkl (fun h=>c2 (by have:=h k1;rw[hzd] at this;exact this)),?_⟩;simp only[↓sU,sD,rE,↓reduceIte,rA]
    have hW0:aBL g m i kk:=fun h=>absurd h k1;cases kn with
    | false=>
     refine fj (Aa c1) p9 p11 @aB @aP @aA (fI exV) (Aa k1) ?_;refine aQ (af) (aK ?_);refine .inl ⟨rfl,rfl,rfl,?_,?_,?_,?_,Int.not_lt.1 c1,hW0,fun _=>trivial⟩
     ·simp only[↓sU,sD,rE,↓reduceIte,rA,nE,p1,p2,p4,p5,p8,p9,p10]
     ·simp only[↓sU,sD,rE,↓reduceIte,rA,p11]
     ·simp only[↓sU,sD,rE,↓reduceIte,rA,p12]
     ·simp only[↓sU,sD,rE,↓reduceIte,rA]
    | true=>
     have hk:(cu g i).kind=2:=Decidable.byContradiction fun h=>by have:=hkf h;cases this
     have⟨a1,a2,a3⟩:=G.inf i hlt hk;have hni:=qK (k:=.i64) a1;have hs:(cu g i).info.toNat<g.ch.length:=by omega
     have hsA:(cu g i).info.toNat<As.length:=by rw[hS.la];exact hs
     have hls:=hS.ls _ hs;rw[show(((cu g i).info.toNat:Nat):Int)=(cu g i).info by omega,a3] at hls;rcases gwV with⟨_,h0',_⟩ | ⟨wb,hw,hwb0,hwb1,hwb2,hwb3⟩
     ·rw[h0'] at hs;exact absurd hs (Ca _)
     have hia:=fQ (b:=wb) (o:=true) hs;have hld:=cH hwb2 (hRV.cl _ hsA);have hb2:=(hRV.bl _ hsA).2.2;have hkA:kk<(As.getD (cu g i).info.toNat []).length:=by omega
     have hia2:=fQ (b:=bs (cu g i).info.toNat) (o:=false) hkA;have hld2:=aE1 hb2 hkA;have srow:cO (sT (bs (cu g i).info.toNat) (As.getD (cu g i).info.toNat [])) (sT (bs (cu g i).info.toNat) (As.getD (cu g i).info.toNat []))=true:=mE ..;unfold sT at hld srow;by_cases c3:(As.getD (cu g i).info.toNat []).getD kk 0=z
     ·simp only[↓sU,sD,rE,↓reduceIte,rA,Aa c1,p5,p9,p10,p11,p12,aB,aP,aA,fI exV,dF exV,Aa k1,hw,hni,hia,hld,srow,aJ,hia2,hld2,Aa (show ¬ (As.getD (cu g i).info.toNat []).getD kk 0≠z from fun h=>h c3)];refine aQ (af) (aK ?_);refine .inl ⟨rfl,rfl,rfl,?_,?_,?_,?_,Int.not_lt.1 c1,hW0,fun _=>c3⟩
      ·simp only[↓sU,sD,rE,↓reduceIte,rA,nE,p1,p2,p4,p5,p8,p9,p10,hw]
      ·simp only[↓sU,sD,rE,↓reduceIte,rA,p11]
      ·simp only[↓sU,sD,rE,↓reduceIte,rA,p12]
      ·simp only[↓sU,sD,rE,↓reduceIte,rA]
     ·simp only[↓sU,sD,rE,↓reduceIte,rA,Aa c1,p5,p9,p10,p11,p12,aB,aP,aA,fI exV,dF exV,Aa k1,hw,hni,hia,hld,srow,aJ,hia2,hld2,Ac (show(As.getD (cu g i).info.toNat []).getD kk 0≠z from c3)];have⟨j,j1,j2,j3⟩:=(hkn hk).1 rfl;refine aS (af) ?_;refine cA (ae ?_);refine aT ?_;refine .inr ⟨rfl,sS2.trans (Same.nx _ _),hS.no_act G hlt au hk j2 j3 hkl (.inl j1) (by rw[hzd];exact c3),?_⟩;simp only[↓sU,sD,rE,↓reduceIte,rA]
   clear p1 p2 p4 p5 p8 p9 p10 p11 p12;rintro o ⟨F,inr⟩ V (⟨rfl,q0,rfl,hP,p11,p12,p13,hz0,hwe,hac⟩ | ⟨rfl,hf⟩);rotate_left
   ·refine ae ?_;exact .inr hf
   simp only at q0 hP p11 p12 p13;subst q0;have⟨p1,p2,p4,p5,p8,p9,p10⟩:=hP;try refine ae ?_
   refine bB (Q:=fun o A' V=>o= .normal/\A'.inr=false/\Same S1 V/\W2.nx<=V.nx/\(∃As',fP 1 S1 V v g.ch.length (bD I)/\fP 1 S1 V w g.ch.length cs/\Rws S1 V bs cs As'/\Seen g m (fun j=>j<i\/j=i) (fun j k'=>(j<i\/(j=i/\k'<kk))\/(j=i/\k'=kk)) I As')/\nE A'.F S.nx (X.nx+13) (X.nx+14) mv v w i/\V.h.get (X.nx+13)=W2.h.get (X.nx+13)/\V.h.get (X.nx+14)=W2.h.get (X.nx+14)/\aC 11 A'.F= .bool kn/\aC 12 A'.F= .int .i64 (kk:Int)) (aD (aL ?_)) ?_
   ·refine fe p9 @aB @aA (fI exV) ?_;by_cases hk:(cu g i).kind=2;rotate_left
    ·refine aQ (iu (Aa hk)) (aK ?_);refine⟨rfl,rfl,sS2.trans (Same.nx _ _),Bq _ _,⟨As,gvV.step (Same.nx _ _),gwV.step (Same.nx _ _),hRV.same (Same.nx _ _),hS.kid (by rw[hzd];exact hz0) hwe hk⟩,?_,rfl,rfl,?_,?_⟩
     ·simp only[↓sU,sD,rE,↓reduceIte,rA,nE,p1,p2,p4,p5,p8,p9,p10]
     ·simp only[↓sU,sD,rE,↓reduceIte,rA,p11]
     ·simp only[↓sU,sD,rE,↓reduceIte,rA,p12]
    refine aS (iu (Ac hk)) ?_;have⟨a1,a2,a3⟩:=G.inf i hlt hk;have hni:=qK (k:=.i64) a1;have hs:(cu g i).info.toNat<g.ch.length:=by omega
    have hsA:(cu g i).info.toNat<As.length:=by rw[hS.la];exact hs
    have hls:=hS.ls _ hs;rw[show(((cu g i).info.toNat:Nat):Int)=(cu g i).info by omega,a3] at hls;have hw':=gwV;rcases hw' with⟨_,h0',_⟩ | ⟨wb,hw,hwb0,hwb1,hwb2,hwb3⟩
    ·rw[h0'] at hs;exact absurd hs (Ca _)
    have hia:=fQ (b:=wb) (o:=true) hs;have hld:=cH hwb2 (hRV.cl _ hsA);have hb2:=(hRV.bl _ hsA).2.2;have hb1:=(hRV.bl _ hsA).1;have hkA:kk<(As.getD (cu g i).info.toNat []).length:=by omega
    have hia2:=fQ (b:=bs (cu g i).info.toNat) (o:=false) hkA;have hbX:=hbs _ hs;unfold sT at hld;refine aL ?_;simp only[↓sU,sD,rE,↓reduceIte,rA,p5,p9,p12,p13,aB,aA,dF exV,hw,hni,hia,hld,aJ,hia2];refine fN (fun call=>by refine ew @dL @dD ?_;exact yI (S:=⟨W2.h,W2.nx+35⟩) hb2 hkA) ?_;refine ae ?_;have hSk:=hS.kidM G hlt hkl (by rw[hzd];exact hz0) hwe hk fun j _ hj hkj e=>by rw[hzd];exact hac hk ((hkn hk).2 ⟨j,au,hkj,e⟩)
    rw[hzd] at hSk;refine⟨(sS2.trans (Same.nx _ _)).put hb1 _,Bq _ _,⟨_,gvV.move (Bq _ _) (fun c hc=>?_),(by rw[<-hw];exact gwV.move (Bq _ _) (fun c hc=>by simp only;rw[ef,if_neg (Cg (aKx hb2 (gwV.blk hc).2.2))])),hRV.put hsA (Bq _ _),hSk⟩,?_,?_,?_,?_,?_⟩
    ·simp only;rw[ef,if_neg (Cg (aKx hb2 (gvV.blk hc).2.2))]
    ·simp only[↓sU,sD,rE,↓reduceIte,rA,nE,p1,p2,p4,p5,p8,p9,p10,hw]
    ·try simp only
     rw[ef,if_neg au]
    ·try simp only
     rw[ef,if_neg au]
    ·simp only[↓sU,sD,rE,↓reduceIte,rA,p11]
    ·simp only[↓sU,sD,rE,↓reduceIte,rA,p12]
   clear p1 p2 p4 p5 p8 p9 p10 p11 p12 p13;rintro o ⟨F,inr⟩ V ⟨rfl,q0,sSV,hVn,⟨As',gv',gw',hR',hS'⟩,hP,exV',eyV',p11,p12⟩;simp only at q0 hP p11 p12;subst q0;have⟨p1,p2,p4,p5,p8,p9,p10⟩:=hP;try refine ae ?_
   refine aL (ew p12 w2 ?_);refine⟨k - 1,au,rfl,sSV,au,au,kk+1,I,As',au,gv',gw',hR',hS'.congr (fun _ _=>Iff.rfl) (fun j k' _ _ h=>au),?_,?_,?_,?_,?_⟩
   ·simp only[↓sU,sD,rE,↓reduceIte,rA,nE,p1,p2,p4,p5,p8,p9,p10]
   ·rw[exV',exV,ex]
   ·rw[eyV',eyV,ey]
   ·simp only[↓sU,sD,rE,↓reduceIte,rA,p11]
   ·simp only[↓sU,sD,rE,↓reduceIte,rA]
  clear p1 p2 p4 p5 p8 p9 p10 p11 gvZ gwZ hRZ hSZ sSZ;rintro o ⟨F,inr⟩ V (⟨rfl,q0,hV,_,_,kk,I2,As2,hkk,gv2,gw2,hR2,hS2,hP,_,_,p11,p12⟩ | ⟨rfl,hf⟩);rotate_left
  ·refine ae ?_;exact .inr hf
  simp only at q0 hP;subst q0;have⟨p1,p2,p4,p5,p8,p9,p10⟩:=hP;try refine ae ?_
  refine aL (ew p8 w1 ?_);refine⟨k - 1,au,rfl,hV,i+1,I2,As2,au,gv2,gw2,hR2,hS2.congr (fun j _=>au) (fun j k' _ hk' h=>?_),by refine⟨?_,?_,?_,?_,?_⟩<;>simp only[↓sU,sD,rE,↓reduceIte,rA,p1,p2,p4,p5]⟩;rcases De j i with h1 | h1
  ·exact .inl h1
  ·have e:j=i:=by omega
   subst e;exact .inr ⟨rfl,au⟩
 rintro o ⟨F,inr⟩ Y (⟨rfl,q0,hY,i,I,As,hik,gv',gw',hR',hS,p1,p2,p4,p5,p8⟩ | ⟨rfl,hf⟩);rotate_left
 ·have⟨h1,h2,h3,h4,h5⟩:=hf;refine ez h3 h4 h5 ?_;exact⟨s1.trans h1,_,_,false,rfl,⟨fun h=>(by cases h),fun a=>absurd a h2⟩,fun h=>by cases h⟩
 simp only at q0 p4 p5;subst q0
 replace hS:Seen g m (fun _=>True) (fun _ _=>True) I As:=hS.congr (fun j hj=>⟨fun _=>trivial,fun _=>au⟩) (fun j _ hj _ _=>au)
 clear p8 hik hX gv gw hR;try refine ae ?_
 refine aD (bB (Q:=fun o A' Z=>(o= .normal/\aSW Y v w I g.ch.length 0 A' Z)\/(o= .ret/\aD1 Y g m A' Z)) (aD (aL ?_)) ?_)
 ·refine ae ?_;refine aO (bX (aSW Y v w I g.ch.length) ?_ g.ch.length _ _ ⟨rfl,eu _,0,au,fun a b _ ha=>au,by refine⟨?_,?_,?_⟩<;>simp only[↓sU,sD,rE,↓reduceIte,rA,p4,p5]⟩);clear p4 p5;rintro k ⟨F,inr⟩ Z ⟨q0,hZ,i,hik,hd,p4,p5,p14⟩;simp only at q0 p4 p5 p14;subst q0;have hlen:=gv'.len;refine gH (ez p4 p14 hlen ?_);by_cases hlt:i<g.ch.length;rotate_left
  ·refine aQ im (bT ?_);refine ae ?_;have hk0:k=0:=by omega
   subst hk0;exact .inl ⟨rfl,hZ,i,hik,hd,by refine⟨?_,?_,?_⟩<;>simp only[↓sU,sD,rE,↓reduceIte,rA,p4,p5,p14]⟩
  refine aS im (aK ?_);try refine ae ?_
  have w1:=ed i
  refine aD (aO (aD (aL ?_)));refine ae ?_;refine bB (Q:=fun o A' V=>(o= .normal/\aTU Z v w I i 0 A' V)\/(o= .ret/\aD1 Y g m A' V)) (aO (bX (aTU Z v w I i) ?_ i _ _ ⟨rfl,eu _,0,au,fun b hb=>au,by refine⟨?_,?_,?_,?_⟩<;>simp only[↓sU,sD,rE,↓reduceIte,rA,p4,p5,p14]⟩)) ?_
  ·clear p4 p5 p14;rintro k' ⟨F,inr⟩ V ⟨q0,hV,l,hlk,hd',p4,p5,p14,p15⟩;simp only at q0 p4 p5 p14 p15;subst q0;refine gH (ew p14 p15 ?_);by_cases hl:l<i;rotate_left
   ·refine aQ im (bT ?_);refine ae ?_;have hk0:k'=0:=by omega
    subst hk0;exact .inl ⟨rfl,hV,l,hlk,hd',by refine⟨?_,?_,?_,?_⟩<;>simp only[↓sU,sD,rE,↓reduceIte,rA,p4,p5,p14,p15]⟩
   refine aS im (aK ?_);try refine ae ?_
   have gvV:=gv'.step (hZ.trans hV);have w2:=ed l
   rcases gvV with⟨_,h0',_⟩ | ⟨vb,hv,_,_,hvb2,_⟩
   ·rw[h0'] at hlt;exact absurd hlt (Ca _)
   have ll:l<g.ch.length:=by omega
   have hi1:=fQ (b:=vb) (o:=true) hlt;have hi2:=fQ (b:=vb) (o:=true) ll;have hl1:=aE1 hvb2 (show i<I.length by rw[hS.li];exact hlt);have hl2:=aE1 hvb2 (show l<I.length by rw[hS.li];exact ll);refine aD (aO (aD (jK ?_)));simp only[↓sU,sD,rE,↓reduceIte,rA,p4,p14,p15,hv,aJ,hi1,hi2,hl1,hl2];by_cases he:I.getD i 0=I.getD l 0
   ·refine aS (iu (Ac he)) ?_;refine cA (ae ?_);refine aT ?_;refine .inr ⟨rfl,(hZ.trans hV).trans (Same.nx _ _),hS.no_inj G hlt ll au he,?_⟩;simp only[↓sU,sD,rE,↓reduceIte,rA]
   ·refine aQ (iu (Aa he)) (aK ?_);try refine ae ?_
    refine aL (ew p15 w2 ?_);refine⟨k' - 1,au,rfl,hV.trans (Same.nx _ _),l+1,au,fun b hb=>?_,by refine⟨?_,?_,?_,?_⟩<;>simp only[↓sU,sD,rE,↓reduceIte,rA,p4,hv,p5,p14]⟩;by_cases hbl:b=l
    ·rw[hbl];exact he
    ·exact hd' b au
  clear p4 p5 p14;rintro o ⟨F,inr⟩ V (⟨rfl,q0,hV,l,hlk,hd',p4,p5,p14,p15⟩ | ⟨rfl,hf⟩);rotate_left
  ·refine ae ?_;exact .inr hf
  simp only at q0 p4 p5 p14;subst q0;try refine ae ?_
  refine aL (ew p14 w1 ?_);refine⟨k - 1,au,rfl,hZ.trans hV,i+1,au,fun a b hb ha=>?_,by refine⟨?_,?_,?_⟩<;>simp only[↓sU,sD,rE,↓reduceIte,rA,p4,p5]⟩;by_cases hai:a=i
  ·rw[hai];exact hd' b au
  ·exact hd a b hb au
 clear p4 p5;rintro o ⟨F,inr⟩ Z (⟨rfl,q0,hZ,i,hik,hd,p4,p5,p14⟩ | ⟨rfl,hf⟩);rotate_left
 ·have⟨h1,h2,h3,h4,h5⟩:=hf;refine ez h3 h4 h5 ?_;exact⟨s1.trans (hY.trans h1),_,_,false,rfl,⟨fun h=>(by cases h),fun a=>absurd a h2⟩,fun h=>by cases h⟩
 simp only at q0 p4 p5;subst q0;try refine ae ?_
 refine cA (ew p4 p5 ?_);refine aT (ae ?_);have hi0:i=g.ch.length:=by omega
 subst hi0;have hA:=hS.auto G h0 (hS.inj G hd);refine⟨s1.trans (hY.trans hZ),v,w,true,rfl,⟨fun _=>hA,fun _=>rfl⟩,fun _=>⟨?_,cs,bs,(gw'.step hZ).low s1.1,?_⟩⟩
 ·rw[<-hS.dx G];exact(gv'.step hZ).low s1.1
 ·rw[<-hS.dy G];exact(hR'.same hZ).low s1.1
structure jN(g:aX)(m:bu)(n e:Nat)(I F:bu)(A:bt):Prop where
 s:Seen g m (fun j=>j<n) (fun j k=>(cu g j).next.getD k 0<(e:Int)) I A
 lf:F.length=g.ch.length
 fv:∀j,j<g.cg.length->j<n->(cu g j).kind=2->F.getD (cu g (gE m j)).info.toNat 0=(cu g j).info
 fw:∀t,t<g.ch.length->0<=F.getD t 0->∃j,j<g.cg.length/\j<n/\(cu g j).kind=2/\(cu g (gE m j)).info=(t:Int)
 aw:∀s,s<g.ch.length->∀k,k<(A.getD s []).length->0<=(A.getD s []).getD k 0->∃j,j<g.cg.length/\(cu g j).kind=2/\(cu g j).info=(s:Int)/\k<(cu g j).next.length/\(cu g j).next.getD k 0<(e:Int)
section
variable {g:aX}{m:bu}{I F:bu}{A:bt}{n e:Nat}
def jN.node(h:jN g m n e I F A)(i:aDh g m n)(f:(cu g n).kind≠2):jN g m (n+1) e I F A:=
 ⟨(h.s.node i f).congr (fun j _=>au) (fun _ _ _ _ h=>h),h.lf,fun j k p d=>by
  by_cases e:j=n
  .rw[e] at d;exact absurd d f
  .exact h.fv j k au d,fun t l o=>by have⟨j,a,b,c⟩:=h.fw t l o;exact⟨j,a,au,c⟩,h.aw⟩
def jN.nodeM(G:eO g)(M:aBb g m)(h:jN g m n e I F A)(hi:n<g.cg.length)(p:aDh g m n)(l:(cu g n).kind=2)(q:0<=I.getD (cu g n).info.toNat 0->I.getD (cu g n).info.toNat 0=(cu g (gE m n)).info)(r:0<=F.getD (cu g (gE m n)).info.toNat 0->F.getD (cu g (gE m n)).info.toNat 0=(cu g n).info):
  jN g m (n+1) e (I.set (cu g n).info.toNat (cu g (gE m n)).info) (F.set (cu g (gE m n)).info.toNat (cu g n).info) A:=by
 have⟨v,w⟩:=rH G M hi p l;have f:(cu g (gE m n)).info.toNat<F.length:=by rw[h.lf];omega
 refine⟨(h.s.nodeM G M hi p l q).congr (fun j _=>au) (fun _ _ _ _ h=>h),by rw[Aw];exact h.lf,fun j i x d=>?_,fun t s o=>?_,h.aw⟩
 .rw[oK f];by_cases e:j=n
  .rw[e,if_pos rfl]
  .have k:=h.fv j i au d;split
   .rename_i y;have:=(rH G M i (h.s.lk j i au) d);have u:(cu g (gE m n)).info=(cu g (gE m j)).info:=by omega
    rw[<-u] at k;rw[<-r (by rw[k];exact(G.inf j i d).1),k]
   .exact k
 .rw[oK f] at o;split at o
  .exact⟨n,hi,au,l,au⟩
  .have⟨j,a,b,c⟩:=h.fw t s o;exact⟨j,a,au,c⟩
def eO.kids(G:eO g):∀j,j<g.cg.length->∀k,k<(cu g j).next.length->(j:Int)<(cu g j).next.getD k 0/\(cu g j).next.getD k 0<g.cg.length:=fun j f k a=>by
 have⟨T,_,b,c⟩:=G.walk;have d:(cu g j).next.getD k 0∈(cu g j).next:=by rw[Ad,Ab a];exact Bt _
 have:=c.cf j au _ (by rw[Am,gR];exact d);omega
def eO.only(G:eO g){k j' k':Nat}(q:j<g.cg.length)(c:k<(cu g j).next.length)(l:j'<g.cg.length)(b:k'<(cu g j').next.length)(e:(cu g j).next.getD k 0=(cu g j').next.getD k' 0):j=j'/\k=k':=by
 have⟨T,_,o,d⟩:=G.walk;have mem:∀ {j k:Nat},k<(cu g j).next.length->(cu g j).next.getD k 0∈(cu g j).next:=fun {j k} c=>by rw[Ad,Ab c];exact Bt _
 have i:=(d.cf j au _ (by rw[Am,gR];exact mem c)).2.2;have p:=(d.cf j' au _ (by rw[Am,gR];exact mem b)).2.2;rw[e,p] at i;have f:j=j':=by have:=Bh i;omega
 subst f;have a:=d.inc j au;rw[Am,gR] at a;refine⟨rfl,?_⟩;rw[Ad,Ad,Ab c,Ab b] at e;have e:(cu g j).next[k]=(cu g j).next[k']:=e;rcases Dw k k' with h|h|h
 .have:=Fb.1 a k k' c b h;omega
 .exact h
 .have:=Fb.1 a k' k b c h;omega
def jN.kid(G:eO g)(h:jN g m n n I F A){k:Nat}(hi:i<g.cg.length)(f:k<(cu g i).next.length)(q:(cu g i).next.getD k 0=(n:Int))(l:0<=jZ g m i k)(r:aBL g m i k)(o:(cu g i).kind≠2):jN g m n (n+1) I F A:=
 ⟨(h.s.kid l r o).congr (fun _ _=>Iff.rfl) (fun j k' t p h=>by
  by_cases e:(cu g j).next.getD k' 0=(n:Int)
  .exact .inr (G.only t p hi f (by rw[e,q]))
  .exact .inl au),h.lf,h.fv,h.fw,fun s u k o l=>by have⟨j,a,b,c,d,e⟩:=h.aw s u k o l;exact⟨j,a,b,c,d,au⟩⟩
def jN.kidM(G:eO g)(h:jN g m n n I F A){k:Nat}(hi:i<g.cg.length)(p:k<(cu g i).next.length)(x:(cu g i).next.getD k 0=(n:Int))(B:0<=jZ g m i k)(C:aBL g m i k)(t:(cu g i).kind=2)
  (y:0<=(A.getD (cu g i).info.toNat []).getD k 0->(A.getD (cu g i).info.toNat []).getD k 0=jZ g m i k):jN g m n (n+1) I F (A.set (cu g i).info.toNat ((A.getD (cu g i).info.toNat []).set k (jZ g m i k))):=by
 have⟨N,O,z⟩:=G.inf i hi t;have u:(cu g i).info.toNat<A.length:=by rw[h.s.la];omega
 have v:=h.s.ls (cu g i).info.toNat au;rw[show(((cu g i).info.toNat:Nat):Int)=(cu g i).info by omega,z] at v;refine⟨(h.s.kidM G hi p B C t fun j r w q e=>?_).congr (fun _ _=>Iff.rfl) (fun j k' r f h=>?_),h.lf,h.fv,h.fw,fun s D k' f l=>?_⟩
 .have E:=(G.inf j r q).2.2;rw[e,z] at E;have⟨H,_,J⟩:=h.s.kd j k r au w;have:=J q;rw[e] at this;exact y (by rw[this];exact H)
 .by_cases e:(cu g j).next.getD k' 0=(n:Int)
  .exact .inr (G.only r f hi p (by rw[e,x]))
  .exact .inl au
 .have o:k'<(A.getD s []).length->0<=(A.getD s []).getD k' 0->∃j,j<g.cg.length/\(cu g j).kind=2/\(cu g j).info=(s:Int)/\k'<(cu g j).next.length/\(cu g j).next.getD k' 0<((n+1:Nat):Int):=fun K L=>by
   have⟨j,a,b,c,d,e⟩:=h.aw s D k' K L;exact⟨j,a,b,c,d,au⟩
  rw[vN u] at f l;split at f
  .rename_i e;rw[if_pos e] at l;rw[Aw] at f;rw[oK au] at l;split at l
   .rename_i M;subst M;exact⟨i,hi,t,by clear o y l f h;omega,p,by rw[x];exact Int.ofNat_lt.2 (Dj n)⟩
   .rw[e] at f l;exact o f l
  .rename_i e;rw[if_neg e] at l;exact o f l
def jN.no_from(h:jN g m n e I F A)(G:eO g)(M:aBb g m)(hi:i<g.cg.length)(f:aDh g m i)(b:(cu g i).kind=2)(k:0<=F.getD (cu g (gE m i)).info.toNat 0)(l:F.getD (cu g (gE m i)).info.toNat 0≠(cu g i).info):¬jD g m:=fun a=>by
 have⟨p,q⟩:=rH G M hi f b;have⟨j,c,o,d,r⟩:=h.fw _ au k;have e:(cu g (gE m j)).info=(cu g (gE m i)).info:=by omega
 have:=h.fv j c o d;rw[e] at this;exact l (this.trans (a.inj j i c hi d b e))
def jN.no_act(h:jN g m n e I F A)(G:eO g){k:Nat}(hi:i<g.cg.length)(c:(cu g i).kind=2)(a:k<(cu g i).next.length)(d:0<=(A.getD (cu g i).info.toNat []).getD k 0)(f:(A.getD (cu g i).info.toNat []).getD k 0≠jZ g m i k):¬jD g m:=by
 have⟨q,r,l⟩:=G.inf i hi c;have b:=h.s.ls (cu g i).info.toNat au;rw[show(((cu g i).info.toNat:Nat):Int)=(cu g i).info by omega,l] at b;have⟨j,o,p,s,b4,b5⟩:=h.aw (cu g i).info.toNat au k au d;exact h.s.no_act G hi o c p au a b5 f
def aBQ(g:aX):bt:=g.ch.map fun x=>List.replicate x.cr.toNat (-1)
def jN.start(G:eO g)(m:bu):jN g m 0 1 (List.replicate g.ch.length (-1)) (List.replicate g.ch.length (-1)) (aBQ g):=by
 have a:∀ (n t:Nat),t<n->¬0<=(List.replicate n (-1:Int)).getD t 0:=fun n t i b=>by
  rw[Ad,Ch,if_pos i] at b;exact absurd b az
 have d:∀s,s<g.ch.length->(aBQ g).getD s []=List.replicate (cv g (s:Int)).cr.toNat (-1):=fun s c=>by
  unfold aBQ cv;rw[Ad,Az,Ad,Ay,Ab c];rfl
 refine⟨⟨Aq ..,by unfold aBQ;rw[Al],fun s c=>?_,fun j _ h=>au,fun s c b=>absurd b (a _ _ c),fun j _ h=>au,fun j k h f o=>?_⟩,Aq ..,fun j _ h=>au,fun t i b=>absurd b (a _ _ i),fun s c k f b=>?_⟩
 .have⟨f1,f2,f3⟩:=G.fst s c;have l:=(G.inf _ f1 f2).2.2;rw[f3] at l;rw[d s c,Aq];omega
 .have:=(G.kids j h k f).1;omega
 .rw[d s c] at f b;rw[Aq] at f;exact absurd b (a _ _ f)
def jN.full(h:jN g m g.cg.length g.cg.length I F A)(G:eO g)(M:aBb g m)(root:m.getD 0 0=0):jD g m/\I=dx g m/\A=dy g m:=by
 have b:Seen g m (fun _=>True) (fun _ _=>True) I A:=h.s.congr (fun j a=>⟨fun _=>trivial,fun _=>a⟩) fun j k a f _=>(G.kids j a k f).2;refine⟨b.auto G root fun i j hi a c d e=>?_,b.dx G,b.dy G⟩;rw[<-h.fv i hi hi c,<-h.fv j a a d,e]
end
def aND{m:bu}{T:List cS}(u:WF (dN g) 0 (-1) T)(D:T.length=g.cg.length)(M:aBb g m){k:Nat}(hi:i<g.cg.length)(E:((cu g i).next.getD k 0).toNat<g.cg.length):
  ((T.map (·.1)).getD (gE m ((cu g i).next.getD k 0).toNat) 0=((gE m i:Nat):Int)->0<=jZ g m i k/\jZ g m i k=(mO g).getD (gE m ((cu g i).next.getD k 0).toNat) 0)/\((T.map (·.1)).getD (gE m ((cu g i).next.getD k 0).toNat) 0≠((gE m i:Nat):Int)->¬0<=jZ g m i k):=by
 have⟨w,G⟩:=M.at E;have x:=(M.at hi).2;unfold jZ;rw[w];generalize gE m ((cu g i).next.getD k 0).toNat=v at *;generalize gE m i=t at *;have d:(T.map (·.1)).getD v 0=(jY T v).getD 0:=by
  unfold jY;rw[Ad,Az]
 have a:∃p,jY T v=some p:=by
  unfold jY;rw[Ab (au:v<T.length)];exact⟨_,rfl⟩
 have⟨p,f⟩:=a;rw[d,f];constructor
 .intro h;have h:p=(t:Int):=h;subst h;by_cases v0:v=0
  .subst v0;rw[u.root] at f;have:=Bh f;omega
  have⟨q,H,z,B⟩:=u.pf v au au;rw[f] at z;have J:=Bh z;have y:q=t:=by omega
  subst y;rw[Am,Am,gR] at B;rcases pV (c:=((v:Nat):Int)) (l:=(cu g q).next) (s:=0) with⟨o,b⟩|⟨j,o,b,_⟩
  .exact absurd B b
  .have r:=aJ4 u D x (k:=j) (c:=((v:Nat):Int)) (by rw[gR];exact b);rw[Ay] at r;rw[o,r,Am];exact⟨au,rfl⟩
 .intro h C;have h:p≠(t:Int):=h;rcases pV (c:=((v:Nat):Int)) (l:=(cu g t).next) (s:=0) with⟨o,b⟩|⟨j,o,b,_⟩
  .rw[o] at C;exact absurd C az
  .have:=(u.cf t au _ (by rw[Am,gR];exact Ar b)).2.2;rw[show((v:Nat):Int).toNat - 0=v by omega,f,Am] at this;exact h (Bh this)
end Go.Ev.Gl
