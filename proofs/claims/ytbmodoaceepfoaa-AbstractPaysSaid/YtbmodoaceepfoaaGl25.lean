import Derived.Test.YtbmodoaceepfoaaGl24
set_option linter.all false
open Nat renaming reduceEqDiff -> rE, reduceAdd -> rA
set_option maxHeartbeats 0
namespace Go.Ev.Gl
variable {S:St}
def aIy{k:Nat}{t:Type}{E:St->bu->t->Prop}{v:AV}{l:List t}(h:aE k E S v l){n:Nat}(j:n<=l.length):∃v',(∀ (F:Fr) (x:cQ),gL (x.val F)=some n->rS (.slice k) v none (some x) none F=some v')/\aE k E S v' (l.take n):=by
 have m:Nat.ble 0 n=true:=Al (Ct _);rcases h with⟨p,y⟩|⟨b,off,cap,o,cs,rfl,A,u,e,q⟩
 .subst p;obtain rfl:n=0:=by simpa using j
  have w:Nat.ble 0 0=true:=rfl;rcases y with rfl|rfl
  .exact⟨.cr,fun F x d=>by simp only[rS,aKQ,kT,jO,aH,d,w,aL],.inl ⟨rfl,.inl rfl⟩⟩
  .exact⟨.emp,fun F x d=>by simp only[rS,aLa,kT,jO,aH,d,w,aL],.inl ⟨rfl,.inr rfl⟩⟩
 .have r:Nat.ble cap cap=true:=Al (Af _);have s:Nat.ble n cap=true:=Al au;by_cases p:cap=0
  .have z:l= []:=Bj.1 au;subst z;subst p;obtain rfl:n=0:=by simpa using j
   have f:Nat.beq 0 0=true:=rfl;cases o
   .exact⟨.sl b off 0 0 false,fun F x d=>by simp only[rS,aFE,kT,jO,aH,d,r,s,m,f,aL,aR,Dv],.inr ⟨b,off,0,false,cs,rfl,Af _,u,e,fun i a hi=>by simp at hi⟩⟩
   .exact⟨.emp,fun F x d=>by simp only[rS,aFE,kT,jO,aH,d,r,s,m,f,aL,Option.isNone_none],.inl ⟨rfl,.inr rfl⟩⟩
  .have f:Nat.beq cap 0=false:=by rw[Ck];intro h;rw[Bn] at h;omega
   refine⟨.sl b off n cap o,fun F x d=>?_,.inr ⟨b,off,cap,o,cs,by rw[Bx,Nat.min_eq_left j],by rw[Bx];omega,u,e,fun i a hi=>?_⟩⟩
   .simp only[rS,aFE,kT,jO,aH,d,r,s,m,aL,f,aR,Ew,Dz,Bw,Option.isNone_none];cases o<;>rfl
   .rw[List.getElem?_take] at hi;split at hi
    .exact q i a hi
    .cases hi
variable {fns:T fD}
def aM6{a:Nat}{y:Int}(h:0<=y):mnI ((a:Nat):Int) y=((min a y.toNat:Nat):Int):=by
 unfold mnI;split<;>omega
def aSp(r:AV)(Z:St):Prop:=∃ (g:aP) (nv iv v:AV) (L:bo),r= .tup [.agg [jr g.ch,nv,iv],v]/\cR g=0/\aE 6 bT Z nv g.ce/\aE 2 cC Z iv g.cg/\aE 1 nM Z v L/\L.length<=4/\(∀m∈L,gF g m)/\g.ce.length<=30/\∀x∈g.ce,gN g.ch g.cg x
def aJc{lv:AV}{dl:bt}{p c k:Int}{seen:Bool}(H:Has fns)(hl:bN .i64 S lv dl)(V:dl.length<=140737488355328):
  iK fns (.fn 6 [] []) [lv,jr p,jr c,.bool seen,jr k] S fun r Z=>jq S Z/\aSp r Z:=by
 refine cJ H.f6 (by simp) ?_;refine ae ?_;apply bS;apply cB;intro S1 s1 n1 g1;refine am ?_;refine bS (am ?_);refine bJ (am ?_);refine aW (zV H (n:=3) az az) ?_;rintro _ S2 ⟨s2,y,rfl,y1,y2⟩;have w1:IntKind.i64.wrap (1+y)=1+y:=wrap_i64 au au;refine fx w1 ?_;refine bJ (am ?_);refine aW (zV H (n:=2) az az) ?_;rintro _ S3 ⟨s3,z,rfl,z1,z2⟩;have w2:IntKind.i64.wrap (2+z)=((2+z.toNat:Nat):Int):=by rw[wrap_i64 au au];omega
 refine fx w2 ?_;have bv:2<=2+z.toNat/\2+z.toNat<=3:=by omega
 have j:jq S S3:=(s1.trans s2).trans s3;refine bJ (am ?_);refine aW (aIq (cp:=2+z.toNat) (seen:=seen) H (hl.jo j) V au au au) ?_;rintro _ s ⟨s4,one,nv,iv,f,W,t,rfl,u,hi,w⟩;obtain⟨g,A⟩:∃g:aP,g=uP one (2+z.toNat) seen:=⟨_,rfl⟩;have a:cR g=0:=by rw[A];exact(aGp f au).1
 have B:∀x∈g.ce,gN g.ch g.cg x:=by rw[A];exact(aGp f au).2
 have C:g.ce.length<=30:=by
  rw[A,aHR];obtain X|X:z.toNat=0\/z.toNat=1:=by omega
  .rw[X] at t ⊢;have e:mx 1 ((30 - 1) / ((2+0:Nat):Int))=14:=by decide
   have:one.ce.length<=14:=by omega
   omega
  .rw[X] at t ⊢;have e:mx 1 ((30 - 1) / ((2+1:Nat):Int))=9:=by decide
   have:one.ce.length<=9:=by omega
   omega
 have aa:g.ch=1+y:=by rw[A,<-W];rfl
 rw[<-A] at u hi w;rw[<-aa];have G:=gR a
 apply cB;intro S5 s5 n5 g5
 refine dB (b:=s.nx) (aq) (by refine am ?_;exact bB _) g5 rfl rfl ?_;intro S6 v6 k6 g6;refine am ?_
 have o:jq s S6:=v6.jo s5 (Af _);have m4:=s4.1;have bw:=j.1;have m6:=o.1;have ab:S6.h.get S.nx=js [jr 0,.cr,.cr]:=(o.2 _ (by have:=s2.1;have:=s3.1;omega)).trans ((s4.2 _ (by have:=s2.1;have:=s3.1;omega)).trans ((s3.2 _ (ax s2.1)).trans ((s2.2 _ au).trans g1)));have ac:S.nx<S6.nx:=by have:=s2.1;have:=s3.1;omega
 have l6:s.nx<S6.nx:=by omega
 have an:=(j.trans s4).trans o;have D:=aE.jo (E:=bT) bF u o;have I:=aE.jo (E:=cC) bQ hi o;have J:=gE g6;refine bS (c8 J ?_);refine bJ (ae ?_);refine aW (aHs H D I (ax G.n2)) ?_;rintro _ S7 ⟨l,v,rfl,_,hv⟩;have⟨T,hT,ao,Q,K⟩:=hv a;have i:∀m∈nF g T g.ce.length,gF g m:=fun m hm=>(aNQ G hT ao m hm).1;obtain⟨L,M⟩:∃L:bo,L=nF g T g.ce.length:=⟨_,rfl⟩;rw[<-M] at Q i K;have aw:=aE.len Q;have bx:=aE.self Q;rw[a];refine ae ?_;have g7:=(l.2 _ l6).trans g6;have N:=gE g7;have aI:=(l.2 _ ac).trans ab;have aV:=aE.jo (E:=bT) bF D l;have aZ:=aE.jo (E:=cC) bQ I l;have a0:=aE.self aV;have a1:=aE.self aZ;have a2:=an.trans l;have m7:=l.1;have a4:cI (.agg [jr g.ch,nv,iv]) (.agg [jr g.ch,nv,iv])=true:=by
  simp only[cI,kG,a0,a1,fH,jA,decide_true,aL,Dr]
 have ne:¬s.nx=S.nx:=by have:=s2.1;have:=s3.1;omega
 have a5:s.nx<S7.nx:=by omega
 refine aB (iN (fun c=>c=S.nx) ?_);intro Y y0;refine eu N aw a4 a5 ne @Ap ?_;refine dT rfl ?_;refine ae ?_;refine aW (zV H (n:=4) az az) ?_;rintro _ U ⟨u0,q,rfl,q1,q2⟩;refine⟨u0,?_⟩;have w3:IntKind.i64.wrap (1+q)=1+q:=wrap_i64 au au;obtain⟨n,u⟩:∃n:Nat,n=min L.length (1+q).toNat:=⟨_,rfl⟩;have ba:mnI (L.length:Int) (1+q)=(n:Int):=by rw[u];exact aM6 au
 have⟨v',hs,bz⟩:=aIy (n:=n) (aE.jo (E:=nM) fR Q (y0.trans u0)) au;have bb:dU (.dt false [.t 32,.t 35])=false:=rfl;have bd:∀F:Fr,gL (aA 36 F)=some n->rS (.slice 1) v none (some (.t 36)) none F=some v':=fun F h=>hs F (.t 36) h;refine ff w3 bb @rZ @iO @kL @Ag @aGY ba @aDn bd ?_;have d:=y0.trans u0;have mU:=d.1;have be:U.h.get S.nx=js [jr 0,.cr,.cr]:=(d.2 _ au).trans aI;refine aOK (b:=S.nx) rfl (af) (by refine ae ?_;exact bB _) be rfl rfl rfl ?_;intro Z z1 z2 z3;have O:=gE z3;refine c8 @bK ?_;refine aS (dz @eI O ?_);have kZ:∀b,b<U.nx->b≠S.nx->Z.h.get b=U.h.get b:=fun b P bj=>z1.2 b P bj;have⟨bk,bm⟩:=w Z au fun b P bp=>(kZ b au (by have:=s2.1;have:=s3.1;omega)).trans ((d.2 b au).trans ((l.2 b au).trans (o.2 b P)));have⟨v2,bq,bs⟩:=aIy (n:=n) (K Z au fun b P bp=>(kZ b au au).trans (d.2 b P)) au;have:=(hs Ev.T.e (.c (jr (n:Int))) (by simp only[aCJ,aY])).symm.trans (bq Ev.T.e (.c (jr (n:Int))) (by simp only[aCJ,aY]));cases this;exact⟨z1.jo (a2.trans d) (Af _),g,nv,iv,v',L.take n,rfl,a,bk,bm,bs,by rw[Bx];omega,fun m hm=>i m (Ee hm),C,B⟩
end Go.Ev.Gl
namespace Go.Ev.Gl
variable {de D:cd}{r i:Nat}{x:cD}{N:List cD}
def aPe:de <+:(oJ de r).1:=by
 unfold oJ;split
 .exact Ey _
 .exact List.prefix_append _ _
def aL5{first:bt}:de <+:(gG first de x).1:=by
 unfold gG;split
 .exact aPe
 .exact Ey _
def zW{lay:Nat->Nat->cd->aA4}:∀ {l:bt} (_:∀k∈l,∀i de,de <+:(lay k.toNat i de).de) {i:Nat} {de:cd},de <+:(eG lay l i de).2.de
 | [],_,_,_=>Ey _
 | y::l,h,i,de=>by
  unfold eG;exact(h y (Be ..) i de).trans (zW fun k a=>h k (Az _ a))
def aEf{g:aP}{first:bt}{act:bo}:∀ {f o i:Nat} {de:cd},de <+:(fV g first act f o i de).de
 | 0,_,_,_=>Ey _
 | f+1,o,i,de=>by
  unfold fV;exact aL5.trans (zW fun k _ i de=>aEf)
def aLb{A B:cd}(h:A <+:B)(a:r∈A):B.idxOf r=A.idxOf r:=by
 obtain⟨t,rfl⟩:=h;rw[List.idxOf_append,if_pos a]
def aJk{R:cd}(h:(oJ de r).1 <+:R):R.idxOf r=(oJ de r).2/\r∈R:=by
 refine⟨?_,h.subset aDU.1⟩;unfold oJ at h ⊢;by_cases a:r∈de
 .rw[if_pos a] at h ⊢;exact aLb h a
 .rw[if_neg a] at h ⊢;rw[aLb h (by simp)];show(de++ [r]).idxOf r=de.length;rw[List.idxOf_append,if_neg a];simp
section
variable {g:aP}{first:bt}{act:bo}{R:cd}
structure aPA(g:aP)(first:bt)(act:bo)(R:cd)(i:Nat)(N:List cD)(D:cd)(x:cD)(o:Nat):Prop where
 oin:o<g.ce.length
 knd:x.jk=(ct g o).jk
 ply:x.jl=(ct g o).jl
 wts:x.jm=(ct g o).jm
 jn:x.jn=(ct g o).jn
 inf:x.jj=if(ct g o).jk=2 then((R.idxOf (xB first (ct g o).jj.toNat):Nat):Int) else(ct g o).jj
 mem:(ct g o).jk=2->xB first (ct g o).jj.toNat∈R
 len:x.ji.length=(ct g o).ji.length
 kid:∀k,k<x.ji.length->∃q,x.ji.getD k 0=((i+q:Nat):Int)/\q<N.length/\D[q]? =some ((gP act (ct g o)).getD k 0).toNat
def aPA.move{b s:Nat}{a:List cD}{d:cd}{o:Nat}(h:aPA g first act R b a d x o)(hi:b=i+s)(n:s+a.length<=N.length)(e:∀q,q<a.length->D[s+q]? =d[q]?):aPA g first act R i N D x o:=
 ⟨h.oin,h.knd,h.ply,h.wts,h.jn,h.inf,h.mem,h.len,fun k f=>by
  have⟨q,j,l,m⟩:=h.kid k f;exact⟨s+q,by rw[j,hi,Da],au,by rw[e q l];exact m⟩⟩
def aKr(g:aP)(first:bt)(act:bo)(R:cd)(i:Nat)(N:List cD)(D:cd):Prop:=D.length=N.length/\∀ (p:Nat) (x:cD),N[p]? =some x->∃o:Nat,D[p]? =some o/\aPA g first act R i N D x o
def aKr.app{f:List cD}{j:cd}(h:aKr g first act R i N D)(h':aKr g first act R (i+N.length) f j):aKr g first act R i (N++f) (D++j):=by
 refine⟨by rw[Ai,Ai,h.1,h'.1],fun p x b=>?_⟩;by_cases a:p<N.length
 .rw[Ak a] at b;have⟨o,d,e⟩:=h.2 p x b;exact⟨o,by rw[Ak (by rw[h.1];exact a)];exact d,e.move (s:=0) rfl (by rw[Ai];omega) fun q k=>by rw[An,Ak (by rw[h.1];exact k)]⟩
 .rw[Ao au] at b;have⟨o,d,e⟩:=h'.2 _ x b;refine⟨o,by rw[Ao (by rw[h.1];omega),h.1];exact d,e.move (s:=N.length) rfl (by rw[Ai];omega) fun q k=>?_⟩;rw[Ao (by rw[h.1];omega),h.1,Dw]
def aGk{lay:Nat->Nat->cd->aA4}:∀ {l:bt} (_:∀k∈l,∀i de,de <+:(lay k.toNat i de).de) (_:∀k∈l,∀i de,(lay k.toNat i de).de <+:R->aKr g first act R i (lay k.toNat i de).ce (lay k.toNat i de).olds/\0<(lay k.toNat i de).ce.length/\(lay k.toNat i de).olds[0]? =some k.toNat) {i:Nat} {de:cd},(eG lay l i de).2.de <+:R->aKr g first act R i (eG lay l i de).2.ce (eG lay l i de).2.olds/\∀k,k<l.length->∃q,(eG lay l i de).1.getD k 0=((i+q:Nat):Int)/\q<(eG lay l i de).2.ce.length/\(eG lay l i de).2.olds[q]? =some (l.getD k 0).toNat
 | [],_,_,i,de,_=>⟨⟨rfl,fun p x b=>by simp [eG] at b⟩,fun k a=>by simp at a⟩
 | y::l,b,f,i,de,e=>by
  unfold eG at e ⊢;have h:=zW (lay:=lay) (l:=l) (fun k a=>b k (Az _ a)) (i:=i+(lay y.toNat i de).ce.length) (de:=(lay y.toNat i de).de);have⟨d,j,a3⟩:=f y (Be ..) i de (h.trans e);have⟨m,n⟩:=aGk (l:=l) (fun k a=>b k (Az _ a)) (fun k a=>f k (Az _ a)) e;refine⟨d.app m,fun k a=>?_⟩;cases k with
  | zero=>exact⟨0,rfl,by rw[Ai];omega,by rw[Ak (by rw[d.1];exact j)];exact a3⟩
  | succ k=>
   have⟨q,o,s,r⟩:=n k (by simpa using a);refine⟨(lay y.toNat i de).ce.length+q,?_,by rw[Ai];omega,?_⟩
   .show(eG lay l (i+(lay y.toNat i de).ce.length) (lay y.toNat i de).de).1.getD k 0=_;rw[o,Da]
   .rw[Ao (by rw[d.1];omega),d.1,Dw];exact r
def aOA(G:cV g)(d:iD g act){o:Nat}(a:o<g.ce.length){k:Int}(e:k∈gP act (ct g o)):o<k.toNat/\k.toNat<g.ce.length:=by
 have f:=mQ G d a;obtain⟨q,b,rfl⟩:=Ce (f.mem_iff.1 e);have:=G.kids o a q b;rw[Ad,Ab b] at this;simp only[Ea] at this;omega
def aA9(G:cV g)(j:iD g act):∀ {f o i:Nat} {de:cd},g.ce.length<=f+o->o<g.ce.length->(fV g first act f o i de).de <+:R->aKr g first act R i (fV g first act f o i de).ce (fV g first act f o i de).olds/\0<(fV g first act f o i de).ce.length/\(fV g first act f o i de).olds[0]? =some o
 | 0,o,i,de,h,d,_=>absurd d au
 | f+1,o,i,de,h,d,m=>by
  unfold fV at m ⊢;have⟨n,t⟩:=aGk (g:=g) (first:=first) (act:=act) (R:=R) (lay:=fV g first act f) (l:=gP act (ct g o)) (fun k _ i de=>aEf) (fun k a i de u=>by
   have:=aOA G j d a;exact aA9 G j au this.2 u) (i:=i+1) (de:=(gG first de (ct g o)).1) m
  have b:=(zW (lay:=fV g first act f) (l:=gP act (ct g o)) (fun k _ i de=>aEf) (i:=i+1) (de:=(gG first de (ct g o)).1)).trans m;refine⟨⟨by rw[Aw,Aw,n.1],fun p x e=>?_⟩,by rw[Aw];omega,rfl⟩;cases p with
  | succ p=>
   rw[Cd] at e;have⟨v,w,y⟩:=n.2 p x e;exact⟨v,by rw[Cd];exact w,y.move (s:=1) rfl (by rw[Aw];omega) fun q C=>by rw[Nat.add_comm 1 q,Cd]⟩
  | zero=>
   rw[Ef,Ay] at e;subst e;have z:(eG (fV g first act f) (gP act (ct g o)) (i+1) (gG first de (ct g o)).1).1.length=(ct g o).ji.length:=by rw[zC,(mQ G j d).length_eq]
   refine⟨o,rfl,d,rfl,rfl,rfl,rfl,?_,fun a=>?_,z,fun k a=>?_⟩
   .show(gG first de (ct g o)).2=_;unfold gG at b ⊢;by_cases a:(ct g o).jk=2
    .rw[if_pos a] at b ⊢;rw[if_pos a];show(((oJ de (xB first (ct g o).jj.toNat)).2:Nat):Int)=_;rw[(aJk (r:=xB first (ct g o).jj.toNat) b).1]
    .rw[if_neg a,if_neg a]
   .unfold gG at b;rw[if_pos a] at b;exact(aJk (r:=xB first (ct g o).jj.toNat) b).2
   .have a:k<(eG (fV g first act f) (gP act (ct g o)) (i+1) (gG first de (ct g o)).1).1.length:=a;rw[zC] at a;have⟨q,A,D,B⟩:=t k a;refine⟨q+1,?_,by rw[Aw];omega,by rw[Cd];exact B⟩;show(eG (fV g first act f) (gP act (ct g o)) (i+1) (gG first de (ct g o)).1).1.getD k 0=_;rw[A];congr 1;omega
def yW.cons{k at_:Nat}{cs:bt}{B C:List cD}(j:qS k at_ B)(h:yW k (at_+B.length) cs C):yW k at_ ((at_:Int)::cs) (B++C):=by
 intro N nx l a f p d m;rw[Ai] at l m;have⟨L,n,b,o⟩:=j.2 N nx au (fun i x hi=>a i x (by rw[Ak (Aj.1 hi).1];exact hi)) f p d au;have⟨M,q,s,u⟩:=h N nx au (fun i x hi=>by
  have:=a (B.length+i) x (by rw[Ao au,Dw];exact hi);rw[<-this];congr 1;omega) f p d au
 refine⟨L++M,?_,by rw[Ai,Ai,b,s],fun t v=>?_⟩
 .show(if(at_:Int)=(at_:Int) then(eT N nx f at_ p d).bind fun e=>(fU (fun r=>eT N nx f r p d) cs (at_+e.length)).map (e++ ·) else Option.none)=_;rw[if_pos rfl,n];show(fU (fun r=>eT N nx f r p d) cs (at_+L.length)).map (L++ ·)=_;rw[b,q];rfl
 .rcases Bi.1 v with h|h
  .exact o t h
  .exact u t h
def aI4{k:Nat}{lay:Nat->Nat->cd->aA4}:∀ {l:bt} (_:∀c∈l,∀i de,qS k i (lay c.toNat i de).ce) {i:Nat} {de:cd},yW k i (eG lay l i de).1 (eG lay l i de).2.ce
 | [],_,_,_=>yW.nil
 | y::l,h,i,de=>by
  unfold eG;exact yW.cons (h y (Be ..) i de) (aI4 fun c a=>h c (Az _ a))
def aLh(G:cV g)(b:iD g act):∀ {f o i:Nat} {de:cd},g.ce.length<=f+o->o<g.ce.length->qS f i (fV g first act f o i de).ce
 | 0,o,i,de,h,a=>absurd a au
 | f+1,o,i,de,h,a=>by
  unfold fV;exact qS.node (aI4 fun c d i de=>by
   have:=aOA G b a d;exact aLh G b au this.2)
def aHE{lay:Nat->Nat->cd->aA4}:∀ {l:bt} (_:∀c∈l,∀i de P,fM P de.length->fM (P++(lay c.toNat i de).ce.map xA) (lay c.toNat i de).de.length) {i:Nat} {de:cd} {P:List (Option Nat)},fM P de.length->fM (P++(eG lay l i de).2.ce.map xA) (eG lay l i de).2.de.length
 | [],_,_,_,P,h=>by
  show fM (P++ []) _;rw[Bs];exact h
 | y::l,a,i,de,P,h=>by
  unfold eG;have b:=a y (Be ..) i de P h;have d:=aHE (l:=l) (fun c e=>a c (Az _ e)) (i:=i+(lay y.toNat i de).ce.length) b;rw[Cf,<-Bg];exact d
def aKP:∀ {f o i:Nat} {de:cd} {P:List (Option Nat)},fM P de.length->fM (P++(fV g first act f o i de).ce.map xA) (fV g first act f o i de).de.length
 | 0,o,i,de,P,h=>by
  show fM (P++ []) _;rw[Bs];exact h
 | f+1,o,i,de,P,h=>by
  unfold fV;have d:fM (P++ [xA {ct g o with jj:=(gG first de (ct g o)).2,ji:=(eG (fV g first act f) (gP act (ct g o)) (i+1) (gG first de (ct g o)).1).1}]) (gG first de (ct g o)).1.length:=by
   unfold xA gG oJ;show fM (P++ [if(ct g o).jk=2 then _ else _]) _;by_cases a:(ct g o).jk=2
   .rw[if_pos a];simp only[if_pos a];by_cases b:(first.getD (ct g o).jj.toNat 0).toNat∈de
    .simp only[if_pos b,Am];exact .old h (Dt.2 b)
    .simp only[if_neg b,Am,Ai,Ax];exact .new h
   .rw[if_neg a];simp only[if_neg a];exact .none h
  have e:=aHE (lay:=fV g first act f) (l:=gP act (ct g o)) (fun c _ i de P j=>aKP j) (i:=i+1) d;rw[Dh,<-Cr,<-Bg];exact e
end
end Go.Ev.Gl
namespace Go.Ev.Gl
variable {r:Nat}
section
variable {g:aP}{L:bo}{first:bt}{act:bo}
def kK(g:aP)(first:bt)(act:bo):aP:=⟨g.ch,(fV g first act g.ce.length 0 0 []).ce,aJo g (kH g first act)⟩
def aE2(g:aP)(first:bt)(act:bo):cd:=(fV g first act g.ce.length 0 0 []).olds
def yN(g:aP)(first:bt)(act:bo)(o:Nat):Nat:=(aE2 g first act).idxOf o
def tD(g:aP)(first:bt)(act:bo)(p:Nat):Nat:=(aE2 g first act).getD p 0
structure aVv(g:aP)(first:bt)(act:bo):Prop where
 nlen:(kK g first act).ce.length=g.ce.length
 olen:(aE2 g first act).length=g.ce.length
 old:∀p,p<g.ce.length->tD g first act p<g.ce.length/\yN g first act (tD g first act p)=p
 new:∀o,o<g.ce.length->yN g first act o<g.ce.length/\tD g first act (yN g first act o)=o
def nN(G:cV g)(t:iD g act):aVv g first act:=by
 have⟨Tr,w,q,_⟩:=G.walk;have x:=aAV (first:=first) G t w q (f:=g.ce.length) (o:=0) (i:=0) (de:=[]) G.n1;have B:=(qE (mP az (show eT g.ce.length (dP g) (g.ce.length+1) 0 (-1) 0=some Tr from w)) (i:=0) (by rw[q];exact G.n1)).2.1;have u:=(aA9 (R:=kH g first act) (first:=first) G t (f:=g.ce.length) (o:=0) (i:=0) (de:=[]) au G.n1 (Ey _)).1.1;have r:(aE2 g first act).length<=g.ce.length:=by unfold aE2;omega
 have d:∀j,j<g.ce.length->yN g first act j<(aE2 g first act).length:=fun j s=>Dt.2 (aHz G t s);have h:∀j,j<g.ce.length->tD g first act (yN g first act j)=j:=fun j s=>by
  unfold tD;rw[Ad,Ab (d j s)];exact List.getElem_idxOf (d j s)
 have y:=aEG (n:=g.ce.length) (f:=yN g first act) (fun k m=>Ae (d k m) r) fun a b A x e=>by rw[<-h a A,<-h b x,e]
 have C:=G.n1;have l:(aE2 g first act).length=g.ce.length:=by
  have⟨k,m,e⟩:=y (g.ce.length - 1) au;have:=d k m;omega
 refine⟨?_,l,fun p v=>?_,fun o z=>⟨Ae (d o z) r,h o z⟩⟩
 .show(fV g first act g.ce.length 0 0 []).ce.length=_;rw[<-u];exact l
 .obtain⟨k,m,rfl⟩:=y p v;rw[h k m];exact⟨m,rfl⟩
structure aUy(g:aP)(first:bt)(act:bo)(x:cD)(o:Nat):Prop where
 knd:x.jk=(ct g o).jk
 ply:x.jl=(ct g o).jl
 wts:x.jm=(ct g o).jm
 jn:x.jn=(ct g o).jn
 inf:x.jj=if(ct g o).jk=2 then(((kH g first act).idxOf (xB first (ct g o).jj.toNat):Nat):Int) else(ct g o).jj
 mem:(ct g o).jk=2->xB first (ct g o).jj.toNat∈kH g first act
 len:x.ji.length=(ct g o).ji.length
 kid:∀k,k<(ct g o).ji.length->x.ji.getD k 0=((yN g first act ((gP act (ct g o)).getD k 0).toNat:Nat):Int)
def aDx(G:cV g)(b:iD g act){p:Nat}(d:p<g.ce.length):aUy g first act (ct (kK g first act) p) (tD g first act p):=by
 have P:=nN (first:=first) G b;have⟨⟨r,e⟩,_⟩:=aA9 (R:=kH g first act) (first:=first) G b (f:=g.ce.length) (o:=0) (i:=0) (de:=[]) au G.n1 (Ey _);have⟨o,h,N⟩:=e p _ (cU (g:=kK g first act) (by rw[P.nlen];exact d));have j:tD g first act p=o:=by
  unfold tD;rw[Ad];show((fV g first act g.ce.length 0 0 []).olds[p]?).getD 0=o;rw[h];rfl
 rw[j];refine⟨N.knd,N.ply,N.wts,N.jn,N.inf,N.mem,N.len,fun k l=>?_⟩;have⟨q,m,a,n⟩:=N.kid k (by rw[N.len];exact l);have a:q<g.ce.length:=by rw[<-P.nlen];exact a
 have eq:tD g first act q=((gP act (ct g o)).getD k 0).toNat:=by
  unfold tD;rw[Ad];show((fV g first act g.ce.length 0 0 []).olds[q]?).getD 0=_;rw[n];rfl
 rw[m,An,<-eq,(P.old q a).2]
def aJj(G:cV g)(a:iD g act){o:Nat}(b:o<g.ce.length):aUy g first act (ct (kK g first act) (yN g first act o)) o:=by
 have P:=nN (first:=first) G a;have:=aDx (first:=first) G a (P.new o b).1;rw[(P.new o b).2] at this;exact this
def aIV(G:cV g)(a:iD g act):yN g first act 0=0:=by
 have h:=(aA9 (R:=kH g first act) (first:=first) G a (f:=g.ce.length) (o:=0) (i:=0) (de:=[]) au G.n1 (Ey _)).2.2;have P:=nN (first:=first) G a;have e:tD g first act 0=0:=by
  unfold tD;rw[Ad];show((fV g first act g.ce.length 0 0 []).olds[0]?).getD 0=_;rw[h];rfl
 have:=(P.old 0 G.n1).2;rw[e] at this;exact this
def zX(G:cV g)(a:∀x∈g.ce,gN g.ch g.cg x)(f:∀m∈L,gF g m){s:Nat}(h:tE (mJ g.cg.length (L.map (dh g))) s r):cu g (s:Int)=cu g (r:Int):=by
 have node:∀o,o<g.ce.length->(ct g o).jk=2->cu g (ct g o).jj=⟨(ct g o).jl,(((ct g o).ji.length:Nat):Int)⟩:=fun o i y=>by
  rcases a _ (Bb (cU i)) with e|e|e
  .have:=e.jk;omega
  .have:=e.jk;omega
  .unfold cu;rw[Ad,e.at_];rfl
 induction h with
 | edge e=>
  rename_i s r;have⟨b,q,j,e⟩:=e;obtain⟨m,k,rfl⟩:=Cp.1 j;have⟨f1,f2,f3⟩:=G.fst s b;have A:=f m k;have⟨l,n,_,p⟩:=A.A.like _ f1;have hi:=wK G A b;have d:=node _ f1 f2;have t:=node _ (A.M.at f1).2 (by rw[<-l];exact f2);rw[aA8 b] at hi e;rw[f3] at d;rw[e,Cl hi.1,d,t,n,p]
 | refl s=>rfl
 | symm _ u=>exact u.symm
 | trans _ _ v w=>exact v.trans w
def aEW(G:cV g)(a:∀x∈g.ce,gN g.ch g.cg x)(b:∀m∈L,gF g m)(d:aER g L first){s:Nat}(e:s<g.cg.length):cu g ((xB first s:Nat):Int)=cu g (s:Int):=(zX G a b (d.con s e)).symm
def aB3(a:r∈kH g first act):(kK g first act).cg[(kH g first act).idxOf r]? =some (cu g (r:Int)):=by
 show(aJo g (kH g first act))[_]? =_;unfold aJo;rw[Ba,Ab (Dt.2 a)];show some (cu g (((kH g first act)[(kH g first act).idxOf r]'(Dt.2 a):Nat):Int))=_;rw[List.getElem_idxOf]
def aLf(G:cV g)(a:∀x∈g.ce,gN g.ch g.cg x)(i:∀m∈L,gF g m)(j:aER g L first)(f:iD g act):∀x∈(kK g first act).ce,gN g.ch (kK g first act).cg x:=fun x k=>by
 have P:=nN (first:=first) G f;obtain⟨p,d,rfl⟩:=Ce k;have b:p<g.ce.length:=by rw[<-P.nlen];exact d
 have ex:(kK g first act).ce[p]=ct (kK g first act) p:=by
  have:=cU d;rw[Ab d] at this;exact Bk this
 have N:=aDx (first:=first) G f b;have h:=(P.old p b).1;rw[ex];rcases a _ (Bb (cU h)) with e|e|e
 .refine .inl ⟨by rw[N.knd];exact e.jk,by rw[N.ply];exact e.jl,?_,?_,by rw[N.wts];exact e.wts,by rw[N.jn];exact e.len,by rw[N.jn];exact e.jn⟩
  .rw[N.inf,if_neg (by rw[e.jk];decide)];exact e.jj
  .have:=N.len;rw[e.ji] at this;exact Bj.1 this
 .refine .inr (.inl ⟨by rw[N.knd];exact e.jk,by rw[N.ply];exact e.jl,?_,by rw[N.jn];exact e.jn,by rw[N.len];exact e.n1,by rw[N.len];exact e.n2,by rw[N.wts,N.len];exact e.len,by rw[N.wts];exact e.wts⟩);rw[N.inf,if_neg (by rw[e.jk];decide)];exact e.jj
 .have hi:=N.inf;rw[if_pos e.jk] at hi;refine .inr (.inr ⟨by rw[N.knd];exact e.jk,by rw[N.wts];exact e.wts,by rw[N.jn];exact e.jn,by rw[N.len];exact e.n1,by rw[N.len];exact e.n2,by rw[N.ply];exact e.pl,by rw[hi];omega,?_⟩);have⟨n,o,_⟩:=G.inf _ h e.jk;have l:=aEW G a i j (s:=(ct g (tD g first act p)).jj.toNat) au;rw[hi,Am,aB3 (N.mem e.jk),l,N.ply,N.len];unfold cu;rw[Am,Ad,e.at_];rfl
def aLO(G:cV g)(a:iD g act):(kH g first act).length<=g.ce.length:=by
 have h:=aFV (g:=g) (first:=first) (act:=act) (f:=g.ce.length) (o:=0) (i:=0) (de:=[]);have P:=(nN (first:=first) G a).nlen;have P:(fV g first act g.ce.length 0 0 []).ce.length=g.ce.length:=P;unfold kH;simp only[Ca] at h;omega
def aFZ(h:cR g=0)(j:g.ce.length<=30)(b:∀x∈g.ce,gN g.ch g.cg x)(l:∀m∈L,gF g m)(n:aER g L first)(a:iD g act):cR (kK g first act)=0:=by
 have K:=sH h;have G:=K.good;have P:=nN (first:=first) G a;have q:=aLO (first:=first) G a;have p:=G.n1;have d:(kK g first act).cg.length=(kH g first act).length:=by
  show(aJo g _).length=_;unfold aJo;rw[Av]
 have e:=K.prs;refine aEt (k:=g.ce.length) e ⟨by rw[P.nlen];omega,by rw[P.nlen];omega⟩ au (aLf G b l n a) (aLh G a au p) au ?_;rw[d];have:=aKP (g:=g) (first:=first) (act:=act) (f:=g.ce.length) (o:=0) (i:=0) (de:=[]) (P:=[]) .nil;rw[Bu] at this;exact this
def aFu(first:bt)(n:Nat):Nat:=((List.range n).filter fun i=>decide (first.getD i 0=(i:Int))).length
def aMq{n:Nat}:aFu first (n+1)=aFu first n+if first.getD n 0=(n:Int) then 1 else 0:=by
 unfold aFu;rw[List.range_succ,List.filter_append,Ai];congr 1;by_cases h:first.getD n 0=(n:Int)
 .rw[if_pos h,List.filter_cons_of_pos (by simpa using h)];rfl
 .rw[if_neg h,List.filter_cons_of_neg (by simpa using h)];rfl
def aMd(G:cV g)(d:iD g act)(e:aER g L first):(kH g first act).length=aFu first g.cg.length:=by
 have⟨f,h⟩:=aNl G d e;refine((List.perm_ext_iff_of_nodup f (List.Pairwise.filter _ List.nodup_range)).2 fun r=>?_).length_eq;rw[List.mem_filter,Dp,Cu];refine⟨h r,fun⟨a,b⟩=>?_⟩;have:=aBu (first:=first) G d a;rw[b,Am] at this;exact this
end
end Go.Ev.Gl
namespace Go.Ev.Gl
variable {u x i:Nat}{w w':List (Int×Int)}{S X S0:St}{nv v iv:AV}{g:aP}{L:bo}{r:bt}{D:Nat->Nat->Prop}
section
variable {g:aP}{L:bo}{first:bt}{act:bo}{c own:bt}
def aD6{f h:Nat->Rat}:∀ {n:Nat},(∀k,k<n->f k=h k)->aIp f n=aIp h n
 | 0,_=>rfl
 | n+1,e=>by
  show aIp f n+f n=aIp h n+h n;rw[aD6 fun k a=>e k au,e n au]
def aRJ(g:aP)(first:bt)(act:bo)(c own:bt)(s:Nat):Prop:=∃a:Nat,own.getD s 0=(a:Int)/\a<fP g s/\(act.getD s []).getD a 0=c.getD ((kH g first act).idxOf (xB first s)) 0
def aQA(G:cV g)(d:own.length=g.cg.length)(e:∀s,s<g.cg.length->aRJ g first act c own s):aEr g own:=⟨d,fun s b=>by
 have⟨a,h,f,_⟩:=e s b;have:=xH G b;unfold fP at f;omega⟩
def aE9(h:cR g=0)(u:cR (kK g first act)=0)(l:iD g act)(v:aEr (kK g first act) c)(w:own.length=g.cg.length)(p:∀s,s<g.cg.length->aRJ g first act c own s){q:Nat}:∀ {f o:Nat},o<g.ce.length->uD (kK g first act) c q f (yN g first act o)=uD g own q f o
 | 0,_,_=>rfl
 | f+1,o,m=>by
  have K:=sH h;have G:=K.good;have P:=nN (first:=first) G l;have N:=aJj (first:=first) G l m;have C:=gR u;have D:=(P.new o m).1;have n:∀k,k<(ct g o).ji.length->((ct g o).ji.getD k 0).toNat<g.ce.length:=fun k r=>by have:=G.kids o m k r;omega
  unfold uD;rw[N.knd,N.jn,N.wts,N.len];by_cases t:(ct g o).jk=3
  .rw[if_pos t,if_pos t]
  rw[if_neg t,if_neg t];by_cases j:(ct g o).jk=2
  .rw[if_pos j,if_pos j];have⟨A,M,O⟩:=sG G m j;have⟨a,E,Q,a3⟩:=p _ A;have⟨x1,x2⟩:=aIj C v (i:=yN g first act o) (by rw[P.nlen];exact D) (by rw[N.knd];exact j);have⟨B,S⟩:=aIj G (aQA G w p) m j;have hi:=N.inf;rw[if_pos j] at hi;rw[hi,Am,<-a3] at x1;rw[E,Am] at B;rw[N.len] at x2;rw[N.kid _ x2,Am,B];have⟨_,x,F⟩:=l.2 _ A;have e:(gP act (ct g o)).getD (tM c (ct (kK g first act) (yN g first act o))) 0=(ct g o).ji.getD a 0:=by
    unfold gP;rw[if_pos j,x1];refine aDB (fun b H=>?_) (fun b d H T e=>?_) (Af _) a au
    .have⟨y,I,J⟩:=x b au;omega
    .have⟨y,I,J⟩:=x b au;have⟨z,U,V⟩:=x d au;exact F b d au au au
   rw[e];exact aE9 h u l v w p (n a au)
  .rw[if_neg j,if_neg j];congr 1;refine aD6 fun k r=>?_;rw[N.kid k r,Am];have e:gP act (ct g o)=(ct g o).ji:=by unfold gP;rw[if_neg j]
   rw[e,aE9 h u l v w p (n k r)]
def Par(g:aP)(u k x:Nat):Prop:=u<g.ce.length/\k<(ct g u).ji.length/\(ct g u).ji.getD k 0=(x:Int)
inductive qN(g:aP)(q:Int):Nat->List (Int×Int)->Prop where
 | root:qN g q 0 []
 | step {u k x:Nat} {w:List (Int×Int)}:Par g u k x->qN g q u w->qN g q x (if(ct g u).jk=2/\(ct g u).jl=q then((ct g u).jj,(k:Int))::w else w)
def Par.lt(G:cV g){k:Nat}(h:Par g u k x):u<x/\x<g.ce.length:=by
 have:=G.kids u h.1 k h.2.1;rw[h.2.2] at this;omega
def Par.one(G:cV g){k a k':Nat}(h:Par g u k x)(h':Par g a k' x):u=a/\k=k':=G.only h.1 h.2.1 h'.1 h'.2.1 (by rw[h.2.2,h'.2.2])
def aDo(G:cV g){q:Int}(h:qN g q x w)(h':qN g q x w'):w=w':=by
 induction h generalizing w' with
 | root=>
  cases h' with
  | root=>rfl
  | step p _=>exact absurd (p.lt G).1 (Bo _)
 | step p _ a=>
  cases h' with
  | root=>exact absurd (p.lt G).1 (Bo _)
  | step b a'=>
   obtain⟨rfl,rfl⟩:=p.one G b;rw[a a']
def aD0(G:cV g)(q:Int)(b:x<g.ce.length):∃w,qN g q x w:=by
 induction x using Nat.strongRecOn with
 | ind x d=>
  by_cases a:x=0
  .exact⟨[],by rw[a];exact .root⟩
  .have⟨u,k,e,f,h⟩:=zT G (Fq a) b;have⟨w,i⟩:=d u e au;exact⟨_,.step ⟨au,f,h⟩ i⟩
def aBK(g:aP)(q:Int):Prop:=∀x y w w',x<g.ce.length->y<g.ce.length->(ct g x).jk=2->(ct g y).jk=2->(ct g x).jj=(ct g y).jj->(cu g (ct g x).jj).jl=q->qN g q x w->qN g q y w'->w=w'
def aR1(G:cV g){q:Int}(h:qN g q x w):∀e∈w,∃s k:Nat,e=((s:Int),(k:Int))/\s<g.cg.length/\k<fP g s:=by
 induction h with
 | root=>intro e a;cases a
 | @step u k x w p _ b=>
  intro e a;split at a
  .rename_i d;rcases Bm.1 a with rfl|a
   .have⟨f,i,j⟩:=sG G p.1 d.1;exact⟨(ct g u).jj.toNat,k,by rw[j],f,by rw[i];exact p.2.1⟩
   .exact b e a
  .exact b e a
def aLG(g:aP)(m:bt)(e:Int×Int):Int×Int:=((dh g m).getD e.1.toNat 0,((dk g m).getD e.1.toNat []).getD e.2.toNat 0)
def aQd(G:cV g){m:bt}(A:gF g m){q:Int}(h:qN g q x w):qN g q (fW m x) (w.map (aLG g m)):=by
 induction h with
 | root=>
  have:fW m 0=0:=by unfold fW;rw[A.A.root];rfl
  rw[this];exact .root
 | @step u k x w p _ i=>
  have⟨b,j⟩:=aHf A p.1 p.2.1;rw[p.2.2,Am] at j;have⟨d,r,_,f⟩:=A.A.like u p.1;have s:=(p.lt G).2;have l:Par g (fW m u) (jP g m u k).toNat (fW m x):=⟨(A.M.at p.1).2,b,by
   have:=(G.kids _ (A.M.at p.1).2 _ b).1;omega⟩
  have:=qN.step (q:=q) l i;by_cases a:(ct g u).jk=2/\(ct g u).jl=q
  .rw[if_pos ⟨by rw[<-d];exact a.1,by rw[<-f];exact a.2⟩] at this;rw[if_pos a,Dh];have n:=aF4 G A p.1 a.1;have o:=aMb G A p.1 a.1 p.2.1;have e:aLG g m ((ct g u).jj,(k:Int))=((ct g (fW m u)).jj,(((jP g m u k).toNat:Nat):Int)):=by
    unfold aLG;show((dh g m).getD (ct g u).jj.toNat 0,((dk g m).getD (ct g u).jj.toNat []).getD ((k:Int)).toNat 0)=_;have:=A.A.kid u k p.1 p.2.1;rw[n,Am,o];congr 1;omega
   rw[e];exact this
  .rw[if_neg (fun h=>a ⟨by rw[d];exact h.1,by rw[f];exact h.2⟩)] at this;rw[if_neg a];exact this
def aJe(g:aP)(first:bt)(act:bo)(e:Int×Int):Int×Int:=(((kH g first act).idxOf (xB first e.1.toNat):Nat),(act.getD e.1.toNat []).getD e.2.toNat 0)
def aM8(G:cV g)(z:∀m∈L,gF g m)(o:aER g L first)(p:¬Dup g L first)(q:aJa g L first act){m:bt}(i:m∈L){s k:Nat}(d:s<g.cg.length)(j:k<fP g s):aJe g first act (aLG g m ((s:Int),(k:Int)))=aJe g first act ((s:Int),(k:Int)):=by
 have A:=z m i;have⟨B,K⟩:=wK G A d;have⟨C,D,_⟩:=aEc G A d;have⟨E,F⟩:=D k j;obtain⟨s',h⟩:∃s':Nat,(dh g m).getD s 0=(s':Int):=⟨_,(Cl B).symm⟩;obtain⟨k',l⟩:∃k':Nat,((dk g m).getD s []).getD k 0=(k':Int):=⟨_,(Cl F).symm⟩;rw[h,Am] at C;rw[l,Am] at E;have n:s'<g.cg.length:=by omega
 have H:aLG g m ((s:Int),(k:Int))=((s':Int),(k':Int)):=by
  unfold aLG;show((dh g m).getD ((s:Int)).toNat 0,((dk g m).getD ((s:Int)).toNat []).getD ((k:Int)).toNat 0)=_;rw[Am,Am,h,l]
 have a:mJ g.cg.length (L.map (dh g)) s s':=⟨d,_,List.mem_map_of_mem i,by rw[h];rfl⟩;have r:first.getD s 0=first.getD s' 0:=o.inv s s' a;have I:kI (ChE g L) (s,k) (s',k'):=.edge ⟨d,j,m,i,by unfold aL4;rw[h,l];rfl⟩;have⟨x,x1,x2,x3⟩:=q.at_ s k d j;have⟨y,J,t,u⟩:=q.at_ s' k' n au;rw[<-r] at t u;have⟨v,w⟩:=aDl o d;have f:kI (ChE g L) ((first.getD s 0).toNat,x) ((first.getD s 0).toNat,y):=.trans (.symm x3) (.trans I u);have e:x=y:=by
  rcases Ei x y with b|e|b
  .exact absurd ⟨_,x,y,v,w,b,t,f⟩ p
  .exact e
  .exact absurd ⟨_,y,x,v,w,b,x2,.symm f⟩ p
 rw[H];unfold aJe xB;simp only[Am];rw[<-r,x1,J,e]
def aIS(h:cR g=0)(f:iD g act){q:Int}(r:qN g q x w):qN (kK g first act) q (yN g first act x) (w.map (aJe g first act)):=by
 have G:=gR h;have P:=nN (first:=first) G f
 induction r with
 | root=>
  rw[aIV G f];exact .root
 | @step u k x w p _ m=>
  have N:=aJj (first:=first) G f p.1;by_cases a:(ct g u).jk=2
  .have⟨s,C,D⟩:=sG G p.1 a;have⟨_,i,t⟩:=f.2 _ s;have v:=p.2.1;have⟨b,j,n⟩:=i k au;have e:(gP act (ct g u)).getD b 0=(x:Int):=by
    have:=aDB (row:=act.getD (ct g u).jj.toNat []) (ji:=(ct g u).ji) (fun b A=>by
     have⟨y,j,n⟩:=i b au;omega) (fun b d A E e=>by
     have⟨y,j,n⟩:=i b au;have⟨z,F,H⟩:=i d au;exact t b d au au au) (Af _) k p.2.1
    rw[j,Am,p.2.2] at this;unfold gP;rw[if_pos a];exact this
   have l:Par (kK g first act) (yN g first act u) b (yN g first act x):=⟨by rw[P.nlen];exact(P.new u p.1).1,by rw[N.len];omega,by rw[N.kid b au,e,Am]⟩;have:=qN.step (q:=q) l m;have hi:=N.inf;rw[if_pos a] at hi;rw[N.knd,N.ply,hi] at this;by_cases o:(ct g u).jk=2/\(ct g u).jl=q
   .rw[if_pos o] at this ⊢;rw[Dh];have B:aJe g first act ((ct g u).jj,(k:Int))=((((kH g first act).idxOf (xB first (ct g u).jj.toNat):Nat):Int),(b:Int)):=by
     unfold aJe;simp only[Am,j]
    rw[B];exact this
   .rw[if_neg o] at this ⊢;exact this
  .have e:gP act (ct g u)=(ct g u).ji:=by unfold gP;rw[if_neg a]
   have l:Par (kK g first act) (yN g first act u) k (yN g first act x):=⟨by rw[P.nlen];exact(P.new u p.1).1,by rw[N.len];exact p.2.1,by rw[N.kid k p.2.1,e,p.2.2,Am]⟩;have:=qN.step (q:=q) l m;rw[N.knd,if_neg (fun h=>a h.1)] at this;rw[if_neg (fun h=>a h.1)];exact this
def aMh(h:cR g=0)(W:g.ce.length<=30)(n:∀x∈g.ce,gN g.ch g.cg x)(C:∀m∈L,gF g m)(M:aER g L first)(hD:¬Dup g L first)(hA:aJa g L first act)(K:iD g act){q:Int}(hP:aBK g q):aBK (kK g first act) q:=by
 have G:=gR h;have P:=nN (first:=first) G K;have GJ:=gR (aFZ h W n C M K);have key:∀s r,tE (mJ g.cg.length (L.map (dh g))) s r->s<g.cg.length->(cu g (s:Int)).jl=q->∀x y w w',x<g.ce.length->y<g.ce.length->(ct g x).jk=2->(ct g y).jk=2->(ct g x).jj=(s:Int)->(ct g y).jj=(r:Int)->qN g q x w->qN g q y w'->w.map (aJe g first act)=w'.map (aJe g first act):=by
  intro s r X;have N:∀ {s r:Nat},tE (mJ g.cg.length (L.map (dh g))) s r->(s<g.cg.length↔r<g.cg.length):=fun X=>by
   induction X with
   | edge e=>
    obtain⟨D,l,Y,rfl⟩:=e;obtain⟨m,O,rfl⟩:=Cp.1 Y;have:=wK G (C m O) D;omega
   | refl s=>exact Iff.rfl
   | symm _ Z=>exact Z.symm
   | trans _ _ a b=>exact a.trans b
  induction X with
  | edge e=>
   obtain⟨D,l,Y,rfl⟩:=e;obtain⟨m,O,rfl⟩:=Cp.1 Y;intro _ i x y w w' d j f k E F o p;have A:=C m O;have U:=aF4 G A d f;have hi:=wK G A D;rw[E,Am] at U;have⟨l1,_,_,_⟩:=A.A.like x d;have H:(ct g (fW m x)).jj=(ct g y).jj:=by rw[<-U,F,Cl hi.1]
   have I:(cu g (ct g (fW m x)).jj).jl=q:=by
    rw[H,F,<-zX G n C (.edge ⟨D,_,List.mem_map_of_mem O,rfl⟩)];exact i
   have:=hP _ _ _ _ (A.M.at d).2 j (by rw[<-l1];exact f) k H I (aQd G A o) p;rw[<-this,Eu];refine(Eb fun e he=>?_).symm;obtain⟨s',k',rfl,a1,a2⟩:=aR1 G o e he;exact aM8 G C M hD hA O a1 a2
  | refl s=>
   intro D i x y w w' d j f k E F o p;rw[hP x y w w' d j f k (by rw[E,F]) (by rw[E];exact i) o p]
  | symm c Z=>
   intro D i x y w w' d j f k E F o p;have:=N c;exact(Z au (by rw[zX G n C c];exact i) y x w' w j d k f F E p o).symm
  | @trans s t r Q c2 i1 i2=>
   intro D i x y w w' d j f k E F o p;have:=N Q;have ht:t<g.cg.length:=by omega
   have⟨f1,f2,f3⟩:=G.fst t ht;have⟨w2,S⟩:=aD0 G q f1;rw[i1 D i x _ w w2 d f1 f f2 E f3 o S];exact i2 ht (by rw[<-zX G n C Q];exact i) _ y w2 w' f1 j f2 k f3 F S p
 intro x y w w' d j f k hi i o p;rw[P.nlen] at d j;have z:=(P.old x d);have B:=(P.old y j);have V:=aDx (first:=first) G K d;have Ny:=aDx (first:=first) G K j;rw[V.knd] at f;rw[Ny.knd] at k;have ex:=V.inf;have ey:=Ny.inf;rw[if_pos f] at ex;rw[if_pos k] at ey;have⟨J,_,aa⟩:=sG G z.1 f;have⟨ab,_,ac⟩:=sG G B.1 k;have⟨u,hu⟩:=aD0 G q z.1;have⟨v,hv⟩:=aD0 G q B.1;have jx:=aIS (first:=first) (act:=act) h K hu;have jy:=aIS (first:=first) (act:=act) h K hv;rw[z.2] at jx;rw[B.2] at jy;rw[aDo GJ o jx,aDo GJ p jy];have hf:xB first (ct g (tD g first act x)).jj.toNat=xB first (ct g (tD g first act y)).jj.toNat:=by
  rw[ex,ey] at hi;have hi:(kH g first act).idxOf (xB first (ct g (tD g first act x)).jj.toNat)=(kH g first act).idxOf (xB first (ct g (tD g first act y)).jj.toNat):=by omega
  have d:=V.mem f;have j:=Ny.mem k;have U:=List.getElem_idxOf (Dt.2 d);have e2:=List.getElem_idxOf (Dt.2 j);rw[<-U,<-e2];simp only[hi]
 have I:(cu g (((ct g (tD g first act x)).jj.toNat:Nat):Int)).jl=q:=by
  rw[<-aEW G n C M J];rw[ex] at i;have:=aB3 (V.mem f);unfold cu at i;rw[Am,Ad,this] at i;exact i
 have T:tE (mJ g.cg.length (L.map (dh g))) (ct g (tD g first act x)).jj.toNat (ct g (tD g first act y)).jj.toNat:=by
  have Q:=M.con _ J;have c2:=M.con _ ab;have hf:(first.getD (ct g (tD g first act x)).jj.toNat 0).toNat=(first.getD (ct g (tD g first act y)).jj.toNat 0).toNat:=hf;rw[hf] at Q;exact .trans Q (.symm c2)
 exact key _ _ T J I _ _ u v z.1 B.1 f k aa.symm ac.symm hu hv
end
variable {fns:T fD}
structure aVa(g:aP)(up:bt):Prop where
 len:up.length=g.ce.length
 root:up.getD 0 0= -1
 par:∀u k x,Par g u k x->up.getD x 0=(u:Int)
structure aSw(g:aP)(i j:Nat)(up:bt):Prop where
 len:up.length=g.ce.length
 root:up.getD 0 0= -1
 par:∀u k x,Par g u k x->(u<i\/u=i/\k<j)->up.getD x 0=(u:Int)
def aUb(S:St)(gb ub:Nat)(nv iv:AV)(g:aP)(k:Nat)(A:bO)(X:St):Prop:=A.inr=false/\jq S X/\∃i up,i+k=g.ce.length/\aSw g i 0 up/\X.h.get ub=js (aQ up)/\ub<X.nx/\X.h.get gb=js [jr g.ch,nv,iv]/\gb<X.nx/\
 aA 1 A.F= .ptr gb 0/\aA 3 A.F= .sl ub 0 g.ce.length g.ce.length false/\aA 4 A.F=jr (i:Int)
def aSQ(S:St)(gb ub:Nat)(nv iv:AV)(g:aP)(i m:Nat)(k:Nat)(A:bO)(X:St):Prop:=A.inr=false/\jq S X/\∃j up,j+k=m/\aSw g i j up/\X.h.get ub=js (aQ up)/\ub<X.nx/\X.h.get gb=js [jr g.ch,nv,iv]/\gb<X.nx/\
 aA 1 A.F= .ptr gb 0/\aA 3 A.F= .sl ub 0 g.ce.length g.ce.length false/\aA 4 A.F=jr (i:Int)/\aA 5 A.F=jr (j:Int)
def wF(k:IntKind):gL (.int k 0)=some 0:=rfl
def aNw(h:aE 6 bT S nv g.ce)(j:jq S X)(hi:i<g.ce.length):∃b q a,eY (.slice 6) nv i=some (.ptr b q)/\b<S.nx/\eE (.ptr b (q+3)) false 1 X.h=some a/\bN .i64 S a (ct g i).ji:=by
 obtain⟨e,b,q,d,f,p,⟨a,r,s,rfl,k,l,m⟩,n,o⟩:=aE.at h az (cU hi);exact⟨b,q,a,d,f,(eM j f).trans (o 3 a rfl),k⟩
def zM{X':St}{l:bt}{n:Nat}(h:bN .i64 X v l)(f:jq X X')(hi:i<l.length)(e:l.getD i 0=(n:Int)):∃b q,eY (.slice 1) v i=some (.ptr b q)/\b<X.nx/\eE (.ptr b q) false 1 X'.h=some (jr (n:Int)):=by
 have⟨b,q,j,a,d⟩:=mE h hi;rw[e,<-eM f a] at d;exact⟨b,q,j,a,d⟩
def aAl(H:Has fns)(G:cV g)(O:aE 6 bT S nv g.ce):
  iK fns (.fn 68 [] []) [.agg [jr g.ch,nv,iv]] S fun r S'=>jq S S'/\(∃b,r= .sl b 0 g.ce.length g.ce.length false)/\∃up,aVa g up/\bN .i64 S' r up:=by
 have hN:=G.n2;have A:=G.n1;refine cJ H.f68 (by simp) ?_;refine ae ?_;apply bS;refine dC (by refine ae ?_;exact bB _) ?_;intro S1 s1 n1 c1;refine ae ?_;refine bS (gu @aU @aT (fN c1) O.len ?_);refine fQ (oK (n:=g.ce.length) (jd @aY) (jd @aY) ay ay) ?_;intro S2 s2 n2 c2;refine am ?_;have hz:repeatL [AV.int .i64 0] g.ce.length=aQ (List.replicate g.ce.length 0):=by rw[repeatL_one];simp [aQ]
 rw[hz] at c2;have P:S2.h.get S.nx=js [jr g.ch,nv,iv]:=by rw[s2.2 _ au];exact c1
 apply bS;have B:=eX (b:=S1.nx) (o:=false) A;refine gh @wF B ?_;refine eK (fun call=>by refine gh @dE @cF ?_;exact qQ (S:=S2) c2 (by rw[Au];exact A)) ?_;refine am ?_;have T:aSw g 0 0 ((List.replicate g.ce.length (0:Int)).set 0 (-1)):=⟨by rw[Ar,Au],by rw[eJ (by rw[Au];exact A),if_pos rfl],fun u k x _ h=>au⟩;refine aB (aX (Q:=fun o U X=>o= .normal/\aUb S S.nx S1.nx nv iv g 0 U X) (aB (aF ?_)) ?_)
 .refine am ?_;refine aJ (bL (aUb S S.nx S1.nx nv iv g) ?_ g.ce.length _ _ ⟨rfl,((s1.trans s2).put (ax s1.1) _),0,_,au,T,by simp only;rw[dx,if_pos rfl];rfl,by simp only;omega,by simp only;rw[dx,if_neg au];exact P,by simp only;omega,aq,aq,aq⟩);rintro k ⟨F,inr⟩ X ⟨rfl,J,i,up,K,m,f,l,d,p,s,t,v⟩;simp only at s t v;refine fZ (ec s v (fN d) O.len ?_);by_cases w:i<g.ce.length;rotate_left
  .refine aK (jc @Ag (Aa (au:¬ (i:Int)<(g.ce.length:Int)))) (bH ?_);refine ae ?_;obtain rfl:k=0:=by omega
   exact⟨rfl,J,i,up,K,m,f,l,d,p,ah s,ah t,ah v⟩
  refine aM (jc @Ag (Ac (au:(i:Int)<(g.ce.length:Int)))) (aG ?_);refine ae ?_
  have⟨b,q,a,C,lb,D,V⟩:=aNw O J w;have ab:=G.nxt i w;have w1:=du i
  refine aB (aX (Q:=fun o U Y=>o= .normal/\aSQ S S.nx S1.nx nv iv g i (ct g i).ji.length 0 U Y) (aJ (aB (aF ?_))) ?_)
  .refine ae ?_;refine aJ (bL (aSQ S S.nx S1.nx nv iv g i (ct g i).ji.length) ?_ (ct g i).ji.length _ _ ⟨rfl,J,0,up,au,m,f,l,d,p,ah s,ah t,ah v,ag⟩);rintro k' ⟨F,inr⟩ Y ⟨rfl,I,j,up,M,m,f,l,d,p,s,t,v,E⟩;simp only at s t v E;have⟨b,q,a,C,lb,D,V⟩:=aNw O I w;refine fZ (ew s v E (fN d) C D V.len ?_);by_cases W:j<(ct g i).ji.length;rotate_left
   .refine aK (jc @Ag (Aa (show ¬ (j:Int)<(((ct g i).ji.length:Nat):Int) by omega))) (bH ?_);refine ae ?_;obtain rfl:k'=0:=by omega
    exact⟨rfl,I,j,up,M,m,f,l,d,p,ah s,ah t,ah v,ah E⟩
   refine aM (jc @Ag (Ac (show(j:Int)<(((ct g i).ji.length:Nat):Int) by omega))) (aG ?_);refine ae ?_
   have w2:=du j
   obtain⟨x,Z⟩:∃x:Nat,(ct g i).ji.getD j 0=(x:Int):=⟨_,(Cl (by have:=G.kids i w j W;omega)).symm⟩;have N:Par g i j x:=⟨w,W,Z⟩;have z:=N.lt G;have⟨b',q',i',ac,aa⟩:=zM V I W Z;have B:=eX (b:=S1.nx) (o:=false) z.2;refine aB (aJ (aF ?_));simp only[↓aD,aC,rE,↓reduceIte,rA,s,t,v,E,aU,aT,fN d,aY,C,D,i',aa,B];refine eK (fun call=>by refine gh @dE @cF ?_;exact qQ (S:=Y) f (by rw[m.len];exact z.2)) ?_;refine am ?_;refine aF (gh E w2 ?_);refine⟨k' - 1,au,rfl,I.put (ax s1.1) _,j+1,up.set x (i:Int),au,⟨by rw[Ar];exact m.len,?_,fun u k y h hu=>?_⟩,jh,l,by simp only;rw[dx,if_neg au];exact d,p,ar s,ar t,ar v,aq⟩
   .rw[eJ (by rw[m.len];exact z.2),if_neg au];exact m.root
   .rw[eJ (by rw[m.len];exact z.2)];by_cases e:y=x
    .subst e;rw[if_pos rfl,(h.one G N).1]
    .rw[if_neg e];refine m.par u k y h ?_;by_cases e2:u=i/\k=j
     .obtain⟨rfl,rfl⟩:=e2;have:=h.2.2;rw[Z] at this;omega
     .omega
  rintro o ⟨F,inr⟩ Y ⟨rfl,rfl,I,j,up,M,m,f,l,d,p,s,t,v,E⟩;simp only at s t v E;refine aF (dz v w1 ?_);refine⟨k - 1,au,rfl,I,i+1,up,au,⟨m.len,m.root,fun u k y h hu=>m.par u k y h ?_⟩,f,l,d,p,ah s,ah t,af⟩;have:=h.2.1;by_cases e:u=i
  .subst e;exact .inr ⟨rfl,au⟩
  .omega
 rintro o ⟨F,inr⟩ X ⟨rfl,rfl,J,i,up,K,m,f,l,d,p,s,t,v⟩;simp only at t;refine ae ?_
 refine bS (c8 t ?_);refine aS (ae ?_);refine⟨J,⟨_,rfl⟩,up,⟨m.len,m.root,fun u k x h=>m.par u k x h (.inl (ax h.1))⟩,?_⟩;have:=xK f l rfl;rw[m.len] at this;exact this
def ZE(_:St)(cs:bu)(x:bt):Prop:=cs=aQ x
def aKj:aFq ZE:=fun h _=>h
def aTz{k:Nat}(d:∀x∈L,x.length=k)(h:L[i]? =some r)(j:Nat)(x:AV)(b:(aQ r)[j]? =some x):(L.flatMap aQ)[i * k+j]? =some x:=by
 induction L generalizing i with
 | nil=>simp at h
 | cons a L f=>
  rw[List.flatMap_cons];cases i with
  | zero=>
   simp at h;subst h;have:=(Aj.1 b).1;rw[Ak au,Dz,An];exact b
  | succ i=>
   have e:(aQ a).length=k:=by unfold aQ;rw[Av];exact d a (Be ..)
   rw[Ao (by rw[e,Dl];omega),e,show(i+1) * k+j - k=i * k+j by rw[Dl];omega];exact f (fun x b=>d x (Az _ b)) (by simpa using h)
def fC.z{k:Nat}(h:fC k S0 S v L.length (L.flatMap aQ))(a:∀x∈L,x.length=k):aE k ZE S v L:=by
 rcases h with⟨rfl,d,_⟩|⟨b,rfl,m,e,f,n⟩
 .exact .inl ⟨Bj.1 d,.inl rfl⟩
 .refine .inr ⟨b,0,L.length,true,_,rfl,Af _,e,by unfold cG;rw[f];rfl,fun i r hi=>⟨aQ r,by unfold aQ;rw[Av];exact a r (Bb hi),fun j x l=>?_,rfl⟩⟩;rw[An];exact aTz a hi j x l
def aHk{k bytes t:Nat}{o:Bool}{sz:Nat}(h:fC k S0 S v L.length (L.flatMap aQ))(b:jq S0 S)(d:S.h.get t=some (.cells (aQ r) o sz))(a:r.length=k)(s:L.length<=10000000)(f:bytes<=1000):
  ∃v' S',gQ bytes k v (.sl t 0 1 1 false) S=some (v',S')/\fC k S0 S' v' (L++ [r]).length ((L++ [r]).flatMap aQ)/\jq S0 S'/\S.nx<=S'.nx/\∀c,c<S.nx->aN v≠some c->S'.h.get c=S.h.get c:=by
 have i:eS (.sl t 0 1 1 false) S.h k 1=some (aQ r):=by
  show bD (cG S.h t) (fun c=>cut c 0 (1 * k))=_;unfold cG;rw[d];show cut (aQ r) 0 (1 * k)=_;have e:(aQ r).length=k:=by unfold aQ;rw[Av];exact a
  unfold cut;rw[iA,iG,Di,if_pos au,Bh au]
 have⟨v',S',j,l,n,p,q,_⟩:=fC.appB (bytes:=bytes) (m:=1) h b rfl i (by unfold aQ;rw[Av,a];omega) au ay (by
  have:=Dx (au:L.length+1<=10000001) f;unfold room;omega)
 refine⟨v',S',j,?_,n,p,q⟩;rw[Ai,List.flatMap_append];simpa using l
def aN9(p a q b:Int):mL .neq (.struct [(0,.int),(1,.int)]) (.agg [jr p,jr a]) (.agg [jr q,jr b])=some (.bool (!decide (p=q/\a=b))):=by
 have e:∀y z:Int,xZ .int (jr y) (jr z)=some (decide (y=z)):=fun y z=>by
  show bX (keq .i64 .i64) (some (ieq y z)) none=_;rw[fH,aL,jA];congr 1
 show bD (eqs [(0,.int),(1,.int)] [jr p,jr a] [jr q,jr b]) (fun b=>some (AV.bool (bX b false true)))=_;have f:∀p a:Int,nth [AV.int .i64 p,jr a] 0=some (jr p):=fun _ _=>rfl;have i:∀p a:Int,nth [AV.int .i64 p,jr a] 1=some (jr a):=fun _ _=>rfl;simp only[eqs,f,i,e,aH];by_cases h:p=q
 .by_cases d:a=b
  .simp [h,d,bX]
  .simp [h,d,bX]
 .simp [h,bX]
def aVG(S:St)(a b:AV)(L M:bo)(k:Nat)(A:bO)(X:St):Prop:=A.inr=false/\jq S X/\∃i:Nat,i+k=L.length/\(∀j,j<i->L[j]? =M[j]?)/\aA 0 A.F=a/\aA 1 A.F=b/\aA 5 A.F=jr (i:Int)
def aGM{a b:AV}{M:bo}(H:Has fns)(B:aE 2 ZE S a L)(I:aE 2 ZE S b M)(hL:∀x∈L,x.length=2)(hM:∀x∈M,x.length=2)(T:L.length<=100000)(hm:M.length<=100000):iK fns (.fn 69 [] []) [a,b] S fun r S'=>r= .bool (decide (L=M))/\jq S S':=by
 refine cJ H.f69 (by simp) ?_;refine ae ?_;refine bS (ae ?_);refine fZ (d8 B.len I.len @Ag ?_);by_cases v:L.length=M.length;rotate_left
 .refine aM i7 ?_;refine bS (ae ?_);refine aS (ae ?_);exact⟨by rw[Aa (fun h=>v (by rw[h]))],dy _⟩
 refine aK i7 (aG ?_);refine ae ?_
 refine aB (aX (Q:=fun o U X=>(o= .normal/\L=M/\U.inr=false/\jq S X)\/(o= .ret/\¬L=M/\jq S X/\aA 4 U.F= .bool false)) (aB (aF ?_)) ?_)
 .refine ae ?_;refine aJ (bL (aVG S a b L M) ?_ L.length _ _ ⟨rfl,dy _,0,au,fun j C=>absurd C (Bo _),af,af,ag⟩);rintro k ⟨F,inr⟩ X ⟨rfl,f,i,aa,n,D,J,G⟩;simp only at D J G;refine fZ (ec D G B.len @Ag ?_);by_cases m:i<L.length;rotate_left
  .refine aK i7 (bH ?_);refine ae ?_;refine .inl ⟨List.ext_getElem? fun j=>?_,f⟩;by_cases C:j<i
   .exact n j C
   .rw[Bv au,Bv au]
  refine aM i7 (aG ?_);refine ae ?_
  have d:i<M.length:=by omega
  have w1:=du i
  have⟨V,b1,q1,ia,_,_,s,la,_⟩:=aE.at (aE.jo (E:=ZE) aKj B f) az (Ab m);have⟨W,b2,q2,ib,_,_,t,lb,_⟩:=aE.at (aE.jo (E:=ZE) aKj I f) az (Ab d);have w:∀l:bt,l.length=2->∃x y,l= [x,y]:=fun l T=>by
   match l,T with
   | [x,y],_=>exact⟨x,y,rfl⟩
  have⟨x,y,p⟩:=w _ (hL _ (Bl m));have⟨u,z,q⟩:=w _ (hM _ (Bl d));have s:V=aQ L[i]:=s;have t:W=aQ M[i]:=t;rw[p] at s;rw[q] at t;have s:V= [jr x,jr y]:=s;have t:W= [jr u,jr z]:=t;subst s;subst t;have K:=zR (dO .i64 x) (dO .i64 y);have N:=zR (dO .i64 u) (dO .i64 z);have sa:=aE.self B;have sb:=aE.self I;refine aB (aJ (aB (gI ?_)));simp only[↓aD,aC,rE,↓reduceIte,rA,D,J,G,aY,ia,ib,la,lb,K,N,aN9,sa,sb];by_cases A:x=u/\y=z
  .refine aK (jc (Ac A) @Dn) (aG ?_);refine ae ?_
   refine aF (dz G w1 ?_);refine⟨k - 1,au,rfl,f.trans (jq.nx _ _),i+1,au,fun j C=>?_,ah D,ah J,af⟩;by_cases e:j=i
   .subst e;rw[Ab m,Ab d,p,q,A.1,A.2]
   .exact n j au
  .refine aM (jc (Aa A) @Ej) ?_;refine bS (ae ?_);refine aS (ae ?_);refine .inr ⟨fun h=>A ?_,f.trans (jq.nx _ _)⟩;have O:L[i]? =M[i]? :=by rw[h]
   rw[Ab m,Ab d,p,q] at O;simp only[Ay,List.cons.injEq,and_true] at O;exact O
 rintro o ⟨F,inr⟩ X (⟨rfl,P,Y,f⟩|⟨rfl,P,f,Z⟩)
 .simp only at Y;subst Y;refine ae ?_
  refine bS (ae ?_);refine aS (ae ?_);exact⟨by rw[Ac P],f⟩
 .simp only[↓sU,sD,rE,↓reduceIte,rA] at Z ⊢;refine c8 Z ?_;exact⟨by rw[Aa P],f⟩
def nD(w:List (Int×Int)):bo:=w.map fun e=>[e.1,e.2]
def xF:∀x∈nD w,x.length=2:=fun x a=>by
 obtain⟨e,_,rfl⟩:=Cp.1 a;rfl
def aNr(h:nD w=nD w'):w=w':=by
 induction w generalizing w' with
 | nil=>cases w' with
  | nil=>rfl
  | cons e w'=>cases h
 | cons e w b=>cases w' with
  | nil=>cases h
  | cons a w'=>
   have h: [e.1,e.2]::nD w= [a.1,a.2]::nD w':=h;simp only[List.cons.injEq,and_true] at h;rw[b h.2,Prod.ext h.1.1 h.1.2]
def aOm:nD (w++w')=nD w++nD w':=Cf
def UpW(g:aP)(q:Int)(x y:Nat)(b:List (Int×Int)):Prop:=y<g.ce.length/\b.length+y<=x/\∀w,qN g q y w->qN g q x (b++w)
def UpW.step{q:Int}{y d:Nat}{b:List (Int×Int)}(G:cV g)(h:UpW g q x y b)(a:Par g u d y):UpW g q x u (if(ct g u).jk=2/\(ct g u).jl=q then b++ [((ct g u).jj,(d:Int))] else b):=by
 have i:=a.lt G;have⟨j,k,e⟩:=h;refine⟨a.1,?_,fun w f=>?_⟩
 .split
  .rw[Ai,Ax];omega
  .omega
 .have:=e _ (.step a f);by_cases h:(ct g u).jk=2/\(ct g u).jl=q
  .rw[if_pos h] at this ⊢;rw[Bg];exact this
  .rw[if_neg h] at this ⊢;exact this
def aSZ(S:St)(gb:Nat)(a:AV)(g:aP)(q:Int)(x:Nat)(k:Nat)(A:bO)(X:St):Prop:=A.inr=false/\jq S X/\∃ (b:List (Int×Int)) (v:AV),UpW g q x k b/\fC 2 S X v (nD b).length ((nD b).flatMap aQ)/\
 aA 2 A.F=jr q/\aA 3 A.F= .ptr gb 0/\aA 7 A.F=a/\aA 8 A.F=v/\aA 9 A.F=jr (k:Int)
def stepW(g:aP)(q:Int)(u a:Nat)(b:List (Int×Int)):List (Int×Int):=if(ct g u).jk=2/\(ct g u).jl=q then b++ [((ct g u).jj,(a:Int))] else b
def aT8(S:St)(gb xb:Nat)(f a h i:AV)(g:aP)(q:Int)(u e y:Nat)(b:List (Int×Int))(k:Nat)(A:bO)(X:St):Prop:=A.inr=false/\jq S X/\xb<X.nx/\S.nx<=xb/\X.h.get xb=js [jr (ct g u).jk,jr (ct g u).jl,jr (ct g u).jj,a,h,i]/\∃ (j:Nat) (v:AV) (d:List (Int×Int)),j+k=(ct g u).ji.length/\d=(if e<j then stepW g q u e b else b)/\fC 2 S X v (nD d).length ((nD d).flatMap aQ)/\
 aA 2 A.F=jr q/\aA 3 A.F= .ptr gb 0/\aA 7 A.F=f/\aA 8 A.F=v/\aA 9 A.F=jr (y:Int)/\aA 10 A.F= .ptr xb 0/\aA 11 A.F=jr (j:Int)
def aUc(S:St)(gb:Nat)(d:AV)(g:aP)(q:Int)(u a y:Nat)(b:List (Int×Int))(A:bO)(X:St):Prop:=A.inr=false/\jq S X/\∃v:AV,fC 2 S X v (nD (stepW g q u a b)).length ((nD (stepW g q u a b)).flatMap aQ)/\
 aA 2 A.F=jr q/\aA 3 A.F= .ptr gb 0/\aA 7 A.F=d/\aA 8 A.F=v/\aA 9 A.F=jr (y:Int)
def aT5(S:St)(v:AV)(L:bo)(k:Nat)(A:bO)(X:St):Prop:=A.inr=false/\jq S X/\∃ (u:AV),k<=L.length/\fC 2 S X u (L.drop k).reverse.length ((L.drop k).reverse.flatMap aQ)/\
 aA 8 A.F=v/\aA 12 A.F=u/\aA 13 A.F=jr ((k:Int) - 1)
def aGb{q:Int}(H:Has fns)(G:cV g)(hn:aE 6 bT S nv g.ce)(hi:aE 2 cC S iv g.cg)(hx:x<g.ce.length):
  iK fns (.fn 70 [] []) [.agg [jr g.ch,nv,iv],jr (x:Int),jr q] S fun r S'=>jq S S'/\∃w,qN g q x w/\w.length<=2000/\aE 2 ZE S' r (nD w).reverse:=by
 have hN:=G.n2;refine cJ H.f70 (by simp) ?_;refine ae ?_;apply bS;refine dC (by refine ae ?_;exact bB _) ?_;intro S1 s1 n1 c1;refine ae ?_;refine bS (c8 (gE c1) ?_);refine bJ (ae ?_);have a0:=aE.jo (E:=bT) bF hn s1;refine aW (aAl (iv:=iv) H G a0) ?_;rintro _ S2 ⟨s2,⟨ub,rfl⟩,up,hP,U⟩
 refine bS (ae ?_);have bq:=aE.jo (E:=bT) bF a0 s2;have c2:S2.h.get S.nx=_:=(s2.2 _ au).trans c1;have m1:=s1.1;have m2:=s2.1;have sup:=bN.self U;have bs:cI nv nv=true:=aE.self hn;obtain⟨uv,a1⟩:∃uv:AV,uv= .sl ub 0 g.ce.length g.ce.length false:=⟨_,rfl⟩;rw[<-a1] at U sup;simp only[<-a1]
 refine aB (aX (Q:=fun o A' X=>o= .normal/\aSZ S2 S.nx uv g q x 0 A' X) (aB (aF ?_)) ?_)
 .refine ae ?_;refine aJ (bL (aSZ S2 S.nx uv g q x) ?_ x _ _ ⟨rfl,dy _,[],.cr,⟨hx,by simp,fun w h=>h⟩,.inl ⟨rfl,rfl,rfl⟩,af,af,af,af,ag⟩);rintro y ⟨F,inr⟩ X ⟨rfl,hX,b,v,⟨hy,an,hw⟩,C,m,A,n,f,p⟩;simp only at m A n f p;have cX:X.h.get S.nx=_:=(hX.2 _ au).trans c2;have mX:=hX.1;obtain⟨eb,eq,ia,ao,d⟩:=mE U (by rw[hP.len];exact hy);have d:=(eM hX ao).trans d;apply fZ;by_cases h0:y=0
  .subst h0;rw[hP.root] at d;refine ef n p @wF ia d ?_;refine aK (by first | rfl | (simp only[↓sU,sD,rE,↓reduceIte,rA];rfl)) (bH ?_);refine ae ?_;exact⟨rfl,hX,b,v,⟨hy,an,hw⟩,C,ah m,ah A,ah n,ah f,ah p⟩
  have⟨u,M,u1,u2,u3⟩:=zT G (Fq h0) hy;have N:u<g.ce.length:=by omega
  have hp:Par g u M y:=⟨N,u2,u3⟩;rw[hP.par _ _ _ hp] at d;refine ec n p ia d ?_;refine aM i7 (aG ?_);refine ae ?_
  obtain⟨e,nb,nq,bv,bw,he,⟨a,p5,p6,rfl,ha,bx,bz⟩,aw,_⟩:=aE.at bq az (cU N);have aw:=(eM hX bw).trans aw;have bA:=sI (k:=.i64) (x0:=(ct g u).jk) (x1:=(ct g u).jl) (x2:=(ct g u).jj) (bN.self ha) (bN.self bx) (bN.self bz);have bC:S.nx<X.nx:=by omega
  have a2:eb<X.nx:=by omega
  have a4:nb<X.nx:=by omega
  have bV:=G.nxt u N;refine aB (aX (Q:=fun o A' Y=>o= .normal/\aUc S2 S.nx uv g q u M y b A' Y) (aJ (aB (pJ (fun _=>False) ?_))) ?_)
  .intro Y1 y1 bW bI;simp only[Aw,Ca,rA] at bI;simp only[↓sU,sD,rE,↓reduceIte,rA,A,n,p,fN cX,bC,a2,a4,Ap,bs,ia,d,bv,aw,bA,pY,lR,rA];refine aJm (by rfl) rfl (af) (by simp only[↓sU,sD,rE,↓reduceIte,rA,bB];rfl) rfl rfl au ?_;intro Z z nZ gZ;have a5:jq X Z:=z.jo y1 au;obtain⟨xb,ba⟩:∃xb,xb=X.nx+8:=⟨_,rfl⟩;rw[<-ba] at gZ;have bb:xb<Z.nx:=by omega
   have aI:S2.nx<=xb:=by omega
   have bd:=hX.trans a5;have be:=C.step a5;simp only[↓sU,sD,rE,↓reduceIte,rA,<-ba];refine bS (ae ?_);refine aJ (bL (aT8 S2 S.nx xb uv a p5 p6 g q u M y b) ?_ (ct g u).ji.length _ _ ⟨rfl,bd,bb,aI,gZ,0,v,b,au,by rw[if_neg (Bo _)],be,ah m,ah A,ah n,ah f,ah p,af,ag⟩);rintro k ⟨F,inr⟩ Y ⟨rfl,J,aV,_,D,j,v,b',bY,rfl,C,m,A,n,f,p,i,l⟩;simp only at m A n f p i l;have bZ:=(ha.jo (hX)).jo (dy X);have I:lW a=some (jr (((ct g u).ji.length:Nat):Int)):=ha.len;apply fZ;have aa:∀ (F':Fr),(∀t,t<12->aA t F'=aA t F)->j=(ct g u).ji.length\/¬ ((ct g u).jk=2/\(ct g u).jl=q)->aUc S2 S.nx uv g q u M y b ⟨F',false⟩ Y:=fun F' hF hc=>by
    refine⟨rfl,J,v,?_,by rw[hF 2 az,m],by rw[hF 3 az,A],by rw[hF 7 az,n],by rw[hF 8 az,f],by rw[hF 9 az,p]⟩;rcases hc with hc|hc
    .rw[if_pos au] at C;exact C
    .have e:stepW g q u M b=b:=by unfold stepW;rw[if_neg hc]
     rw[e] at C ⊢;rw[ite_self] at C;exact C
   by_cases hj:j<(ct g u).ji.length;rotate_left
   .refine ew m i l (dD D) I @Ag (Aa (show ¬ (j:Int)<(((ct g u).ji.length:Nat):Int) by omega)) ?_;refine aK (af) (bH ?_);refine ae ?_;exact aa _ (fun t ht=>by simp only[bE];(repeat rw[if_neg au])) (.inl au)
   by_cases O:(ct g u).jk=2;rotate_left
   .refine fe m i l (dD D) (fF D) I @Ag (Ac (show(j:Int)<(((ct g u).ji.length:Nat):Int) by omega)) (Aa O) ?_;refine aK (af) (bH ?_);refine ae ?_;exact aa _ (fun t ht=>by simp only[bE];(repeat rw[if_neg au])) (.inr fun h=>O h.1)
   by_cases ab:(ct g u).jl=q;rotate_left
   .refine fg m i l (dD D) (fF D) (eF D) I @Ag (Ac (show(j:Int)<(((ct g u).ji.length:Nat):Int) by omega)) (Ac O) (Aa ab) ?_;refine aK (af) (bH ?_);refine ae ?_;exact aa _ (fun t ht=>by simp only[bE];(repeat rw[if_neg au])) (.inr fun h=>ab h.2)
   refine fg m i l (dD D) (fF D) (eF D) I @Ag (Ac (show(j:Int)<(((ct g u).ji.length:Nat):Int) by omega)) (Ac O) (Ac ab) ?_;refine aM (af) (aG ?_);refine ae ?_
   have w1:=du j
   have bM:stepW g q u M b=b++ [((ct g u).jj,(M:Int))]:=by unfold stepW;rw[if_pos ⟨O,ab⟩]
   have b0:=G.kids u N j hj;obtain⟨c,hc⟩:∃c:Nat,(ct g u).ji.getD j 0=(c:Int):=⟨_,(Cl au).symm⟩;have⟨b1,q1,i1,l1,bP⟩:=zM ha J hj hc;refine aB (aX (Q:=fun o A' W=>o= .normal/\aT8 S2 S.nx xb uv a p5 p6 g q u M y b (k - 1) {A' with F:=cT (some 11) A'.F (jr ((j+1:Nat):Int))} W/\aA 11 A'.F=jr (j:Int)) (aJ (aB (aF ?_))) ?_)
   .refine eu p i l (dD D) i1 bP ?_;by_cases P:j=M
    .have bR:c=y:=by rw[P,u3] at hc;omega
     refine aM i7 ?_;rw[if_neg au] at C;refine aF (ik f i l @aU @aT (dI D) @aNF @cF ?_);refine fQ (aEQ (x:=.t 63) (a:=jr (ct g u).jj) (b:=jr (j:Int)) (aq)) ?_;intro T t1 nT gT;have⟨v',V,e1,e2,e3,e4,e5⟩:=aHk (bytes:=16) (r:=[(ct g u).jj,(j:Int)]) (C.step t1) (J.trans t1) gT rfl (by unfold nD;rw[Av];omega) az;refine eK (v:=v') (S1:=V) (fun call=>by refine fx @fB ?_;exact e1) ?_;refine am ?_;have mT:=t1.1;refine⟨⟨rfl,e3,au,aI,?_,j+1,v',b++ [((ct g u).jj,(M:Int))],au,by rw[if_pos au,bM],?_,ah m,ah A,ah n,af,ah p,ah i,af⟩,l⟩
     .rw[e5 _ au (fun h=>by
       have:=(C.step t1).blk h;have:=this.2.2;rw[t1.2 _ aV,D] at this;simp only[Ay,AB.cells.injEq] at this;exact absurd this.2.1 az),t1.2 _ aV]
      exact D
     .rw[aOm];rw[P] at e2;exact e2
    .have bR:c≠y:=fun e=>P (G.only N hj N u2 (by rw[hc,u3,e])).2;refine aK i7 (aG ?_);refine ae ?_
     refine⟨⟨rfl,J,aV,aI,D,j+1,v,_,au,?_,C,ah m,ah A,ah n,ah f,ah p,ah i,af⟩,l⟩;by_cases h:M<j
     .rw[if_pos h,if_pos au]
     .rw[if_neg h,if_neg au]
   rintro o ⟨F',bj⟩ W ⟨rfl,hJ,ac⟩;simp only at ac;refine aF (dz ac w1 ?_);have⟨q0,hW,l1,l2,gW,j',v',b',r1,r2,r3,r4,r5,r6,r7,r8,r9,bk⟩:=hJ;simp only[↓sU,sD,rE,↓reduceIte,rA] at q0 r4 r5 r6 r7 r8 r9 bk;exact⟨k - 1,au,q0,hW,l1,l2,gW,j',v',b',r1,r2,r3,ah r4,ah r5,ah r6,ah r7,ah r8,ah r9,ah bk⟩
  rintro o ⟨F',bj⟩ Y ⟨rfl,rfl,J,v',bU,m,A,n,f,p⟩;simp only at m A n f p;obtain⟨eb,eq,ia,ao,d⟩:=mE U (by rw[hP.len];exact hy);have d:=(eM J ao).trans d;rw[hP.par _ _ _ hp] at d;apply aF;simp only[↓sU,sD,rE,↓reduceIte,rA,n,p,ia,d];exact⟨u,u1,rfl,J,stepW g q u M b,v',UpW.step G ⟨hy,an,hw⟩ hp,bU,ah m,ah A,ah n,ah f,af⟩
 rintro o ⟨F,inr⟩ X ⟨rfl,rfl,hX,b,v,⟨_,an,hw⟩,C,m,A,n,f,p⟩;simp only at f;have bm:=hw [] .root;rw[Bs] at bm;have hz:=fC.z C xF;have b2:(nD b).length=b.length:=by unfold nD;rw[Av]
 refine ae ?_
 refine bS (ae ?_);refine aB (aX (Q:=fun o A' Y=>o= .normal/\aT5 X v (nD b) 0 A' Y) (aB (aF ?_)) ?_)
 .have w0:IntKind.i64.wrap ((((nD b).length:Nat):Int) - 1)=(((nD b).length:Nat):Int) - 1:=wrap_i64 au au;refine ec f hz.len @Ag w0 ?_;refine aJ (bL (aT5 X v (nD b)) ?_ (nD b).length _ _ ⟨rfl,dy _,.cr,Af _,by rw[List.drop_length];exact .inl ⟨rfl,rfl,rfl⟩,ah f,af,ag⟩);rintro k ⟨F,inr⟩ Y ⟨rfl,J,u,hk,N,f,K,B⟩;simp only at f K B;refine fZ (c8 B ?_);by_cases h0:k=0
  .subst h0;refine aK (by first | rfl | (simp only[↓sU,sD,rE,↓reduceIte,rA];rfl) | simp only[↓sU,sD,rE,↓reduceIte,rA]) (bH ?_);refine ae ?_;exact⟨rfl,J,u,hk,N,ah f,ah K,ah B⟩
  refine aM i7 (aG ?_);refine ae ?_
  have ek:(k:Int) - 1=((k - 1:Nat):Int):=by omega
  rw[ek] at B;have aZ:k - 1<(nD b).length:=by omega
  have w1:IntKind.i64.wrap (((k - 1:Nat):Int) - 1)=((k - 1:Nat):Int) - 1:=wrap_i64 au au;have⟨e,b1,q1,i1,l1,_,h1,la,_⟩:=aE.at (E:=ZE) hz az (Ab aZ);have la:=(eM J l1).trans la;obtain⟨s,c,bp⟩:∃s c,(nD b)[k - 1]= [s,c]:=by
   have h2:=xF _ (Bl aZ)
   match (nD b)[k - 1],h2 with
   | [s,c],_=>exact⟨s,c,rfl⟩
  have h1:e=aQ (nD b)[k - 1]:=h1;rw[bp] at h1;subst h1;refine aB (aJ (aF ?_));refine ie f K B @aY i1 la ?_;refine fQ (aEQ (x:=.t 77) (a:=jr s) (b:=jr c) (by simp only[↓aD,aC,rE,↓reduceIte,rA];rfl)) ?_;intro T t1 nT gT;have⟨v',V,e1,e2,e3,e4,e5⟩:=aHk (bytes:=16) (r:=[s,c]) (N.step t1) (J.trans t1) gT rfl (by rw[List.length_reverse,Cz];omega) az;refine eK (v:=v') (S1:=V) (fun call=>by refine fx @fB ?_;exact e1) ?_;refine am ?_;refine aF (dz B w1 ?_);refine⟨k - 1,au,rfl,e3,v',au,?_,ah f,af,af⟩;have ed:(nD b).drop (k - 1)= [s,c]::(nD b).drop k:=by
   rw[Bt aZ,bp,show k - 1+1=k by omega]
  rw[ed,Cg];exact e2
 rintro o ⟨F,inr⟩ Y ⟨rfl,rfl,J,u,_,N,b3,K,B⟩;simp only at K;refine ae ?_
 refine bS (c8 K ?_);refine aS (ae ?_);refine⟨((s1.trans s2).trans hX).trans J,b,bm,au,?_⟩;rw[Di] at N;exact fC.z N fun x hx=>xF x (Fm.1 hx)
def aFn{i:Nat}{y:Int}:∀ {l:List cD} {s:Nat},y∈setN l s i↔∃j x,l[j]? =some x/\y=((s+j:Nat):Int)/\x.jk=2/\x.jj=(i:Int)
 | [],s=>⟨nofun,fun⟨j,x,h,_⟩=>by simp at h⟩
 | z::l,s=>by
  simp only[setN];by_cases h:z.jk=2/\z.jj=(i:Int)
  .rw[if_pos h,Bm,aFn (l:=l) (s:=s+1)];constructor
   .rintro(rfl|⟨j,x,a,b,d⟩)
    .exact⟨0,z,rfl,rfl,h⟩
    .exact⟨j+1,x,by rw[Cd];exact a,by rw[b];congr 1;omega,d⟩
   .rintro⟨j,x,a,b,d⟩;cases j with
    | zero=>exact .inl b
    | succ j=>exact .inr ⟨j,x,by rw[Cd] at a;exact a,by rw[b];congr 1;omega,d⟩
  .rw[if_neg h,aFn (l:=l) (s:=s+1)];constructor
   .rintro⟨j,x,a,b,d⟩;exact⟨j+1,x,by rw[Cd];exact a,by rw[b];congr 1;omega,d⟩
   .rintro⟨j,x,a,b,d⟩;cases j with
    | zero=>
     rw[Ef] at a;cases a;exact absurd d h
    | succ j=>exact⟨j,x,by rw[Cd] at a;exact a,by rw[b];congr 1;omega,d⟩
def aG2{y:Int}:y∈setN g.ce 0 i↔∃j:Nat,y=(j:Int)/\j<g.ce.length/\(ct g j).jk=2/\(ct g j).jj=(i:Int):=by
 rw[aFn];constructor
 .rintro⟨j,x,a,b,d,e⟩;have:=aA3 a;exact⟨j,by rw[b,An],(Aj.1 a).1,by rw[this];exact d,by rw[this];exact e⟩
 .rintro⟨j,a,b,d,e⟩;exact⟨j,_,cU b,by rw[a,An],d,e⟩
def aMC(G:cV g)(hi:i<g.cg.length):(setN g.ce 0 i).getD 0 0=((fS g i:Nat):Int)/\0<(setN g.ce 0 i).length:=by
 rcases rO i g.ce 0 with⟨b,d⟩|⟨a,L,b,d⟩
 .have⟨f1,f2,f3⟩:=G.fst i hi;have:((fS g i:Nat):Int)∈setN g.ce 0 i:=aG2.2 ⟨_,rfl,f1,f2,f3⟩;rw[b] at this;cases this
 .rw[b];refine⟨?_,by simp⟩;unfold fS;rw[d];rfl
def aIQ(g:aP)(s:Nat):Prop:=∃x y w w',x<g.ce.length/\y<g.ce.length/\(ct g x).jk=2/\(ct g y).jk=2/\(ct g x).jj=(s:Int)/\(ct g y).jj=(s:Int)/\qN g (cu g (s:Int)).jl x w/\qN g (cu g (s:Int)).jl y w'/\w≠w'
def aLD(g:aP)(s x:Nat):Prop:=∃w w',qN g (cu g (s:Int)).jl x w/\qN g (cu g (s:Int)).jl (fS g s) w'/\w≠w'
def aLD.bad(G:cV g){s:Nat}(a:s<g.cg.length)(b:x<g.ce.length)(d:(ct g x).jk=2)(hi:(ct g x).jj=(s:Int))(h:aLD g s x):aIQ g s:=by
 have⟨w,w',e,f,i⟩:=h;have⟨f1,f2,f3⟩:=G.fst s a;exact⟨x,_,w,w',b,f1,d,f2,hi,f3,e,f,i⟩
def aO2(G:cV g){s:Nat}(d:s<g.cg.length)(h:aIQ g s):∃x,x<g.ce.length/\(ct g x).jk=2/\(ct g x).jj=(s:Int)/\aLD g s x:=by
 have⟨x,y,w,w',f,i,j,k,l,m,n,o,a⟩:=h;have⟨f1,f2,f3⟩:=G.fst s d;have⟨v,b⟩:=aD0 G (cu g (s:Int)).jl f1;by_cases e:w=v
 .exact⟨y,i,k,m,w',v,o,b,fun p=>a (by rw[e,p])⟩
 .exact⟨x,f,j,l,w,v,n,b,e⟩
def aOW(G:cV g){q:Int}:aBK g q↔∀s,s<g.cg.length->aIQ g s->(cu g (s:Int)).jl≠q:=by
 constructor
 .rintro h s d ⟨x,y,w,w',e,k,f,l,m,n,i,j,a⟩ b;rw[b] at i j;exact a (h x y w w' e k f l (by rw[m,n]) (by rw[m];exact b) i j)
 .intro h x y w w' e k f l hi b i j;have⟨o,p,_⟩:=G.inf x e f;obtain⟨s,d⟩:∃s:Nat,(ct g x).jj=(s:Int):=⟨_,(Cl o).symm⟩;refine Classical.byContradiction fun a=>?_;rw[d] at b;refine h s au ⟨x,y,w,w',e,k,f,l,d,by rw[<-hi];exact d,by rw[b];exact i,by rw[b];exact j,a⟩ b
def aJN(g:aP)(q:Int)(x a:Nat):Prop:=∃c k b,Par g a k c/\UpW g q x c b
def aJN.step(G:cV g){q:Int}{a k:Nat}(h:aJN g q x a)(d:Par g u k a):aJN g q x u:=by
 have⟨c,k',b,e,f⟩:=h;exact⟨a,k,_,d,f.step G e⟩
def aJN.bad(G:cV g)(i:∀o,o<g.ce.length->(ct g o).jk=2->(cu g (ct g o).jj).jl=(ct g o).jl){s a:Nat}(p:x<g.ce.length)(q:(ct g x).jk=2)(hi:(ct g x).jj=(s:Int))(h:aJN g (cu g (s:Int)).jl x a)(j:(ct g a).jk=2)(l:(ct g a).jj=(s:Int)):aIQ g s:=by
 have⟨c,k,b,f,_,_,r⟩:=h;have⟨w,d⟩:=aD0 G (cu g (s:Int)).jl f.1;have m:=qN.step f d;have n:=i a f.1 j;rw[l] at n;rw[if_pos ⟨j,n.symm⟩] at m;refine⟨x,a,_,w,p,f.1,q,j,hi,l,r _ m,d,fun e=>?_⟩;have:=congrArg List.length e;rw[Ai,Aw] at this;omega
structure aDg(g:aP)(D:Nat->Nat->Prop)(L:bo):Prop where
 four:∀f∈L,f.length=4
 snd:∀f∈L,∃s:Nat,f.getD 2 0=(s:Int)/\s<g.cg.length/\aIQ g s
 all:∀s j,s<g.cg.length->j<(setN g.ce 0 s).length->D s j->aLD g s ((setN g.ce 0 s).getD j 0).toNat->∃f∈L,f.getD 2 0=(s:Int)
def aDg.push{l:Nat->Nat->Prop}{a b s c:Int}(h:aDg g D L)(m:∃n:Nat,s=(n:Int)/\n<g.cg.length/\aIQ g n)(o:∀e j,l e j->D e j\/(e:Int)=s):aDg g l (L++ [[a,b,s,c]]):=by
 refine⟨fun f d=>?_,fun f d=>?_,fun e j i k p q=>?_⟩
 .rcases Bi.1 d with d|d
  .exact h.four f d
  .rw[Bz.1 d];rfl
 .rcases Bi.1 d with d|d
  .exact h.snd f d
  .rw[Bz.1 d];obtain⟨n,rfl,i,k⟩:=m;exact⟨n,rfl,i,k⟩
 .rcases o e j p with r|t
  .have⟨f,f1,f2⟩:=h.all e j i k r q;exact⟨f,Dc _ f1,f2⟩
  .exact⟨_,Cq _ (Bz.2 rfl),t.symm⟩
def aDg.mono{b:Nat->Nat->Prop}(h:aDg g D L)(i:∀s j,s<g.cg.length->j<(setN g.ce 0 s).length->b s j->D s j\/¬aLD g s ((setN g.ce 0 s).getD j 0).toNat):aDg g b L:=⟨h.four,h.snd,fun s j d e k f=>by
 rcases i s j d e k with a|a
 .exact h.all s j d e a f
 .exact absurd f a⟩
def aDg.iff(G:cV g)(h:aDg g (fun _ _=>True) L){q:Int}:aBK g q↔∀f∈L,(cu g (f.getD 2 0)).jl≠q:=by
 rw[aOW G];constructor
 .intro a f i;have⟨s,k,l,m⟩:=h.snd f i;rw[k];exact a s l m
 .intro a s b n;have⟨x,x1,x2,x3,o⟩:=aO2 G b n;have⟨j,d,e⟩:=Ce (aG2.2 ⟨x,rfl,x1,x2,x3⟩);have p:(setN g.ce 0 s).getD j 0=(x:Int):=by rw[Ad,Ab d,e];rfl
  have⟨f,f1,f2⟩:=h.all s j b d trivial (by rw[p,Am];exact o);have:=a f f1;rw[f2] at this;exact this
end Go.Ev.Gl
