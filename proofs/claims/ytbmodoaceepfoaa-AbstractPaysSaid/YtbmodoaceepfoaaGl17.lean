import Derived.Test.YtbmodoaceepfoaaGl16
set_option linter.all false
open Nat renaming reduceEqDiff -> rE, reduceAdd -> rA
set_option maxHeartbeats 0
namespace Go.Ev.Gl
variable {fns:T fD}
variable {C:List cD}{x:cD}{lev b i mb db:Nat}{m' d c:Mk}{pl many ps:Int}{F:Fr}{S S0 X:St}{Q:Out->bO->St->Prop}{h:Ev.T AB}{LV:List (Int×Int×Int)}
def aBt:cD:=⟨0,0,0,[],[],[]⟩
def aIr{A:List cD}{y:cD}:(A++ [y]++C).set A.length x=A++(x::C):=by
 rw[Bg,List.set_append_right _ _ (Af _),Dv];rfl
def aPS{m:Mk}(b:aFy lev m)(n:1<=m.pend)(g:aP7 m.ps x)(c:m'.ce=m.ce++ [x])(a:m'.cg=m.cg)(d:m'.views=m.views)(h:m'.most=m.most)(i:m'.ps=m.ps)(k:m'.pend=m.pend - 1):aAa m m' [x] 1 where
 ce:=c
 ok:=fun y o=>by rw[Bz.1 o];exact .inl g
 ord:=fun f p=>by
  have e:xA x=Option.none:=by unfold xA;rw[if_neg (by rw[g.jk];decide)]
  rw[a];show fM (f++ [xA x]) _;rw[e];exact .none p
 inf:=⟨[],by rw[a,Bs]⟩
 vws:=⟨[],by rw[d,Bs]⟩
 vok:=⟨by rw[a,d];exact b.vok.len,fun j v l=>by rw[d] at l;rw[a,i];exact b.vok.at_ j v l⟩
 used:=fun j r q=>by rw[a] at q;omega
 most:=h
 ps:=i
 pend:=k
 fit:=by
  have:=b.fit;rw[c,k,h,Ai,Ax];omega
 il:=by
  have:=b.il;rw[c,a,Ai,Ax];omega
structure aPw(lev:Nat)(m2 m3:Mk)(pl jj many:Int):Prop where
 ce:m3.ce=m2.ce
 most:m3.most=m2.most
 ps:m3.ps=m2.ps
 pend:m3.pend=m2.pend
 vok:aDz m3
 info0:0<=jj
 many1:1<=many/\many<=3
 cases:(m3.cg=m2.cg/\m3.views=m2.views/\((pl<0/\jj=0)\/(0<=pl/\m2.cg[jj.toNat]? =some ⟨pl,many⟩/\aCb m2 jj)))\/(0<=pl/\jj=(m2.cg.length:Int)/\m3.cg=m2.cg++ [⟨pl,many⟩]/\m3.views=m2.views++ [(pl,(lev:Int),jj)])
def aFR{e:Mk}{jj:Int}(h:aPw lev e d pl jj many)(j:∀x∈e.ce,x.jk=2->x.jj<(e.cg.length:Int)):
  ((pl<0\/jj≠(d.cg.length:Int) - 1\/aCb d jj)->d.cg=e.cg/\d.views=e.views)/\((0<=pl/\jj=(d.cg.length:Int) - 1/\¬aCb d jj)->d.cg.dropLast=e.cg/\d.views.dropLast=e.views):=by
 rcases h.cases with⟨l,m,g⟩|⟨l,m,g,o⟩
 .refine⟨fun _=>⟨l,m⟩,fun⟨a,b,c⟩=>?_⟩;rcases g with⟨n,_⟩|⟨_,_,n⟩
  .omega
  .exact absurd (by have⟨x,i,k⟩:=n;exact⟨x,by rw[h.ce];exact i,k⟩) c
 .refine⟨fun f=>?_,fun _=>⟨by rw[g,List.dropLast_concat],by rw[o,List.dropLast_concat]⟩⟩;rcases f with f|f|f
  .omega
  .rw[g,Ai,Ax] at f;omega
  .have⟨x,i,k,hi⟩:=f;rw[h.ce] at i;have:=j x i k;omega
def jI(pl jj:Int)(cs a:bt):cD:=if pl<0 then⟨1,0,0,cs,a,[]⟩ else⟨2,pl,jj,cs,a,[]⟩
def aPi{K:Nat}{m o p g:Mk}{jj:Int}{cs b:bt}(hp:aFy lev m)(aa:1<=m.pend)(A:pl<m.ps)(e2:o.ce=m.ce++ [aBt]/\o.cg=m.cg/\o.views=m.views/\o.most=m.most/\o.ps=m.ps/\o.pend=m.pend - 1)(d:aPw lev o p pl jj many)(e5:c.ce=p.ce/\c.cg=p.cg/\c.views=p.views/\c.most=p.most/\c.ps=p.ps/\c.pend=p.pend+many)(f:aAa c g C (i:Int))(hi:(i:Int)=many)(B:cs.length=i)(D:yW K c.ce.length cs C)(t:(pl<0->b.length=i/\∀w∈b,1<=w/\w<=3)/\(¬pl<0->b= []))
  (h1:m'.ce=g.ce.set m.ce.length (jI pl jj cs b)) (q:m'.cg=g.cg) (E:m'.views=g.views) (S:m'.most=g.most) (T:m'.ps=g.ps) (U:m'.pend=g.pend):aAa m m' (jI pl jj cs b::C) 1/\qS (K+1) m.ce.length (jI pl jj cs b::C):=by
 have⟨W,l,a3,a4,X,a6⟩:=e2;have⟨Y,n,Z,c4,c5,c6⟩:=e5;have F:g.ce=m.ce++ [aBt]++C:=by rw[f.ce,Y,d.ce,W]
 have r:m'.ce=m.ce++(jI pl jj cs b::C):=by rw[h1,F,aIr]
 have ab:=d.many1;have G:=d.info0;have⟨I5,u⟩:=f.inf;have⟨V5,H⟩:=f.vws;have J:∃I,c.cg=m.cg++I:=by
  rcases d.cases with⟨a,_,_⟩|⟨_,_,a,_⟩
  .exact⟨[],by rw[n,a,l,Bs]⟩
  .exact⟨_,by rw[n,a,l]⟩
 have L:∃V,c.views=m.views++V:=by
  rcases d.cases with⟨_,a,_⟩|⟨_,_,_,a⟩
  .exact⟨[],by rw[Z,a,a3,Bs]⟩
  .exact⟨_,by rw[Z,a,a3]⟩
 have⟨I,hI⟩:=J;have⟨V,hV⟩:=L;have M:g.ps=m.ps:=by rw[f.ps,c5,d.ps,X]
 have s:(jI pl jj cs b).ji=cs:=by unfold jI;split<;>rfl
 have N:gN m.ps g.cg (jI pl jj cs b):=by
  unfold jI;by_cases h:pl<0
  .rw[if_pos h];have⟨w1,w2⟩:=t.1 h;exact .inr (.inl ⟨rfl,rfl,rfl,rfl,by show 1<=cs.length;omega,by show cs.length<=3;omega,by show b.length=cs.length;omega,w2⟩)
  .rw[if_neg h];have O:g.cg[jj.toNat]? =some ⟨pl,(cs.length:Int)⟩:=by
    rw[B,hi,u];rcases d.cases with⟨a,_,k⟩|⟨_,y,a,_⟩
    .rcases k with⟨k,_⟩|⟨_,k,_⟩
     .exact absurd k h
     .rw[n,a,Ak (Aj.1 k).1];exact k
    .rw[n,a,y,Am,Ak (by simp),Ao (Af _),Dv];rfl
   exact .inr (.inr ⟨rfl,t.2 h,rfl,by show 1<=cs.length;omega,by show cs.length<=3;omega,⟨by show 0<=pl;omega,A⟩,G,O⟩)
 refine⟨⟨r,fun x z=>?_,fun P Q=>?_,⟨I++I5,by rw[q,u,hI,Bg]⟩,⟨V++V5,by rw[E,H,hV,Bg]⟩,⟨by rw[q,E];exact f.vok.len,fun j v hv=>by rw[E] at hv;rw[q,T];exact f.vok.at_ j v hv⟩,fun j j1 j2=>?_,by rw[S,f.most,c4,d.most,a4],by rw[T,M],by rw[U,f.pend,c6,d.pend,a6];omega,?_,?_⟩,?_⟩
 .rw[q];rcases Bm.1 z with rfl|z
  .exact N
  .have:=f.ok x z;rw[c5,d.ps,X] at this;exact this
 .rw[q];have R:fM (P++ [xA (jI pl jj cs b)]) c.cg.length:=by
   rcases d.cases with⟨a,_,k⟩|⟨b0,y,a,_⟩
   .rw[n,a,l];rcases k with⟨k,_⟩|⟨k,b4,_⟩
    .have e:xA (jI pl jj cs b)=Option.none:=by unfold jI;rw[if_pos k];rfl
     rw[e];exact .none Q
    .have e:xA (jI pl jj cs b)=some jj.toNat:=by unfold jI;rw[if_neg au];rfl
     rw[e];have:=(Aj.1 b4).1;rw[l] at this;exact .old Q this
   .have e:xA (jI pl jj cs b)=some jj.toNat:=by unfold jI;rw[if_neg au];rfl
    rw[e,n,a,y,Am,l,Ai,Ax];exact .new Q
  have:=f.ord _ R;rw[Bg] at this;exact this
 .rw[q] at j2;by_cases hj:j<c.cg.length
  .rcases d.cases with⟨a,_,_⟩|⟨b0,y,a,_⟩
   .rw[n,a,l] at hj;omega
   .rw[n,a,l,Ai,Ax] at hj;refine⟨_,Be ..,?_,?_⟩
    .unfold jI;rw[if_neg au]
    .unfold jI;rw[if_neg au];show jj=_;rw[y,l];omega
  .have⟨x,z,hk⟩:=f.used j au j2;exact⟨x,Az _ z,hk⟩
 .have:=f.fit;rw[r,U,S];rw[F] at this;simp only[Ai,Aw,Ca] at this ⊢;omega
 .have:=f.il;rw[r,q];rw[F] at this;simp only[Ai,Aw,Ca] at this ⊢;omega
 .refine qS.node ?_;rw[s];have e:c.ce.length=m.ce.length+1:=by rw[Y,d.ce,W,Ai];rfl
  rw[<-e];exact D
def aOh{m m5:Mk}{jj:Int}(f:aFy lev m)(w:1<=m.pend)(y:c.ce=m.ce++ [aBt]/\c.cg=m.cg/\c.views=m.views/\c.most=m.most/\c.ps=m.ps/\c.pend=m.pend - 1)(b:aPw lev c d pl jj many)(z:m5.ce=d.ce/\m5.cg=d.cg/\m5.views=d.views/\m5.most=d.most/\m5.ps=d.ps/\m5.pend=d.pend+many)(o:(m.ce.length:Int)+1+(m.pend - 1)+many<=m.most):aFy (lev+1) m5:=by
 have⟨A,p,a3,q,B,a6⟩:=y;have⟨C,g,k,r,s,t⟩:=z;have D:=b.many1;have i:m5.ce=m.ce++ [aBt]:=by rw[C,b.ce,A]
 have E:=f.il;have l:m.cg.length<=m5.cg.length/\m5.cg.length<=m.cg.length+1:=by
  rcases b.cases with⟨e,_,_⟩|⟨_,_,e,_⟩
  .rw[g,e,p];omega
  .rw[g,e,p,Ai,Ax];omega
 refine⟨⟨by rw[g,k];exact b.vok.len,fun j v a=>by rw[k] at a;rw[g,s];exact b.vok.at_ j v a⟩,fun j v a=>?_,fun x u n=>?_,by rw[i,r,b.most,q,t,b.pend,a6,Ai,Ax];omega,by rw[t,b.pend,a6];omega,by rw[r,b.most,q];exact f.most,by rw[i,Ai,Ax];omega,by rw[s,b.ps,B];exact f.ps⟩
 .rw[k] at a;have old:m.views[j]? =some v->v.2.1<((lev+1:Nat):Int)\/aCb m5 v.2.2:=fun h=>(f.lv j v h).elim (fun h=>.inl au) fun h=>.inr (h.mono i);rcases b.cases with⟨_,e,_⟩|⟨_,_,_,e⟩
  .rw[e,a3] at a;exact old a
  .rw[e,a3] at a;by_cases F:j<m.views.length
   .rw[Ak F] at a;exact old a
   .rw[Ao au] at a;have G:j - m.views.length=0:=by
     rcases Cb (j - m.views.length) with h|h
     .exact h
     .rw[Bv (by simp;omega)] at a;cases a
    rw[G] at a;cases a;exact .inl (by show(lev:Int)<_;omega)
 .rw[i] at u;rcases Bi.1 u with h|h
  .have:=f.nd x h n;omega
  .rw[Bz.1 h] at n;cases n
def aHu{c:AC}(a:Fr->Prop)(b:a F)(h:∀F',a F'->jN fns c ⟨F',false⟩ S Q):jN fns c ⟨F,false⟩ S Q:=h F b
def aUY:iC (.build [jr 0,jr 0,jr 0,.cr,.cr,.cr] []) F h=some (.agg [jr 0,jr 0,jr 0,.cr,.cr,.cr]):=rfl
def aUZ{jj:Int}(a:aA 128 F=jr pl)(b:aA 129 F=jr jj):iC (.build [jr 0,jr 0,jr 0,.cr,.cr,.cr] [(0,1,.c (jr 2)),(1,1,.t 128),(2,1,.t 129)]) F h=some (.agg [jr 2,jr pl,jr jj,.cr,.cr,.cr]):=by
 show(bD (eO _ (dN F [(0,1,.c (jr 2)),(1,1,.t 128),(2,1,.t 129)])) fun cs=>some (AV.agg cs))=_;simp only[dN,show(cQ.t 128).val F=jr pl from a,show(cQ.t 129).val F=jr jj from b,aCJ,eO,cF,aH];rfl
def aLJ{k p:Nat}{v:AV}(h:eY (.slice k) v i=some (.ptr b p)):aN v=some b:=by
 cases v with
 | sl c off len cap o=>
  have h:bX (Nat.blt i len) (some (AV.ptr c (off+i * k))) none=some (.ptr b p):=h;cases a:Nat.blt i len with
  | true=>rw[a,aL] at h;cases h;rfl
  | false=>rw[a,aR] at h;cases h
 | _=>cases h
noncomputable def aOf:List AO:=[mt 195 0,
om 196 1 (.cw (.t 195)),
om 197 3 (.dd 7 (.t 196)),
om 198 7 (.dd 1 (.t 197)),
om 199 15 (ld 198),
mt 200 7,
oq 201 (.ld true 6 (.t 11)),
om 202 127 (.c9 (.slice 6) (.t 199) (.t 200))]
def aPD(P:Nat->Prop)(S0 X:St)(mb db:Nat)(LV:List (Int×Int×Int))(lev:Nat)(m:Mk)(Z:St):Prop:=∃m' B,aAa m m' B 1/\qS (LV.length - lev) m.ce.length B/\nS (fun c=>P c\/X.nx<=c) S0 Z mb db m' LV/\gK mb db m X m' Z
def aHv{P:Nat->Prop}{Y:St}{m a:Mk}(H:Has fns)(b:aFy lev m)(f:1<=m.pend)(l:nS P S0 Y mb db a LV)(j:gK mb db m X a Y)(e:a.ce=m.ce++ [aBt]/\a.cg=m.cg/\a.views=m.views/\a.most=m.most/\a.ps=m.ps/\a.pend=m.pend - 1):
  iK fns (.fn 72 [] []) [.ptr mb 0,jr (m.ce.length:Int)] Y fun _ Z=>aPD P S0 X mb db LV lev m Z:=by
 have⟨k,n,o,p,g,q⟩:=e;refine aW (aLV H l (show m.ce.length<a.ce.length by rw[k,Ai];simp) (by rw[g];exact b.ps)) ?_;rintro r Z ⟨x,i,s,t⟩;rw[g] at i;have d:a.ce.set m.ce.length x=m.ce++ [x]:=by
  have:=aIr (A:=m.ce) (C:=[]) (x:=x) (y:=aBt);rw[Bs] at this;rw[k];exact this
 exact⟨{a with ce:=a.ce.set m.ce.length x},[x],aPS b f i d n o p g q,qS.end_ i.ji,s.mono fun c _ h=>h.elim (fun h=>.inl h) fun h=>.inr (Aq j.1 h),j.trans t⟩
def aEa(H:Has fns)(da:∀p∈LV, -1<=p.1/\2<=p.2.1/\p.2.1<=3/\0<=p.2.2/\p.2.2<=1000)(eB:LV.length<=700)(eC:lev<=LV.length)(bM:lev<LV.length->aDC fns S0 mb db LV (lev+1)):aDC fns S0 mb db LV lev:=by
 intro X P m v rows hM hS d ao aw dc cm cn;have es:=d.fit;have dd:=d.most;have eD:=d.il;have eL:=d.ps;have df:=d.vok.len;have f8:=cM (p:=8) hM.g rfl;have f4:=cM (p:=4) hM.g rfl;have wP:IntKind.i64.wrap (m.pend - 1)=m.pend - 1:=wrap_i64 au au;refine cJ H.f63 (by simp) ?_;refine ae ?_;refine bS (ae ?_);refine bS (dz f8 hM.p.nod.len ?_);refine bS (dz f4 wP ?_);refine eK (v:=.undef) (S1:=⟨X.h.set mb (some (.cells (fE db {m with pend:=m.pend - 1}) false 0)),X.nx⟩) (fun call=>by refine dz @dE @cF ?_;exact xY (cs:=fE db m) (p:=4) (S:=X) hM.g (au:4<10)) ?_;refine ae ?_;obtain⟨X1,U⟩:∃Z:St,Z=⟨X.h.set mb (some (.cells (fE db {m with pend:=m.pend - 1}) false 0)),X.nx⟩:=⟨_,rfl⟩;have bP:nS P S0 X1 mb db {m with pend:=m.pend - 1} LV:=(hM.p.keep (m':={m with pend:=m.pend - 1}) (X':=X) (Af _) (fun _ _ _ _=>rfl) hM.p.dr rfl rfl rfl rfl rfl rfl rfl rfl rfl).1.put (by rw[U];simp only;rw[dx,if_pos rfl]) (by rw[U];exact Af _) fun c _ aI=>by rw[U];simp only;rw[dx,if_neg aI]
 have k1:gK mb db m X {m with pend:=m.pend - 1} X1:=(hM.p.keep (m':={m with pend:=m.pend - 1}) (X':=X) (Af _) (fun _ _ _ _=>rfl) hM.p.dr rfl rfl rfl rfl rfl rfl rfl rfl rfl).2.trans (by rw[U];exact gK.put);rw[<-U];have f81:=cM (p:=8) bP.g rfl;have dg:=fun(F:Fr) (h:Ev.T AB)=>aUY (F:=F) (h:=h);refine bS (ie @dG @dH @aU @aT f81 dg ?_);refine fQ (aFo (by simp only[↓aD,aC,rE,↓reduceIte,rA];rfl)) ?_;intro X2 x2 n2 g2;have V:=bP.jo x2;have⟨v',X3,eA,aV,nV,kV,bV⟩:=V.p.nod.push (bytes:=96) (x:=.sl X1.nx 0 1 1 false) (a:=aBt) az (ax k1.1) rfl (aKk g2 rfl) rfl ⟨.cr,.cr,.cr,rfl,.inl ⟨rfl,.inl rfl⟩,.inl ⟨rfl,.inl rfl⟩,.inl ⟨rfl,.inl rfl⟩,fun c q=>by rcases q with h|h|h<;>cases h⟩ (by show m.ce.length+1<=room;unfold room;omega) (by show(m.ce.length+1) * 96<=room;unfold room;omega);refine eK (fun call=>by refine fx @fB ?_;exact eA) ?_;refine gu @dG @dH @aU @aT ?_;have⟨kP,kM⟩:=V.p.pushN nV kV bV aV;have cq:X3.h.get mb=some (.cells (fE db {m with pend:=m.pend - 1}) false 0):=(kV mb V.p.lt fun e=>(V.p.d1 mb e).1 rfl).trans V.g;refine eK (v:=.undef) (S1:=⟨X3.h.set mb (some (.cells (fE db {m with pend:=m.pend - 1,na:=v',ce:=m.ce++ [aBt]}) false 0)),X3.nx⟩) (fun call=>by refine gj @dE aV.cells @aH ?_;exact xY (cs:=fE db {m with pend:=m.pend - 1}) (p:=8) (S:=X3) cq (au:8<10)) ?_;refine am ?_;obtain⟨X4,W⟩:∃Z:St,Z=⟨X3.h.set mb (some (.cells (fE db {m with pend:=m.pend - 1,na:=v',ce:=m.ce++ [aBt]}) false 0)),X3.nx⟩:=⟨_,rfl⟩;have u:nS P S0 X4 mb db {m with pend:=m.pend - 1,na:=v',ce:=m.ce++ [aBt]} LV:=kP.put (by rw[W];simp only;rw[dx,if_pos rfl]) (by rw[W];exact Af _) fun c _ aI=>by rw[W];simp only;rw[dx,if_neg aI]
 have k4:gK mb db m X {m with pend:=m.pend - 1,na:=v',ce:=m.ce++ [aBt]} X4:=((k1.trans (gK.jo x2)).trans kM).trans (by rw[W];exact gK.put);rw[<-W];obtain⟨m2,bR⟩:∃m2:Mk,m2= {m with pend:=m.pend - 1,na:=v',ce:=m.ce++ [aBt]}:=⟨_,rfl⟩;rw[<-bR] at u k4;have E2:m2.ce=m.ce++ [aBt]/\m2.cg=m.cg/\m2.views=m.views/\m2.most=m.most/\m2.ps=m.ps/\m2.pend=m.pend - 1:=by rw[bR];exact⟨rfl,rfl,rfl,rfl,rfl,rfl⟩
 refine aHu (fun F=>aA 0 F= .ptr mb 0/\aA 1 F=jr (lev:Int)/\aA 2 F=v/\aA 7 F=jr (m.ce.length:Int)) ⟨af,af,af,af⟩ ?_;rintro F ⟨g,t,z,s⟩;have f1:=cM (p:=1) u.g rfl;have f0:=cM (p:=0) u.g rfl;apply fZ;by_cases cr:(lev:Int)=(LV.length:Int)
 .refine eu g t f1 u.p.lev.len @Ag (Ac cr) ?_;refine aM (af) ?_;refine bS (dz g s ?_);refine bJ (ae ?_);refine aW (aHv H d ao u k4 E2) ?_;intro r Z hZ
  refine bS (c8 s ?_);refine aS (ae ?_);exact hZ
 refine ew g t f0 f1 u.p.lev.len @Ag (Aa cr) ?_;refine bJ (ae ?_);refine aW (mN H u.p.dr (n:=8) az az) ?_;rintro _ X5 ⟨s5,d5,y,rfl,_,_⟩;have⟨aa,b5⟩:=u.drawn s5 d5;have k5:=k4.trans b5;by_cases hy:y=1
 .refine c8 (Ac hy) ?_;refine aM (af) ?_;refine bS (dz g s ?_);refine bJ (ae ?_);refine aW (aHv H d ao aa k5 E2) ?_;intro r Z hZ
  refine bS (c8 s ?_);refine aS (ae ?_);exact hZ
 refine c8 (Aa hy) ?_;refine aK (af) (aG ?_);refine ae ?_
 have cv:lev<LV.length:=by omega
 have bM:=bM cv;obtain⟨pl,mn,sn,cw⟩:∃pl mn sn,LV[lev]? =some (pl,mn,sn):=⟨_,_,_,Ab cv⟩;have bm:(pl,mn,sn)∈LV:=Bb cw;have⟨q1,q2,q3,q4,q5⟩:=da _ bm;have q6:=cn _ bm;simp only at q1 q2 q3 q4 q5 q6;refine aHu (fun F=>aA 0 F= .ptr mb 0/\aA 1 F=jr (lev:Int)/\aA 2 F=v/\aA 7 F=jr (m.ce.length:Int)) ⟨ah g,ah t,ah z,ah s⟩ ?_;rintro F ⟨g,t,z,s⟩;have f1:=cM (p:=1) aa.g rfl;have⟨ep,bl,ql,bp,_,_,aZ,bq,_⟩:=aE.at aa.p.lev az cw;have aZ:ep= [jr pl,jr mn,jr sn]:=aZ;subst aZ;refine bS (im g t @dG @dH @aU @aT f1 @aY bp bq ?_);apply cB;intro W1 v1 n1 h1;refine dB (b:=X5.nx) (aq) (by refine am ?_;exact bB _) h1 rfl rfl ?_;intro X6 v2 n2 h2;refine am ?_;have bU:jq X5 X6:=v2.jo v1 (Af _);have bW:=aa.jo bU;have k6:=k5.trans (gK.jo bU);have bY:X5.nx<X6.nx:=by omega
 have b0:PB mb db m2 X5.nx:=aa.p.fresh (Af _);have eN:X.nx<=X5.nx:=k5.1;have t0:=cM (p:=0) h2 rfl;have t1:=cM (p:=1) h2 rfl;generalize X5.nx=tb at *;refine bS (c8 t1 ?_);have⟨a0,D,ab,di,a5,dj⟩:=id E2;have bs:∀x∈m2.ce,x.jk=2->x.jj<(m2.cg.length:Int):=fun x hx hk=>by
  rw[a0] at hx;rw[D];rcases Bi.1 hx with h|h
  .exact d.nd x h hk
  .rw[Bz.1 h] at hk;cases hk
 have M:aDz m2:=⟨by rw[D,ab];exact df,fun j w hw=>by rw[ab] at hw;rw[D,a5];exact d.vok.at_ j w hw⟩;refine aB (aX (Q:=fun o E Z=>o= .normal/\E.inr=false/\∃f jj many,aPw lev m2 f pl jj many/\nS P S0 Z mb db f LV/\gK mb db m2 X6 f Z/\aA 0 E.F= .ptr mb 0/\aA 1 E.F=jr (lev:Int)/\aA 2 E.F=v/\aA 7 E.F=jr (m.ce.length:Int)/\aA 8 E.F= .ptr tb 0/\aA 9 E.F=jr many/\aA 10 E.F=jr jj) (aB (aF ?_)) ?_)
 .refine c8 t0 ?_;by_cases G:0<=pl;rotate_left
  .refine aK (ja (Aa (show ¬pl≥0 from G))) (aG ?_);refine ec g t z s ?_;exact⟨m2,0,mn,⟨rfl,rfl,rfl,rfl,M,au,⟨au,q3⟩,.inl ⟨rfl,rfl,.inl ⟨au,rfl⟩⟩⟩,bW,gK.refl,rfl,rfl⟩
  refine aM (ja (Ac (show pl≥0 from G))) ?_;obtain⟨pn,rfl⟩:∃pn:Nat,pl=(pn:Int):=⟨pl.toNat,au⟩;have b2:pn<rows.length:=by omega
  have cx:wO (fun c=>PB mb db m2 c/\P c) X6 v rows:=aw.move k6.1 fun c q R=>⟨(k6.2 c q R.1).1,(k6.2 c q R.1).2,R.2⟩;obtain⟨_,br,qr,cy,dm,_,⟨a,rfl,bv,dn⟩,_,dp⟩:=aE.at cx.rows az (uZ b2);have cz:=dp 0 a rfl;rw[Bw] at cz;have dq:=(cx.out br (aLJ cy)).1;have sa:=bN.self bv;have dr:(rows.getD pn []).length<=lev:=cm _ (by rw[Ad,Ab b2];exact Bl b2);have eP:=k6.1;refine aB (iN (fun c=>¬PB mb db m2 c) ?_);intro X7 x7;refine fj g t z t0 cy cz sa bY dm b0 dq @Dd @Ap ?_;refine jH rfl ?_;refine ae ?_;refine aW (aMA (l:=rows.getD pn []) H (bW.jo x7) (by have h9:X6.nx<=X7.nx:=x7.1;show S0.nx<=X7.nx;omega) (bv.jo x7) au dn (by rw[ab];omega) (by rw[D];omega)) ?_;intro r Z hZ;have bw:∀ {f},gK mb db m2 X7 f Z->aGK (fun c=>¬PB mb db m2 c) X6.nx X7 Z:=fun {f} b=>⟨b.1,fun c q hn=>(b.2 c (ax x7.1) (Classical.not_not.1 hn)).1⟩;rcases hZ with⟨sZ,i,vw,cW,e1,e2,rfl⟩|⟨cX,b3,a',a1,a2,rfl,A,bZ⟩
  .refine⟨bw (gK.jo sZ),?_⟩;have A:=(bW.jo x7).jo sZ;have f9:=cM (p:=9) A.g rfl;have⟨ei,_,_,a3,I,a31,a32⟩:=M.at_ i vw cW;have hI:aE 2 cC Z m2.ia m2.cg:=A.p.inf.is fun e a h=>h;have⟨ee,bi,qi,b6,_,_,N,_,b8⟩:=aE.at hI az I;have N:ee= [jr vw.1,jr a3]:=N;subst N;have l1:=b8 1 _ rfl;have hu:aCb m2 ((i:Nat):Int):=by
    have:=d.lv i vw (by rw[<-ab];exact cW);rw[ei] at this;rcases this with h|h
    .omega
    .exact h.mono a0
   refine c8 ei ?_;refine aF (ew g f9 b6 l1 t z s ?_);exact⟨m2,(i:Int),a3,⟨rfl,rfl,rfl,rfl,M,au,⟨a31,a32⟩,.inl ⟨rfl,rfl,.inr ⟨G,by rw[Am,I,e1],hu⟩⟩⟩,A,gK.jo (x7.trans sZ),rfl,rfl⟩
  .refine⟨bw bZ,?_⟩;have f9:=cM (p:=9) A.g rfl;have I:(m2.cg++ [(⟨(pn:Int),a'⟩:jL)])[m2.cg.length]? =some ⟨(pn:Int),a'⟩:=by rw[Ao (Af _),Dv];rfl
   have hI:aE 2 cC Z b3 (m2.cg++ [(⟨(pn:Int),a'⟩:jL)]):=A.p.inf.is fun e a h=>h;have⟨ee,bi,qi,b6,_,_,N,_,b8⟩:=aE.at hI az I;have N:ee= [jr (pn:Int),jr a']:=N;subst N;have l1:=b8 1 _ rfl
   refine aF (ew g f9 b6 l1 t z s ?_);refine⟨{m2 with va:=cX,ia:=b3,views:=m2.views++ [((pn:Int),(lev:Int),(m2.cg.length:Int))],cg:=m2.cg++ [(⟨(pn:Int),a'⟩:jL)]},(m2.cg.length:Int),a',⟨rfl,rfl,rfl,rfl,⟨by simp [M.len],fun j w hw=>?_⟩,au,⟨a1,a2⟩,.inr ⟨G,rfl,rfl,rfl⟩⟩,A,(gK.jo x7).trans bZ,rfl,rfl⟩;have hw:(m2.views++ [((pn:Int),(lev:Int),(m2.cg.length:Int))])[j]? =some w:=hw;show w.2.2=(j:Int)/\0<=w.1/\w.1<m2.ps/\∃a,(m2.cg++ [(⟨(pn:Int),a'⟩:jL)])[j]? =some ⟨w.1,a⟩/\1<=a/\a<=3;by_cases hj:j<m2.views.length
   .rw[Ak hj] at hw;have⟨w1,w2,w3,a4,w4,w5⟩:=M.at_ j w hw;exact⟨w1,w2,w3,a4,by rw[Ak (by rw[<-M.len];exact hj)];exact w4,w5⟩
   .rw[Ao au] at hw;have h0:j - m2.views.length=0:=by
     rcases Cb (j - m2.views.length) with h|h
     .exact h
     .rw[Bv (by simp;omega)] at hw;cases hw
    rw[h0] at hw;cases hw;have dt:j=m2.cg.length:=by rw[<-M.len];omega
    subst dt;exact⟨rfl,G,by rw[a5];exact q6,a',I,a1,a2⟩
 rintro o ⟨F,inr⟩ X7 ⟨rfl,rfl,f,jj,many,J,b',b7,g,t,z,s,p8,p9,O⟩;simp only at g t z s p8 p9 O;have k7:=k6.trans b7;have eV:=J.many1;have dv:X7.h.get tb=some (.cells [jr pl,jr mn,jr sn] false 0):=(b7.2 tb bY b0).1.trans h2;have cY:=(b7.2 tb bY b0).2;have bx:tb<X7.nx:=by have:=b7.1;omega
 have x7:=k7.1;have f3:=cM (p:=3) b'.g rfl;have f4:=cM (p:=4) b'.g rfl;have e3:f.most=m.most:=J.most.trans di;have e4:f.pend=m.pend - 1:=J.pend.trans dj;have dw:f.ce.length=m.ce.length+1:=by rw[J.ce,a0,Ai];rfl
 have eW:f.cg.length<=m.cg.length+1:=by
  rcases J.cases with⟨b1,_,_⟩|⟨_,_,b1,_⟩
  .rw[b1,D];omega
  .rw[b1,D,Ai,Ax];omega
 have wA:IntKind.i64.wrap ((m.ce.length:Int)+1)=(m.ce.length:Int)+1:=wrap_i64 au au;have wB:IntKind.i64.wrap ((m.ce.length:Int)+1+f.pend)=(m.ce.length:Int)+1+f.pend:=wrap_i64 au au;have wC:IntKind.i64.wrap ((m.ce.length:Int)+1+f.pend+many)=(m.ce.length:Int)+1+f.pend+many:=wrap_i64 au au;refine ae ?_
 refine aB (aB (gI ?_));refine ez g s p9 f3 f4 wA wB wC ?_;generalize cZ:(⟨X7.h,X7.nx+_⟩:St)=X8;have bj:jq X7 X8:=by rw[<-cZ];exact jq.nx _ _
 have ac:=b'.jo bj;have k8:=k7.trans (gK.jo bj);have c0:=(bj.2 _ bx).trans dv;have ba:tb<X8.nx:=Ae bx bj.1;by_cases bz:(m.ce.length:Int)+1+f.pend+many>f.most
 .refine aM (ja (Ac bz)) ?_;have dF:=cM (p:=0) c0 rfl;refine bS (ec g p8 O dF ?_);refine bJ (ae ?_);refine aW (aLY H ac J.info0 J.vok.len au au) ?_;intro r Z hZ;obtain⟨m4,bb,k9,E4⟩:∃m4,nS P S0 Z mb db m4 LV/\gK mb db m X m4 Z/\(m4.ce=m.ce++ [aBt]/\m4.cg=m.cg/\m4.views=m.views/\m4.most=m.most/\m4.ps=m.ps/\m4.pend=m.pend - 1):=by
   rcases hZ with⟨ho,dM⟩|⟨z1,z2,z3,cX,b3,A,bZ⟩
   .have⟨w1,w2⟩:=(aFR J bs).1 ho;rw[dM];exact⟨f,ac,k8,J.ce.trans a0,w1.trans D,w2.trans ab,e3,J.ps.trans a5,e4⟩
   .have⟨w1,w2⟩:=(aFR J bs).2 ⟨z1,z2,z3⟩;exact⟨_,A,k8.trans bZ,J.ce.trans a0,w1.trans D,w2.trans ab,e3,J.ps.trans a5,e4⟩
  refine bS (dz g s ?_);refine bJ (ae ?_);refine aW (aHv H d ao bb k9 E4) ?_;intro r Z' dY
  refine bS (c8 s ?_);refine aS (ae ?_);exact dY
 refine aK (ja (Aa bz)) (aG ?_);refine ae ?_
 refine aHu (fun F=>aA 0 F= .ptr mb 0/\aA 1 F=jr (lev:Int)/\aA 2 F=v/\aA 7 F=jr (m.ce.length:Int)/\aA 8 F= .ptr tb 0/\aA 9 F=jr many/\aA 10 F=jr jj) ⟨ah g,ah t,ah z,ah s,ah p8,ah p9,ah O⟩ ?_;rintro F ⟨g,t,z,s,p8,p9,O⟩;have f4:=cM (p:=4) ac.g rfl;have wD:IntKind.i64.wrap (f.pend+many)=f.pend+many:=wrap_i64 au au;refine bS (ec g p9 f4 wD ?_);refine eK (v:=.undef) (S1:=⟨X8.h.set mb (some (.cells (fE db {f with pend:=f.pend+many}) false 0)),X8.nx⟩) (fun call=>by refine dz @dE @cF ?_;exact xY (cs:=fE db f) (p:=4) (S:=X8) ac.g (au:4<10)) ?_;refine ae ?_;obtain⟨X9,an⟩:∃Z:St,Z=⟨X8.h.set mb (some (.cells (fE db {f with pend:=f.pend+many}) false 0)),X8.nx⟩:=⟨_,rfl⟩;have ca:=ac.p.keep (m':={f with pend:=f.pend+many}) (X':=X8) (Af _) (fun _ _ _ _=>rfl) ac.p.dr rfl rfl rfl rfl rfl rfl rfl rfl rfl;have bb:nS P S0 X9 mb db {f with pend:=f.pend+many} LV:=ca.1.put (by rw[an];simp only;rw[dx,if_pos rfl]) (by rw[an];exact Af _) fun c _ aI=>by rw[an];simp only;rw[dx,if_neg aI]
 have bd:gK mb db f X8 {f with pend:=f.pend+many} X9:=ca.2.trans (by rw[an];exact gK.put);rw[<-an];obtain⟨L,cc⟩:∃L:Mk,L= {f with pend:=f.pend+many}:=⟨_,rfl⟩;rw[<-cc] at bb bd;have E5:L.ce=f.ce/\L.cg=f.cg/\L.views=f.views/\L.most=f.most/\L.ps=f.ps/\L.pend=f.pend+many:=by rw[cc];exact⟨rfl,rfl,rfl,rfl,rfl,rfl⟩
 have k9:=k8.trans bd;have bA:PB mb db f tb:=cY;have dZ:=(bd.2 tb ba bA).1.trans c0;have c1:=(bd.2 tb ba bA).2;have c2:tb<X9.nx:=Ae ba bd.1;have d':=fun(F:Fr) (h:Ev.T AB)=>aSv (F:=F) (h:=h) (a:=1);refine bS (fx d' ?_);apply cB;intro W1 v1 n1 h1;refine dB (b:=X9.nx) (cs':=[jr 1,jr 0,jr 0,.cr,.cr,.cr]) (aq) (by refine am ?_;exact bB _) h1 rfl rfl ?_;intro X10 v2 n2 c3;refine am ?_;have T:jq X9 X10:=v2.jo v1 (Af _);have bC:=(T.2 tb c2).trans dZ;have t0:=cM (p:=0) bC rfl;have eZ:X9.nx<X10.nx:=by omega
 refine aB (aX (Q:=fun o E Z=>o= .normal/\E.inr=false/\X10.nx<=Z.nx/\(∀c,c<X10.nx->c≠X9.nx->Z.h.get c=X10.h.get c)/\Z.h.get X9.nx=some (.cells [jr (if pl<0 then 1 else 2),jr (if pl<0 then 0 else pl),jr (if pl<0 then 0 else jj),.cr,.cr,.cr] false 0)/\aA 0 E.F= .ptr mb 0/\aA 1 E.F=jr (lev:Int)/\aA 2 E.F=v/\aA 7 E.F=jr (m.ce.length:Int)/\aA 8 E.F= .ptr tb 0/\aA 9 E.F=jr many/\aA 11 E.F= .ptr X9.nx 0) (aB (aF ?_)) ?_)
 .refine dz p8 t0 ?_;by_cases G:0<=pl
  .rw[if_neg au,if_neg au,if_neg au];refine aM (ja (Ac (show pl≥0 from G))) ?_;have ea:=fun(F:Fr) (h:Ev.T AB) (a:aA 128 F=jr pl) (b:aA 129 F=jr jj)=>aUZ (F:=F) (h:=h) a b;refine aF (ec p8 O t0 ea ?_);refine dB (b:=X9.nx) (cs':=[jr 2,jr pl,jr jj,.cr,.cr,.cr]) (af) (by refine ae ?_;exact bB _) c3 rfl rfl ?_;intro Z z1 z2 z3;refine eu g t z s p8 p9 ?_;exact⟨z1.1,z1.2,z3⟩
  .rw[if_pos au,if_pos au,if_pos au];refine aK (ja (Aa (show ¬pl≥0 from G))) (aG ?_);refine eu g t z s p8 p9 ?_;exact⟨Af _,fun _ _ _=>trivial,c3⟩
 rintro o ⟨F,inr⟩ cf ⟨rfl,rfl,eb,ch,ed,g,t,z,s,p8,p9,cj⟩;simp only at g t z s p8 p9 cj;have c4:PB mb db L X9.nx:=bb.p.fresh (Af _);have et:=T.1;have n9:=k9.1;have c5:nS (fun c=>((P c/\c<X.nx)\/X.nx<=c)/\c≠X9.nx) S0 cf mb db L LV:=by
  have h1:nS (fun c=>((P c/\c<X.nx)\/X.nx<=c)/\c≠X9.nx) S0 X10 mb db L LV:=(bb.mono fun c q h=>⟨(Cx c X.nx).elim (fun h'=>.inl ⟨h,h'⟩) fun h'=>.inr h',au⟩).jo T;refine h1.local eb fun c q eg=>ch c q fun e=>?_;rcases eg with h|h
  .exact h (by rw[e];exact c4)
  .exact h.2 e
 have ck:∀c,c<X.nx->PB mb db m c->cf.h.get c=X.h.get c/\PB mb db L c:=fun c q R=>⟨(ch c au au).trans ((T.2 c au).trans (k9.2 c q R).1),(k9.2 c q R).2⟩;have be:wO (fun c=>PB mb db L c/\(P c/\c<X.nx)) cf v rows:=aw.move au fun c q R=>⟨(ck c q R.1).1,(ck c q R.1).2,R.2,q⟩;have c6:=(ch tb au au).trans bC;obtain⟨bk,rfl⟩:∃bk:Nat,many=(bk:Int):=⟨many.toNat,au⟩;have bI:L.ps=m.ps:=E5.2.2.2.2.1.trans (J.ps.trans a5);have ey:L.pend=m.pend - 1+(bk:Int):=by rw[E5.2.2.2.2.2,e4]
 refine ae ?_
 refine fZ (ae ?_);refine aJy (P:=fun c=>P c/\c<X.nx) (X:=X) (tb:=tb) (xb:=X9.nx) (m1:=L) (pl:=pl) (mn:=mn) (sn:=sn) (many:=bk) (lev:=lev) H bM (fun c h=>h.2) au c5 hS (aOh d ao E2 J E5 au) au au au (fun p R=>by rw[bI];exact cn p R) be (by rw[bI];exact dc) cm au au au au  c1 c4 c6 ed ⟨q4,q5⟩ (ah g) (ah t) (ah z) (ah p8) (ah p9) (ah cj) (ag) ?_;intro F' Y mi cs C ws xa xw hk B;have r0:=hk 0 au;have r7:=hk 7 au;have c7:=hk 11 au;simp only[↓sU,sD,rE,↓reduceIte,rA,g,s,cj] at r0 r7 c7;refine ae ?_
 have eh:nS (fun c=>P c\/X.nx<=c) S0 ⟨Y.h,Y.nx+9⟩ mb db mi LV:=(B.mkb.jo (jq.nx Y 9)).mono fun c _ h=>h.1.elim (fun h=>.inl h.1) .inr;have nY:=B.nx;have fk:(jI pl jj cs ws).jk=if pl<0 then 1 else 2:=by unfold jI;split<;>rfl
 have fp:(jI pl jj cs ws).jl=if pl<0 then 0 else pl:=by unfold jI;split<;>rfl
 have fi:(jI pl jj cs ws).jj=if pl<0 then 0 else jj:=by unfold jI;split<;>rfl
 have fn:(jI pl jj cs ws).ji=cs:=by unfold jI;split<;>rfl
 have fw:(jI pl jj cs ws).jm=ws:=by unfold jI;split<;>rfl
 have fy:(jI pl jj cs ws).jn= []:=by unfold jI;split<;>rfl
 have c':m.ce.length<mi.ce.length:=by rw[B.bld.ce,E5.1,Ai,dw];omega
 have⟨b,p,Z,z1,z2,z3,z4,z5,z6⟩:=eh.setN (i:=m.ce.length) (e:=[jr (if pl<0 then 1 else 2),jr (if pl<0 then 0 else pl),jr (if pl<0 then 0 else jj),xa,xw,.cr]) (x:=jI pl jj cs ws) c' ⟨xa,xw,.cr,by rw[fk,fp,fi],by rw[fn];exact(B.ga.step (jq.nx Y 9)).is,by rw[fw];exact(B.gw.step (jq.nx Y 9)).is,by rw[fy];exact .inl ⟨rfl,.inl rfl⟩,fun c q=>by
  rcases q with q|q|q
  .exact⟨B.pa c q,.inr (by have:=(B.ga.blk q).1;omega)⟩
  .exact⟨B.pw c q,.inr (by have:=(B.gw.blk q).1;omega)⟩
  .cases q⟩
 have ej:=cM (p:=8) B.mkb.g rfl;have ek:=ldN B.gx;have en:=B.mkb.p.nod.self;have eo:=B.ga.self;have er:=B.gw.self;have sx:=sI (k:=.i64) (x0:=if pl<0 then 1 else 2) (x1:=if pl<0 then 0 else pl) (x2:=if pl<0 then 0 else jj) (a:=xa) (b:=xw) (c:=.cr) eo er rfl;have cl:=aPi (m':={mi with ce:=mi.ce.set m.ce.length (jI pl jj cs ws)}) d ao q6 E2 J E5 B.bld rfl B.len B.forT B.wts rfl rfl rfl rfl rfl rfl;rw[show LV.length - (lev+1)+1=LV.length - lev by omega] at cl;generalize (if pl<0 then(1:Int) else 2)=i0 at *;generalize (if pl<0 then(0:Int) else pl)=i1 at *;generalize (if pl<0 then(0:Int) else jj)=i2 at *;refine aB (qL (pre:=aOf) (K:=8) (m:=255) (n:=6) (x:=.t 202) (v:=.t 201) rfl rfl rfl rfl ?_);unfold aOf;refine ez r0 r7 c7 ej en ek sx z1 ?_;rw[show(AV.agg [jr i0,jr i1,jr i2,xa,xw,.cr]).cells=some [jr i0,jr i1,jr i2,xa,xw,.cr] from bB _,aH];refine⟨Z,z3,?_⟩;refine bS (c8 r7 ?_);refine aS (ae ?_);refine⟨_,_,cl.1,cl.2,z5,⟨by rw[z4];show X.nx<=Y.nx+9;omega,fun c q R=>?_⟩⟩;have⟨y1,y2⟩:=ck c q R;have⟨y3,y4⟩:=B.frm c au y2;have⟨y5,y6⟩:=z6.2 c (by show c<Y.nx+9;omega) y3;exact⟨y5.trans ((y4 au).trans y1),y6⟩
def aHA{S0:St}{mb db:Nat}{LV:List (Int×Int×Int)}(H:Has fns)(a:∀p∈LV, -1<=p.1/\2<=p.2.1/\p.2.1<=3/\0<=p.2.2/\p.2.2<=1000)(b:LV.length<=700):∀n lev,lev+n=LV.length->aDC fns S0 mb db LV lev
 | 0,lev,h=>aEa H a b au fun h'=>by omega
 | n+1,lev,h=>aEa H a b au fun _=>aHA H a b n (lev+1) au
def PlB(cs:bu)(a:Int×Int×Int):Prop:=cs= [jr a.1,jr a.2.1,jr a.2.2]
def aVe{a b c:Int}(d:aA 45 F=jr a)(e:aA 51 F=jr b)(f:aA 56 F=jr c):iC (.build [jr 0,jr 0,jr 0] [(0,1,.t 45),(1,1,.t 51),(2,1,.t 56)]) F h=some (.agg [jr a,jr b,jr c]):=by
 show(bD (eO _ (dN F [(0,1,.t 45),(1,1,.t 51),(2,1,.t 56)])) fun cs=>some (AV.agg cs))=_;simp only[dN,show(cQ.t 45).val F=jr a from d,show(cQ.t 51).val F=jr b from e,show(cQ.t 56).val F=jr c from f,eO,cF,aH];rfl
def aVT(X:St)(F:Fr)(mb db:Nat)(d e:AV)(dl:bt)(ps:Int)(F':Fr)(Z:St)(qs:List jD):Prop:=∃a b c:Int, -1<=a/\a<ps/\2<=b/\b<=3/\0<=c/\c<=15/\qs= [⟨25,X.nx+25,.cells [jr a,jr b,jr c] false 0⟩]/\X.nx+30<=Z.nx/\cA db X Z/\sP Z db e dl/\(∀j,j<11->aA j F'=aA j F)/\aA 33 F'= .ptr mb 0/\aA 37 F'=d/\aA 58 F'= .sl (X.nx+25) 0 1 1 false
def aPy{q:List AO}{inr:Bool}{m:Mk}(H:Has fns)(he:q=aR3++aSD)(G:X.h.get mb=js (fE db m))(l:mb<X.nx)(g:mb≠db)(y:sP X db m.lv m.dl)(I:qX 3 PlB S X m.lvl LV)(hS:S.nx<=X.nx)(z:∀c,aN m.lvl=some c->c≠mb/\c≠db/\aN m.lv≠some c)(dm:∀c,aN m.lv=some c->c≠mb)(J:aA 9 F= .ptr mb 0)(p1:aA 1 F=jr ps)(aw:1<=ps/\ps<=4)(hl:LV.length<=100)
  (hQ:∀F' Z i a b c,(∀j,j<11->aA j F'=aA j F)-> -1<=a->a<ps->2<=b->b<=3->0<=c->c<=15->Z.h.get mb=js (fE db {m with lvl:=i})->sP Z db m.lv m.dl->qX 3 PlB S Z i (LV++ [(a,b,c)])->X.nx<=Z.nx->(∀k,k<X.nx->k≠mb->k≠db->aN m.lvl≠some k->Z.h.get k=X.h.get k)->(∀k,aN i=some k->aN m.lvl=some k\/X.nx<=k)->Q .normal ⟨F',inr⟩ Z):jN fns (.drw q) ⟨F,inr⟩ X Q:=by
 have ao:q.length=30:=by rw[he];rfl
 have f0:=cM (p:=0) G rfl;have f1:=cM (p:=1) G rfl;have L:=I.self;have M:IntKind.i64.wrap (ps+1)=ps+1:=wrap_i64 au au;refine aFk 67108862 (W:=fun c=>c=db) (K:=26) (R:=aVT X F mb db m.lvl m.lv m.dl ps) he rfl rfl rfl (fun X1 x1 aI aZ=>?_) ?_
 .have N:=y.move x1.1 (x1.2 _ y.lt) fun c s=>x1.2 c (dK y.il s);unfold aR3;refine fe p1 J f0 f1 L l g @Ap M ?_;refine jH rfl ?_;refine ae ?_;refine aW (mN H N (n:=ps+1) au au) ?_;rintro _ B ⟨x2,d2,a,rfl,a1,a2⟩;refine⟨⟨x2.1,fun c s d=>x2.2 c (Ae s x1.1) d⟩,?_⟩;have wa:IntKind.i64.wrap (a - 1)=a - 1:=wrap_i64 au au;refine eu J f0 l g @Ap wa ?_;refine jH rfl ?_;refine ae ?_;refine aW (mN H d2 (n:=2) az az) ?_;rintro _ C ⟨x3,d3,b,rfl,b1,b2⟩;have a0:X1.nx<=B.nx:=x2.1;refine⟨⟨x3.1,fun c s d=>x3.2 c (by have:=x1.1;show c<B.nx;omega) d⟩,?_⟩;have wb:IntKind.i64.wrap (2+b)=2+b:=wrap_i64 au au;refine eu J f0 l g @Ap wb ?_;refine jH rfl ?_;refine ae ?_;refine aW (mN H d3 (n:=16) az az) ?_;rintro _ X4 ⟨D,d4,c,rfl,c1,c2⟩;have a4:B.nx<=C.nx:=x3.1;have a5:C.nx<=X4.nx:=D.1;refine⟨⟨D.1,fun k f d=>D.2 k (by have:=x1.1;show k<C.nx;omega) d⟩,?_⟩;have O:=fun(F:Fr) (h:Ev.T AB) (u:aA 45 F=jr (a - 1)) (v:aA 51 F=jr (2+b)) (w:aA 56 F=jr c)=>aVe (F:=F) (h:=h) u v w;have P:dU (.build [jr 0,jr 0,jr 0] [(0,1,.t 45),(1,1,.t 51),(2,1,.t 56)])=false:=rfl;have T:=fun(F:Fr) (id:Nat) (h:aA 57 F= .agg [jr (a - 1),jr (2+b),jr c])=>aRC (t:=134) (z0:=jr 0) (z1:=jr 0) (z2:=jr 0) (x:=.t 57) (F:=F) (id:=id) h;refine d8 O P T ?_;refine⟨a - 1,2+b,c,au,au,au,au,au,au,af,au,⟨ax x1.1,fun k f d=>?_⟩,d4,fun j hj=>?_,af,af,af⟩
  .have Y:=x1.1;rw[D.2 k (by show k<C.nx;omega) d,x3.2 k (by show k<B.nx;omega) d,x2.2 k (by show k<X1.nx;omega) d];exact x1.2 k f
  .have:j=0\/j=1\/j=2\/j=3\/j=4\/j=5\/j=6\/j=7\/j=8\/j=9\/j=10:=by omega
   rcases this with rfl|rfl|rfl|rfl|rfl|rfl|rfl|rfl|rfl|rfl|rfl<;>simp only[↓sU,sD,rE,↓reduceIte,rA]
 rintro F' S' qs ba ls ⟨a,b,c,a1,a2,b1,b2,c1,c2,rfl,nZ,sZ,dZ,f,pA,pB,pC⟩ r aa;obtain⟨U,E⟩:∃U:St,U=⟨S'.h.set (X.nx+25) (js [jr a,jr b,jr c]),S'.nx⟩:=⟨_,rfl⟩;have nU:U.nx=S'.nx:=by rw[E]
 have kU:∀k,k≠X.nx+25->U.h.get k=S'.h.get k:=fun k f=>by rw[E];simp only;rw[dx,if_neg f]
 have gU:U.h.get (X.nx+25)=js [jr a,jr b,jr c]:=by rw[E];simp only;rw[dx,if_pos rfl]
 have kX:∀k,k<X.nx->k≠db->U.h.get k=X.h.get k:=fun k f d=>(kU k au).trans (sZ.2 k f d);have A:∀ {k},aN m.lvl=some k->k<X.nx:=fun s=>(I.blk s).2;have ab:qX 3 PlB S U m.lvl LV:=I.move au (fun k f=>kX k (A f) (z k f).2.1) fun _ _ h=>h;have⟨v',V,eA,aV,nV,kV,bV⟩:=ab.push (bytes:=24) (x:=.sl (X.nx+25) 0 1 1 false) (a:=(a,b,c)) az au rfl (aKk gU rfl) rfl (show PlB [jr a,jr b,jr c] (a,b,c) from rfl) ay ay;have ac:V.h.get mb=js (fE db m):=(kV mb au fun e=>(z mb e).1 rfl).trans ((kX mb l g).trans G);unfold aSD;refine iS (v:=v') (S1:=V) r (fun call=>?_) ?_
 .rw[cK (az:Nat.testBit 67108862 25=true),fB];simp only[fO,pB,pC];rw[<-E];exact eA
 rw[cK (az:Nat.testBit 67108862 25=true)];simp only[iT,dJ,dG,fG,dH,aU,aT,cP,aR,fO,bK,bE,pA,rE,↓reduceIte,rA];have an:v'.cells=some [v']:=aV.cells;refine iS (v:=.undef) (S1:=⟨V.h.set mb (js (fE db {m with lvl:=v'})),V.nx⟩) (az:Nat.testBit 536870911 26=true) (fun call=>?_) ?_
 .rw[dE];simp only[fO,bE,rE,↓reduceIte,bK,an,aH];exact xY (cs:=fE db m) (p:=1) (S:=V) ac (au:1<10)
 rw[iL];refine⟨?_,?_⟩
 .simp only[Cg,Bg,Cr,Ci,Bu];exact aa _ _
 .simp only[bK,fK];have kF:∀k,k<S'.nx->k≠X.nx+25->k≠mb->aN m.lvl≠some k->(V.h.set mb (js (fE db {m with lvl:=v'}))).get k=S'.h.get k:=fun k Y h2 h3 h4=>by
   rw[dx,if_neg h3,kV k au h4,kU k h2]
  have o:=fun {k} (f:aN m.lv=some k)=>dK y.il f;refine hQ _ _ v' a b c (fun j hj=>?_) a1 a2 b1 b2 c1 c2 jh (dZ.move (by show S'.nx<=V.nx;omega) (kF db dZ.lt (ax y.lt) g.symm fun e=>(z db e).2.1 rfl) fun k f=>kF k (by have:=o f;omega) (by have:=o f;omega) (dm k f) fun e=>(z k e).2.2 f) (aV.move (Af _) (fun k f=>?_) fun _ _ h=>h) (by show X.nx<=V.nx;omega) (fun k Y h2 h3 h4=>?_) (fun k f=>?_)
  .rw[bE,if_neg au,bE,if_neg au,bE,if_neg au];exact f j hj
  .simp only;rw[dx,if_neg];rcases bV k f with h|h
   .exact(z k h).1
   .omega
  .simp only;rw[kF k au au  h2 h4];exact sZ.2 k Y h3
  .rcases bV k f with h|h
   .exact .inl h
   .exact .inr au
def aVU{a:AV}(b:aA 11 F=a)(c:a.cells=some [a]):iC (.build [.cr,jr 0] [(0,1,.t 11)]) F h=some (.agg [a,jr 0]):=by
 show(bD (eO _ (dN F [(0,1,.t 11)])) fun cs=>some (AV.agg cs))=_;simp only[dN,show(cQ.t 11).val F=a from b,eO,c,aH];rfl
def aUU{a:Int}{zero:Bool}(b:aA 13 F= .ptr db 0)(c:aA 14 F=jr a)(d:aA 15 F= .bool zero):iC (.build [.nilp,.cr,.cr,jr 0,jr 0,.bool false,.bool false,jr 0,.cr,.cr] [(0,1,.t 13),(3,1,.t 14),(4,1,.c (jr 1)),(5,1,.t 15)]) F h=some (.agg [.ptr db 0,.cr,.cr,jr a,jr 1,.bool zero,.bool false,jr 0,.cr,.cr]):=by
 show(bD (eO _ (dN F [(0,1,.t 13),(3,1,.t 14),(4,1,.c (jr 1)),(5,1,.t 15)])) fun cs=>some (AV.agg cs))=_;simp only[dN,show(cQ.t 13).val F= .ptr db 0 from b,show(cQ.t 14).val F=jr a from c,show(cQ.t 15).val F= .bool zero from d,aCJ,eO,cF,aJ8,show(AV.ptr db 0).cells=some [.ptr db 0] from rfl,aH];rfl
def aQE{a c d a3 e f a6 x y z:AV}{o:Bool}{s:Nat}(g:h.get b=some (.cells [a,c,d,a3,e,f,a6,x,y,z] o s)):eE (.ptr b 7) true 3 h=some (.agg [x,y,z]):=by
 simp only[eE,qK,aL,aAi,cG,g,aH];rfl
def mk0(c b:AV)(dl:bt)(ps a:Int)(zero:Bool):Mk:=⟨b,.cr,.cr,.cr,c,a,1,ps,zero,false,dl,[],[],[]⟩
def aVt(ps:Int)(LV:List (Int×Int×Int)):Prop:=∀p∈LV,(-1<=p.1/\p.1<ps)/\(2<=p.2.1/\p.2.1<=3)/\0<=p.2.2/\p.2.2<=1000
def GmI(S:St)(gb db mb:Nat)(d:AV)(dl:bt)(ps b:Int)(zero:Bool)(k:Nat)(A:bO)(X:St):Prop:=A.inr=false/\mb<X.nx/\jq S X/\X.h.get gb=js [jr 0,.cr,.cr]/\∃ (a:AV) (LV:List (Int×Int×Int)),X.h.get mb=js (fE db (mk0 d a dl ps b zero))/\sP X db d dl/\qX 3 PlB S X a LV/\(∀c,aN a=some c->c≠gb/\c≠mb/\c≠db/\aN d≠some c)/\aVt ps LV/\LV.length+k<=5/\aA 1 A.F=jr ps/\aA 8 A.F= .ptr gb 0/\aA 9 A.F= .ptr mb 0/\aA 10 A.F=jr (k:Int)
def aGX{f:AV}{dl:bt}{most:Int}{zero:Bool}(H:Has fns)(hl:bN .i64 S f dl)(bd:dl.length<=140737488355328)(R:1<=ps/\ps<=4)(hm:1<=most/\most<=200):
  iK fns (.fn 43 [] []) [f,jr ps,jr most,.bool zero] S fun r Z=>jq S Z/\∃ (g:aP) (nv iv:AV),r= .agg [jr g.ch,nv,iv]/\g.ch=ps/\cR g=0/\(g.ce.length:Int)<=most/\(∀x∈g.ce,gN g.ch g.cg x)/\((∃k,k<=5/\qS k 0 g.ce)/\fM (g.ce.map xA) g.cg.length)/\aE 6 bT Z nv g.ce/\aE 2 cC Z iv g.cg/\∀X':St,Z.nx<=X'.nx->(∀c,c<Z.nx->(S.nx<=c\/aN f=some c)->X'.h.get c=Z.h.get c)->aE 6 bT X' nv g.ce/\aE 2 cC X' iv g.cg:=by
 have be:=bN.cells hl;refine cJ H.f43 (by simp) ?_;refine ae ?_;apply bS;apply cB;intro S1 s1 n1 g1;refine am ?_;have ac:=fun(F:Fr) (h:Ev.T AB) (a:aA 11 F=f)=>aVU (F:=F) (h:=h) a be;have an:=fun(F:Fr) (h:Ev.T AB) (a:aA 13 F= .ptr S1.nx 0) (b:aA 14 F=jr most) (c:aA 15 F= .bool zero)=>aUU (F:=F) (h:=h) a b c;refine bS (fx ac ?_);refine dC (cs:=[f,jr 0]) (by refine am ?_;exact bB _) ?_;intro w s2 n2 g2;refine fx an ?_;refine dC (cs:=[.ptr S1.nx 0,.cr,.cr,jr most,jr 1,.bool zero,.bool false,jr 0,.cr,.cr]) (by refine am ?_;exact bB _) ?_;intro T s3 n3 g3;refine am ?_;refine bS (ae ?_);refine eK (v:=.undef) (S1:=⟨T.h.set w.nx (js (fE S1.nx (mk0 f .cr dl ps most zero))),T.nx⟩) (fun call=>by refine dz @dE @cF ?_;exact xY (cs:=[.ptr S1.nx 0,.cr,.cr,jr most,jr 1,.bool zero,.bool false,jr 0,.cr,.cr]) (p:=7) (S:=T) g3 (au:7<10)) ?_;refine ae ?_;obtain⟨S4,z⟩:∃Z:St,Z=⟨T.h.set w.nx (js (fE S1.nx (mk0 f .cr dl ps most zero))),T.nx⟩:=⟨_,rfl⟩;have n4:S4.nx=T.nx:=by rw[z]
 have k4:∀c,c≠w.nx->S4.h.get c=T.h.get c:=fun c d=>by rw[z];simp only;rw[dx,if_neg d]
 have E:S4.h.get w.nx=js (fE S1.nx (mk0 f .cr dl ps most zero)):=by rw[z];simp only;rw[dx,if_pos rfl]
 rw[<-z];have G:jq S S4:=⟨au,fun c d=>by rw[k4 c au,s3.2 c au,s2.2 c au];exact s1.2 c d⟩;have U:S4.h.get S.nx=js [jr 0,.cr,.cr]:=by rw[k4 _ au,s3.2 _ au,s2.2 _ au];exact g1
 have V:S4.h.get S1.nx=js [f,jr ((0:Nat):Int)]:=by rw[k4 _ au,s3.2 _ au];exact g2
 have s:=fun {c} (d:aN f=some c)=>dK hl d;have W:sP S4 S1.nx f dl:=⟨au,⟨0,V,Ct _⟩,hl.jo G,fun e=>by have:=s e;omega,bd⟩;have f0:=cM (p:=0) E rfl;refine fZ (c8 f0 ?_);refine bJ (ae ?_);refine aW (mN H W (n:=5) az az) ?_;rintro _ S5 ⟨x5,aa,y,rfl,y1,y2⟩;have wy:IntKind.i64.wrap (1+y)=((1+y.toNat:Nat):Int):=by rw[wrap_i64 au au];omega
 refine c8 wy ?_;have n5:=x5.1;have k5:∀c,c<S4.nx->c≠S1.nx->S5.h.get c=S4.h.get c:=x5.2;refine aX (Q:=fun o A' X=>o= .normal/\GmI S S.nx S1.nx w.nx f dl ps most zero 0 A' X) (aJ (bL (GmI S S.nx S1.nx w.nx f dl ps most zero) ?_ (1+y.toNat) _ _ ⟨rfl,au,⟨au,fun c d=>(k5 c au au).trans (G.2 c d)⟩,(k5 _ au au).trans U,.cr,[],(k5 _ au au).trans E,aa,qX.none,fun c d=>(by cases d),fun p I=>(by cases I),by show 0+(1+y.toNat)<=5;omega,af,af,af,af⟩)) ?_
 .clear f0 W V U E k4 aa x5 k5 G g1 g2 s1 s2 s3;rintro k ⟨F,inr⟩ X ⟨rfl,J,sX,gX,t,LV,gm,hd,ha,q,A,L,p1,M,N,K⟩;simp only at p1 M N K;refine fZ (c8 K ?_);rcases Cb k with bj|ao
  .subst bj;refine aK (by simp only[↓sU,sD,rE,↓reduceIte,rA];rfl) (bH ?_);refine ae ?_;exact⟨rfl,J,sX,gX,t,LV,gm,hd,ha,q,A,L,ah p1,ah M,ah N,ah K⟩
  refine aM i7 (aG ?_);refine ae ?_
  have wk:IntKind.i64.wrap ((k:Int) - 1)=((k - 1:Nat):Int):=by rw[wrap_i64 au au];omega
  refine aB (aJ ?_);refine aPy (S:=S) (mb:=w.nx) (db:=S1.nx) (m:=mk0 f t dl ps most zero) (LV:=LV) (ps:=ps) H rfl gm J au hd ha sX.1 (fun c d=>⟨(q c d).2.1,(q c d).2.2.1,(q c d).2.2.2⟩) (fun c d=>by have:=s d;omega) (ah N) (ah p1) R au ?_;intro F' Z aw a b c O a1 a2 b1 b2 c1 c2 bk dZ aZ nZ kZ bZ;have r1:=O 1 au;have r8:=O 8 au;have r9:=O 9 au;have aI:=O 10 au;simp only[↓sU,sD,rE,↓reduceIte,rA,p1,M,N,K] at r1 r8 r9 aI;refine ae ?_
  refine aF (dz aI wk ?_);have nX:=sX.1;refine⟨k - 1,au,rfl,au,⟨au,fun j hj=>(kZ j au au au (fun e=>by have:=(ha.blk e).1;omega)).trans (sX.2 j hj)⟩,(kZ _ au au au (fun e=>(q _ e).1 rfl)).trans gX,aw,LV++ [(a,b,c)],bk,dZ,aZ,fun j hj=>?_,fun p I=>?_,by rw[Ai,Ax];omega,ah r1,ah r8,ah r9,af⟩
  .rcases bZ j hj with h|h
   .exact q j h
   .exact⟨au,au,au,fun e=>by have:=s e;omega⟩
  .rcases Bi.1 I with h|h
   .exact A p h
   .rw[Bz.1 h];exact⟨⟨a1,a2⟩,⟨b1,b2⟩,c1,by show c<=1000;omega⟩
 rintro o ⟨F,inr⟩ X ⟨rfl,rfl,J,sX,gX,t,LV,gm,hd,ha,q,A,L,p1,M,N,_⟩;simp only at p1 M N;have nX:=sX.1;obtain⟨u,rfl⟩:∃u:Nat,ps=(u:Int):=⟨ps.toNat,au⟩;refine ae ?_
 refine bS (gh p1 N ?_);refine fQ (oK (n:=u) (jd @aY) (jd @aY) ay ay) ?_;intro X1 x1 m1 g1;rw[repeatL_one] at g1
 refine bJ (ae ?_);have bm:aE 3 PlE X t LV:=ha.is fun e a h=>h;have aV:nS (fun c=>c≠S.nx/\(S.nx<=c\/aN f=some c)) S X w.nx S1.nx (mk0 f t dl (u:Int) most zero) LV:=by
  have a0:∀c,c≠w.nx->c≠S1.nx->PB w.nx S1.nx (mk0 f t dl (u:Int) most zero) c:=fun c h1 h2=>⟨h1,h2,(by intro e;cases e),(by intro e;cases e),(by intro e;cases e)⟩;exact⟨⟨J,au,au,au,hd,fun c d=>⟨a0 c (by have:=s d;omega) (by have:=s d;omega),(by have:=s d;omega),.inr d⟩,bm,fun c d=>⟨a0 c (q c d).2.1 (q c d).2.2.1,(q c d).1,.inl (ha.blk d).1⟩,qX.none,qX.none,qX.none,fun c d=>(by cases d),fun c d=>(by cases d),fun c d=>(by cases d)⟩,gm⟩
 have bp:=aV.jo x1;have a4:X1.h.get S.nx=js [jr 0,.cr,.cr]:=(x1.2 _ au).trans gX;have ab:wO (fun c=>PB w.nx S1.nx (mk0 f t dl (u:Int) most zero) c/\c≠S.nx/\(S.nx<=c\/aN f=some c)) X1 (.sl X.nx 0 u u false) (List.replicate u []):=by
  refine⟨.inr ⟨X.nx,0,u,false,List.replicate u .cr,by rw[Au],by rw[Au];exact Af _,au,by unfold cG;rw[g1];rfl,fun i a hi=>?_⟩,fun c d=>by cases d;exact⟨aV.p.fresh (Af _),au,.inl au⟩⟩;have a5:=(Aj.1 hi).1;rw[Au] at a5;rw[Cj,if_pos a5] at hi;cases hi;refine⟨[.cr],rfl,fun j x hj=>?_,.cr,rfl,.inl ⟨rfl,.inl rfl⟩,fun c d=>by cases d⟩;cases j with
  | zero=>
   cases hj;rw[An,Ec,Cj,if_pos au]
  | succ j=>simp at hj
 have hb:=aHA (S0:=S) (mb:=w.nx) (db:=S1.nx) (LV:=LV) H (fun p I=>by
  have⟨⟨a1,_⟩,⟨b1,b2⟩,c1,c2⟩:=A p I;exact⟨a1,b1,b2,c1,c2⟩) au LV.length 0 au X1 (fun c=>c≠S.nx/\(S.nx<=c\/aN f=some c)) (mk0 f t dl (u:Int) most zero) (.sl X.nx 0 u u false) (List.replicate u []) bp au ⟨⟨rfl,fun j v hv=>(by cases hv)⟩,fun j v hv=>(by cases hv),fun x C=>(by cases C),by show(0:Int)+1<=most;omega,by show(0:Int)<=1;omega,by show most<=1000;omega,Af _,R⟩ (by show(1:Int)<=1;omega) ab (by rw[Au];rfl) (fun l hl=>by rw[List.eq_of_mem_replicate hl];exact Af _) (fun p I=>(A p I).1.2)
 refine aW hb ?_;rintro _ Y ⟨rfl,m',B,D,hT,hY,bY⟩
 have e0:m'.ce=B:=by have:=D.ce;rw[this];rfl
 have ep:m'.ps=(u:Int):=D.ps;have ba:=D.fit;have bz:m'.pend=0:=by rw[D.pend];rfl
 have bA:m'.most=most:=D.most;have bC:=D.il;have bb:=(bY.2 S.nx au ⟨au,au,(by intro e;cases e),(by intro e;cases e),(by intro e;cases e)⟩);have bq:=bb.1.trans a4;have bs:=aQE hY.g;have nY:=bY.1;refine bS (d8 N M bs ?_);refine dB (b:=S.nx) (cs':=[jr m'.ps,m'.na,m'.ia]) (ah M) (by refine ae ?_;exact bB _) bq rfl rfl ?_;intro Z z1 z2 z3;have bv:=gE z3;refine ae ?_;refine aS (d8 @eI M bv ?_);have P:nS (fun c=>(c≠S.nx/\(S.nx<=c\/aN f=some c))\/X1.nx<=c) S Z w.nx S1.nx m' LV:=hY.local z1.1 fun c d bw=>z1.2 c d fun e=>by
  rcases bw with h|h|h
  .exact h (by rw[e];exact bb.2)
  .exact h.1 e
  .omega
 have bx:jq S X1:=sX.trans x1;have sY:jq S Y:=⟨au,fun c d=>((bY.2 c au ⟨au,au,(by intro e;cases e),(by intro e;cases e),(by intro e;cases e)⟩).1).trans (bx.2 c d)⟩;refine⟨z1.jo sY (Af _),⟨m'.ps,m'.ce,m'.cg⟩,m'.na,m'.ia,rfl,ep,?_,?_,?_,⟨⟨LV.length,au,by show qS LV.length 0 m'.ce;rw[e0];exact hT⟩,by
  show fM (m'.ce.map xA) m'.cg.length;rw[e0];have:=D.ord [] .nil
  rwa [Bu] at this⟩,P.p.nod.is fun e a ⟨xa,xw,xp,h1,h2,h3,h4,_⟩=>⟨xa,xw,xp,h1,h2,h3,h4⟩,P.p.inf.is fun e a h=>h,fun X' hn O=>?_⟩
 rotate_right
 .have ao:∀c,c<Z.nx->(PB w.nx S1.nx m' c/\((c≠S.nx/\(S.nx<=c\/aN f=some c))\/X1.nx<=c))->X'.h.get c=Z.h.get c/\True:=fun c d I=>⟨O c d (by
   rcases I.2 with h|h
   .exact h.2
   .exact .inl au),trivial⟩
  have a1:=P.p.nod.move (E':=aBs X' fun _=>True) hn (fun c d=>O c (P.p.nod.blk d).2 (.inl (P.p.nod.blk d).1)) fun e a hE=>aBs.move hE hn ao;have a2:=P.p.inf.move (E':=aIT) hn (fun c d=>O c (P.p.inf.blk d).2 (.inl (P.p.inf.blk d).1)) fun e a hE=>hE;exact⟨a1.is fun e a ⟨xa,xw,xp,h1,h2,h3,h4,_⟩=>⟨xa,xw,xp,h1,h2,h3,h4⟩,a2.is fun e a h=>h⟩
 rotate_right
 .intro x C;have C:x∈m'.ce:=C;rw[e0] at C;show gN m'.ps m'.cg x;rw[ep];exact D.ok x C
 .have bI:=hT.1;refine aEt (k:=LV.length) (by show 1<=m'.ps/\m'.ps<=4;rw[ep];exact R) (by show 1<=m'.ce.length/\m'.ce.length<=2000;rw[e0] at ba ⊢;omega) (by show m'.cg.length<=200;omega) (fun x C=>?_) ?_ au ?_
  .have C:x∈m'.ce:=C;rw[e0] at C;show gN m'.ps m'.cg x;rw[ep];exact D.ok x C
  .show qS LV.length 0 m'.ce;rw[e0];exact hT
  .show fM (m'.ce.map xA) m'.cg.length;rw[e0];have:=D.ord [] .nil
   rwa [Bu] at this
 .show(m'.ce.length:Int)<=most;omega
end Go.Ev.Gl
