import Derived.Test.YtbmodoaceepfoaaGl16
set_option linter.all false
open Nat renaming reduceEqDiff -> rE, reduceAdd -> rA
set_option maxHeartbeats 0
namespace Go.Ev.Gl
variable {fns:T eY}
variable {C:List cJ}{x:cJ}{lev b i mb db:Nat}{m' d c:Mk}{pl many ps:Int}{F:Fr}{S S0 X:St}{Q:Out->bO->St->Prop}{h:Ev.T AB}{LV:List (Int×Int×Int)}
def aBt:cJ:=⟨0,0,0,[],[],[]⟩
def aH7{A:List cJ}{y:cJ}:(A++ [y]++C).set A.length x=A++(x::C):=by
 rw[Bg,List.set_append_right _ _ (Af _),Dt];rfl
def aPw{m:Mk}(b:aFv lev m)(n:1<=m.pend)(g:aRu m.ps x)(c:m'.cg=m.cg++ [x])(a:m'.ch=m.ch)(d:m'.views=m.views)(h:m'.most=m.most)(i:m'.ps=m.ps)(k:m'.pend=m.pend - 1):aAa m m' [x] 1 where
 cg:=c
 ok:=fun y o=>by rw[Cc.1 o];exact .inl g
 ord:=fun f p=>by
  have e:lbl x=Option.none:=by unfold lbl;rw[if_neg (by rw[g.kind];decide)]
  rw[a];show gJ (f++ [lbl x]) _;rw[e];exact .none p
 inf:=⟨[],by rw[a,Bu]⟩
 vws:=⟨[],by rw[d,Bu]⟩
 vok:=⟨by rw[a,d];exact b.vok.len,fun j v l=>by rw[d] at l;rw[a,i];exact b.vok.at_ j v l⟩
 used:=fun j r q=>by rw[a] at q;omega
 most:=h
 ps:=i
 pend:=k
 fit:=by
  have:=b.fit;rw[c,k,h,Aj,Ba];omega
 il:=by
  have:=b.il;rw[c,a,Aj,Ba];omega
structure aPb(lev:Nat)(m2 m3:Mk)(pl info many:Int):Prop where
 cg:m3.cg=m2.cg
 most:m3.most=m2.most
 ps:m3.ps=m2.ps
 pend:m3.pend=m2.pend
 vok:aDB m3
 info0:0<=info
 many1:1<=many/\many<=3
 cases:(m3.ch=m2.ch/\m3.views=m2.views/\((pl<0/\info=0)\/(0<=pl/\m2.ch[info.toNat]? =some ⟨pl,many⟩/\aCc m2 info)))\/(0<=pl/\info=(m2.ch.length:Int)/\m3.ch=m2.ch++ [⟨pl,many⟩]/\m3.views=m2.views++ [(pl,(lev:Int),info)])
def aFP{e:Mk}{info:Int}(h:aPb lev e d pl info many)(j:∀x∈e.cg,x.kind=2->x.info<(e.ch.length:Int)):
  ((pl<0\/info≠(d.ch.length:Int) - 1\/aCc d info)->d.ch=e.ch/\d.views=e.views)/\((0<=pl/\info=(d.ch.length:Int) - 1/\¬aCc d info)->d.ch.dropLast=e.ch/\d.views.dropLast=e.views):=by
 rcases h.cases with⟨l,m,g⟩|⟨l,m,g,o⟩
 .refine⟨fun _=>⟨l,m⟩,fun⟨a,b,c⟩=>?_⟩;rcases g with⟨n,_⟩|⟨_,_,n⟩
  .omega
  .exact absurd (by have⟨x,i,k⟩:=n;exact⟨x,by rw[h.cg];exact i,k⟩) c
 .refine⟨fun f=>?_,fun _=>⟨by rw[g,List.dropLast_concat],by rw[o,List.dropLast_concat]⟩⟩;rcases f with f|f|f
  .omega
  .rw[g,Aj,Ba] at f;omega
  .have⟨x,i,k,hi⟩:=f;rw[h.cg] at i;have:=j x i k;omega
def jJ(pl info:Int)(cs a:bu):cJ:=if pl<0 then⟨1,0,0,cs,a,[]⟩ else⟨2,pl,info,cs,a,[]⟩
def aO1{K:Nat}{m o p g:Mk}{info:Int}{cs b:bu}(hp:aFv lev m)(aa:1<=m.pend)(A:pl<m.ps)(e2:o.cg=m.cg++ [aBt]/\o.ch=m.ch/\o.views=m.views/\o.most=m.most/\o.ps=m.ps/\o.pend=m.pend - 1)(d:aPb lev o p pl info many)(e5:c.cg=p.cg/\c.ch=p.ch/\c.views=p.views/\c.most=p.most/\c.ps=p.ps/\c.pend=p.pend+many)(f:aAa c g C (i:Int))(hi:(i:Int)=many)(B:cs.length=i)(D:aFc K c.cg.length cs C)(t:(pl<0->b.length=i/\∀w∈b,1<=w/\w<=3)/\(¬pl<0->b= []))
  (h1:m'.cg=g.cg.set m.cg.length (jJ pl info cs b)) (q:m'.ch=g.ch) (E:m'.views=g.views) (S:m'.most=g.most) (T:m'.ps=g.ps) (U:m'.pend=g.pend):aAa m m' (jJ pl info cs b::C) 1/\tX (K+1) m.cg.length (jJ pl info cs b::C):=by
 have⟨W,l,X,a4,Y,a6⟩:=e2;have⟨Z,n,c3,c4,c5,c6⟩:=e5;have F:g.cg=m.cg++ [aBt]++C:=by rw[f.cg,Z,d.cg,W]
 have r:m'.cg=m.cg++(jJ pl info cs b::C):=by rw[h1,F,aH7]
 have ab:=d.many1;have G:=d.info0;have⟨I5,u⟩:=f.inf;have⟨V5,H⟩:=f.vws;have J:∃I,c.ch=m.ch++I:=by
  rcases d.cases with⟨a,_,_⟩|⟨_,_,a,_⟩
  .exact⟨[],by rw[n,a,l,Bu]⟩
  .exact⟨_,by rw[n,a,l]⟩
 have L:∃V,c.views=m.views++V:=by
  rcases d.cases with⟨_,a,_⟩|⟨_,_,_,a⟩
  .exact⟨[],by rw[c3,a,X,Bu]⟩
  .exact⟨_,by rw[c3,a,X]⟩
 have⟨I,hI⟩:=J;have⟨V,hV⟩:=L;have M:g.ps=m.ps:=by rw[f.ps,c5,d.ps,Y]
 have s:(jJ pl info cs b).next=cs:=by unfold jJ;split<;>rfl
 have N:kI m.ps g.ch (jJ pl info cs b):=by
  unfold jJ;by_cases h:pl<0
  .rw[if_pos h];have⟨w1,w2⟩:=t.1 h;exact .inr (.inl ⟨rfl,rfl,rfl,rfl,by show 1<=cs.length;omega,by show cs.length<=3;omega,by show b.length=cs.length;omega,w2⟩)
  .rw[if_neg h];have O:g.ch[info.toNat]? =some ⟨pl,(cs.length:Int)⟩:=by
    rw[B,hi,u];rcases d.cases with⟨a,_,k⟩|⟨_,y,a,_⟩
    .rcases k with⟨k,_⟩|⟨_,k,_⟩
     .exact absurd k h
     .rw[n,a,Ao (Ai.1 k).1];exact k
    .rw[n,a,y,Ay,Ao (by simp),Ap (Af _),Dt];rfl
   exact .inr (.inr ⟨rfl,t.2 h,rfl,by show 1<=cs.length;omega,by show cs.length<=3;omega,⟨by show 0<=pl;omega,A⟩,G,O⟩)
 refine⟨⟨r,fun x z=>?_,fun P Q=>?_,⟨I++I5,by rw[q,u,hI,Bg]⟩,⟨V++V5,by rw[E,H,hV,Bg]⟩,⟨by rw[q,E];exact f.vok.len,fun j v hv=>by rw[E] at hv;rw[q,T];exact f.vok.at_ j v hv⟩,fun j j1 j2=>?_,by rw[S,f.most,c4,d.most,a4],by rw[T,M],by rw[U,f.pend,c6,d.pend,a6];omega,?_,?_⟩,?_⟩
 .rw[q];rcases Bp.1 z with rfl|z
  .exact N
  .have:=f.ok x z;rw[c5,d.ps,Y] at this;exact this
 .rw[q];have R:gJ (P++ [lbl (jJ pl info cs b)]) c.ch.length:=by
   rcases d.cases with⟨a,_,k⟩|⟨b0,y,a,_⟩
   .rw[n,a,l];rcases k with⟨k,_⟩|⟨k,b4,_⟩
    .have e:lbl (jJ pl info cs b)=Option.none:=by unfold jJ;rw[if_pos k];rfl
     rw[e];exact .none Q
    .have e:lbl (jJ pl info cs b)=some info.toNat:=by unfold jJ;rw[if_neg au];rfl
     rw[e];have:=(Ai.1 b4).1;rw[l] at this;exact .old Q this
   .have e:lbl (jJ pl info cs b)=some info.toNat:=by unfold jJ;rw[if_neg au];rfl
    rw[e,n,a,y,Ay,l,Aj,Ba];exact .new Q
  have:=f.ord _ R;rw[Bg] at this;exact this
 .rw[q] at j2;by_cases hj:j<c.ch.length
  .rcases d.cases with⟨a,_,_⟩|⟨b0,y,a,_⟩
   .rw[n,a,l] at hj;omega
   .rw[n,a,l,Aj,Ba] at hj;refine⟨_,Bk ..,?_,?_⟩
    .unfold jJ;rw[if_neg au]
    .unfold jJ;rw[if_neg au];show info=_;rw[y,l];omega
  .have⟨x,z,hk⟩:=f.used j au j2;exact⟨x,Bf _ z,hk⟩
 .have:=f.fit;rw[r,U,S];rw[F] at this;simp only[Aj,Ax,Cb] at this ⊢;omega
 .have:=f.il;rw[r,q];rw[F] at this;simp only[Aj,Ax,Cb] at this ⊢;omega
 .refine tX.node ?_;rw[s];have e:c.cg.length=m.cg.length+1:=by rw[Z,d.cg,W,Aj];rfl
  rw[<-e];exact D
def aNY{m m5:Mk}{info:Int}(f:aFv lev m)(w:1<=m.pend)(y:c.cg=m.cg++ [aBt]/\c.ch=m.ch/\c.views=m.views/\c.most=m.most/\c.ps=m.ps/\c.pend=m.pend - 1)(b:aPb lev c d pl info many)(z:m5.cg=d.cg/\m5.ch=d.ch/\m5.views=d.views/\m5.most=d.most/\m5.ps=d.ps/\m5.pend=d.pend+many)(o:(m.cg.length:Int)+1+(m.pend - 1)+many<=m.most):aFv (lev+1) m5:=by
 have⟨A,p,q,a4,B,a6⟩:=y;have⟨C,g,k,r,s,t⟩:=z;have D:=b.many1;have i:m5.cg=m.cg++ [aBt]:=by rw[C,b.cg,A]
 have E:=f.il;have l:m.ch.length<=m5.ch.length/\m5.ch.length<=m.ch.length+1:=by
  rcases b.cases with⟨e,_,_⟩|⟨_,_,e,_⟩
  .rw[g,e,p];omega
  .rw[g,e,p,Aj,Ba];omega
 refine⟨⟨by rw[g,k];exact b.vok.len,fun j v a=>by rw[k] at a;rw[g,s];exact b.vok.at_ j v a⟩,fun j v a=>?_,fun x u n=>?_,by rw[i,r,b.most,a4,t,b.pend,a6,Aj,Ba];omega,by rw[t,b.pend,a6];omega,by rw[r,b.most,a4];exact f.most,by rw[i,Aj,Ba];omega,by rw[s,b.ps,B];exact f.ps⟩
 .rw[k] at a;have old:m.views[j]? =some v->v.2.1<((lev+1:Nat):Int)\/aCc m5 v.2.2:=fun h=>(f.lv j v h).elim (fun h=>.inl au) fun h=>.inr (h.mono i);rcases b.cases with⟨_,e,_⟩|⟨_,_,_,e⟩
  .rw[e,q] at a;exact old a
  .rw[e,q] at a;by_cases F:j<m.views.length
   .rw[Ao F] at a;exact old a
   .rw[Ap au] at a;have G:j - m.views.length=0:=by
     rcases Ci (j - m.views.length) with h|h
     .exact h
     .rw[Cd (by simp;omega)] at a;cases a
    rw[G] at a;cases a;exact .inl (by show(lev:Int)<_;omega)
 .rw[i] at u;rcases Bi.1 u with h|h
  .have:=f.nd x h n;omega
  .rw[Cc.1 h] at n;cases n
def aHf{c:AC}(a:Fr->Prop)(b:a F)(h:∀F',a F'->jP fns c ⟨F',false⟩ S Q):jP fns c ⟨F,false⟩ S Q:=h F b
def aT7:gO (.build [je 0,je 0,je 0,.ct,.ct,.ct] []) F h=some (.agg [je 0,je 0,je 0,.ct,.ct,.ct]):=rfl
def aT8{info:Int}(a:aC 128 F=je pl)(b:aC 129 F=je info):gO (.build [je 0,je 0,je 0,.ct,.ct,.ct] [(0,1,.c (je 2)),(1,1,.t 128),(2,1,.t 129)]) F h=some (.agg [je 2,je pl,je info,.ct,.ct,.ct]):=by
 show(bG (eI _ (dJ F [(0,1,.c (je 2)),(1,1,.t 128),(2,1,.t 129)])) fun cs=>some (AV.agg cs))=_;simp only[dJ,show(cT.t 128).val F=je pl from a,show(cT.t 129).val F=je info from b,aCM,eI,dD,aH];rfl
theorem aLp{k p:Nat}{v:AV}(h:eQ (.slice k) v i=some (.ptr b p)):aM v=some b:=by
 cases v with
 | sl c off len cap o=>
  have h:cC (Nat.blt i len) (some (AV.ptr c (off+i * k))) none=some (.ptr b p):=h;cases a:Nat.blt i len with
  | true=>rw[a,aN] at h;cases h;rfl
  | false=>rw[a,aU] at h;cases h
 | _=>cases h
noncomputable def aNW:List AO:=[mt 195 0,
om 196 1 (.cw (.t 195)),
om 197 3 (.dk 7 (.t 196)),
om 198 7 (.dk 1 (.t 197)),
om 199 15 (ld 198),
mt 200 7,
oq 201 (.ld true 6 (.t 11)),
om 202 127 (.df (.slice 6) (.t 199) (.t 200))]
def aPh(P:Nat->Prop)(S0 X:St)(mb db:Nat)(LV:List (Int×Int×Int))(lev:Nat)(m:Mk)(Z:St):Prop:=∃m' B,aAa m m' B 1/\tX (LV.length - lev) m.cg.length B/\nO (fun c=>P c\/X.nx<=c) S0 Z mb db m' LV/\gI mb db m X m' Z
def aHg{P:Nat->Prop}{Y:St}{m a:Mk}(H:Has fns)(b:aFv lev m)(f:1<=m.pend)(l:nO P S0 Y mb db a LV)(j:gI mb db m X a Y)(e:a.cg=m.cg++ [aBt]/\a.ch=m.ch/\a.views=m.views/\a.most=m.most/\a.ps=m.ps/\a.pend=m.pend - 1):
  iI fns (.fn 72 [] []) [.ptr mb 0,je (m.cg.length:Int)] Y fun _ Z=>aPh P S0 X mb db LV lev m Z:=by
 have⟨k,n,o,p,g,q⟩:=e;refine aW (aLC H l (show m.cg.length<a.cg.length by rw[k,Aj];simp) (by rw[g];exact b.ps)) ?_;rintro r Z ⟨x,i,s,t⟩;rw[g] at i;have d:a.cg.set m.cg.length x=m.cg++ [x]:=by
  have:=aH7 (A:=m.cg) (C:=[]) (x:=x) (y:=aBt);rw[Bu] at this;rw[k];exact this
 exact⟨{a with cg:=a.cg.set m.cg.length x},[x],aPw b f i d n o p g q,tX.end_ i.next,s.mono fun c _ h=>h.elim (fun h=>.inl h) fun h=>.inr (Av j.1 h),j.trans t⟩
def aEd(H:Has fns)(c8:∀p∈LV, -1<=p.1/\2<=p.2.1/\p.2.1<=3/\0<=p.2.2/\p.2.2<=1000)(ek:LV.length<=700)(en:lev<=LV.length)(bC:lev<LV.length->aDD fns S0 mb db LV (lev+1)):aDD fns S0 mb db LV lev:=by
 intro X P m v rows hM hS d ao aw c9 cm cn;have eg:=d.fit;have c':=d.most;have eo:=d.il;have er:=d.ps;have da:=d.vok.len;have f8:=cH (p:=8) hM.g rfl;have f4:=cH (p:=4) hM.g rfl;have wP:IntKind.i64.wrap (m.pend - 1)=m.pend - 1:=wrap_i64 au au;refine cK H.f63 (by simp) ?_;refine ae ?_;refine cA (ae ?_);refine cA (fg @bE @bF @aB @aA f8 hM.p.nod.len ?_);refine cA (fg @bE @bF @aB @aA f4 wP ?_);refine fN (v:=.undef) (S1:=⟨X.h.set mb (some (.cells (fD db {m with pend:=m.pend - 1}) false 0)),X.nx⟩) (fun call=>by refine ew @dL @dD ?_;exact xO (cs:=fD db m) (p:=4) (S:=X) hM.g (au:4<10)) ?_;refine ae ?_;obtain⟨X1,U⟩:∃Z:St,Z=⟨X.h.set mb (some (.cells (fD db {m with pend:=m.pend - 1}) false 0)),X.nx⟩:=⟨_,rfl⟩;have bI:nO P S0 X1 mb db {m with pend:=m.pend - 1} LV:=(hM.p.keep (m':={m with pend:=m.pend - 1}) (X':=X) (Af _) (fun _ _ _ _=>rfl) hM.p.dr rfl rfl rfl rfl rfl rfl rfl rfl rfl).1.put (by rw[U];simp only;rw[ef,if_pos rfl]) (by rw[U];exact Af _) fun c _ aI=>by rw[U];simp only;rw[ef,if_neg aI]
 have k1:gI mb db m X {m with pend:=m.pend - 1} X1:=(hM.p.keep (m':={m with pend:=m.pend - 1}) (X':=X) (Af _) (fun _ _ _ _=>rfl) hM.p.dr rfl rfl rfl rfl rfl rfl rfl rfl rfl).2.trans (by rw[U];exact gI.put);rw[<-U];have f81:=cH (p:=8) bI.g rfl;have dc:=fun(F:Fr) (h:Ev.T AB)=>aT7 (F:=F) (h:=h);refine cA (gh @bE @bF @aB @aA f81 dc ?_);refine fW (aFo (by simp only[↓aF,aE,rE,↓reduceIte,rA];rfl)) ?_;intro X2 x2 n2 g2;have V:=bI.same x2;have⟨v',X3,eA,aV,nV,kV,bV⟩:=V.p.nod.push (bytes:=96) (x:=.sl X1.nx 0 1 1 false) (a:=aBt) az (ax k1.1) rfl (aJ3 g2 rfl) rfl ⟨.ct,.ct,.ct,rfl,.inl ⟨rfl,.inl rfl⟩,.inl ⟨rfl,.inl rfl⟩,.inl ⟨rfl,.inl rfl⟩,fun c q=>by rcases q with h|h|h<;>cases h⟩ (by show m.cg.length+1<=room;unfold room;omega) (by show(m.cg.length+1) * 96<=room;unfold room;omega);refine fN (fun call=>by refine fl @fK ?_;exact eA) ?_;refine fu @bE @bF @aB @aA ?_;have⟨kP,kM⟩:=V.p.pushN nV kV bV aV;have cq:X3.h.get mb=some (.cells (fD db {m with pend:=m.pend - 1}) false 0):=(kV mb V.p.lt fun e=>(V.p.d1 mb e).1 rfl).trans V.g;refine fN (v:=.undef) (S1:=⟨X3.h.set mb (some (.cells (fD db {m with pend:=m.pend - 1,na:=v',cg:=m.cg++ [aBt]}) false 0)),X3.nx⟩) (fun call=>by refine ft @dL aV.cells @aH ?_;exact xO (cs:=fD db {m with pend:=m.pend - 1}) (p:=8) (S:=X3) cq (au:8<10)) ?_;refine am ?_;obtain⟨X4,W⟩:∃Z:St,Z=⟨X3.h.set mb (some (.cells (fD db {m with pend:=m.pend - 1,na:=v',cg:=m.cg++ [aBt]}) false 0)),X3.nx⟩:=⟨_,rfl⟩;have u:nO P S0 X4 mb db {m with pend:=m.pend - 1,na:=v',cg:=m.cg++ [aBt]} LV:=kP.put (by rw[W];simp only;rw[ef,if_pos rfl]) (by rw[W];exact Af _) fun c _ aI=>by rw[W];simp only;rw[ef,if_neg aI]
 have k4:gI mb db m X {m with pend:=m.pend - 1,na:=v',cg:=m.cg++ [aBt]} X4:=((k1.trans (gI.same x2)).trans kM).trans (by rw[W];exact gI.put);rw[<-W];clear W cq kP kM kV nV bV eA aV V g2 n2 x2 f81 U k1 bI;obtain⟨m2,bM⟩:∃m2:Mk,m2= {m with pend:=m.pend - 1,na:=v',cg:=m.cg++ [aBt]}:=⟨_,rfl⟩;rw[<-bM] at u k4;have E2:m2.cg=m.cg++ [aBt]/\m2.ch=m.ch/\m2.views=m.views/\m2.most=m.most/\m2.ps=m.ps/\m2.pend=m.pend - 1:=by rw[bM];exact⟨rfl,rfl,rfl,rfl,rfl,rfl⟩
 clear bM;refine aHf (fun F=>aC 0 F= .ptr mb 0/\aC 1 F=je (lev:Int)/\aC 2 F=v/\aC 7 F=je (m.cg.length:Int)) (by refine⟨?_,?_,?_,?_⟩<;>simp only[↓sU,sD,rE,↓reduceIte,rA]) ?_;rintro F ⟨g,t,z,s⟩;have f1:=cH (p:=1) u.g rfl;have f0:=cH (p:=0) u.g rfl;refine gH ?_;by_cases cr:(lev:Int)=(LV.length:Int)
 .simp only[↓sU,sD,rE,↓reduceIte,rA,g,t,bE,bF,aB,aA,f1,u.p.lev.len,Ah,Ac cr];refine aS (af) ?_;refine cA (ew g s ?_);refine bK (ae ?_);refine aW (aHg H d ao u k4 E2) ?_;intro r Z hZ
  refine cA (de s ?_);refine aT (ae ?_);exact hZ
 simp only[↓sU,sD,rE,↓reduceIte,rA,g,t,bE,bF,aB,aA,f0,f1,u.p.lev.len,Ah,Aa cr];refine bK (ae ?_);refine aW (mJ H u.p.dr (n:=8) az az) ?_;rintro _ X5 ⟨s5,d5,y,rfl,_,_⟩;have⟨aa,b5⟩:=u.drawn s5 d5;have k5:=k4.trans b5;clear u k4 b5 s5 d5;by_cases hy:y=1
 .refine de (Ac hy) ?_;refine aS (af) ?_;refine cA (ew g s ?_);refine bK (ae ?_);refine aW (aHg H d ao aa k5 E2) ?_;intro r Z hZ
  refine cA (de s ?_);refine aT (ae ?_);exact hZ
 refine de (Aa hy) ?_;refine aQ (af) (aK ?_);refine ae ?_
 have ct:lev<LV.length:=by omega
 have bC:=bC ct;obtain⟨pl,mn,sn,cw⟩:∃pl mn sn,LV[lev]? =some (pl,mn,sn):=⟨_,_,_,Ab ct⟩;have bk:(pl,mn,sn)∈LV:=Ar cw;have⟨q1,q2,q3,q4,q5⟩:=c8 _ bk;have q6:=cn _ bk;simp only at q1 q2 q3 q4 q5 q6;refine aHf (fun F=>aC 0 F= .ptr mb 0/\aC 1 F=je (lev:Int)/\aC 2 F=v/\aC 7 F=je (m.cg.length:Int)) (by refine⟨?_,?_,?_,?_⟩<;>simp only[↓sU,sD,rE,↓reduceIte,rA,g,t,z,s]) ?_;clear g t z s F f1 f0;rintro F ⟨g,t,z,s⟩;have f1:=cH (p:=1) aa.g rfl;have⟨ep,bl,ql,bm,_,_,aZ,bn,_⟩:=aG.at aa.p.lev az cw;have aZ:ep= [je pl,je mn,je sn]:=aZ;subst aZ;refine cA ?_;simp only[↓aF,aE,rE,↓reduceIte,rA,g,t,bE,bF,aB,aA,f1,aJ,bm,bn];refine bS ?_;intro W1 v1 n1 h1;refine cQ (b:=X5.nx) (aq) (by refine am ?_;exact aY _) h1 rfl rfl ?_;intro X6 v2 n2 h2;refine am ?_;have bR:Same X5 X6:=v2.same v1 (Af _);have bU:=aa.same bR;have k6:=k5.trans (gI.same bR);have bW:X5.nx<X6.nx:=by omega
 have bY:PB mb db m2 X5.nx:=aa.p.fresh (Af _);have es:X.nx<=X5.nx:=k5.1;have t0:=cH (p:=0) h2 rfl;have t1:=cH (p:=1) h2 rfl;clear v1 v2 n1 n2 h1 W1 bR aa k5 f1 bm bn;generalize X5.nx=tb at *;refine cA (ez @aB @aA t1 ?_);have⟨a0,D,ab,dd,a5,dg⟩:=id E2;have bp:∀x∈m2.cg,x.kind=2->x.info<(m2.ch.length:Int):=fun x hx hk=>by
  rw[a0] at hx;rw[D];rcases Bi.1 hx with h|h
  .exact d.nd x h hk
  .rw[Cc.1 h] at hk;cases hk
 have M:aDB m2:=⟨by rw[D,ab];exact da,fun j w hw=>by rw[ab] at hw;rw[D,a5];exact d.vok.at_ j w hw⟩;refine aD (bB (Q:=fun o E Z=>o= .normal/\E.inr=false/\∃f info many,aPb lev m2 f pl info many/\nO P S0 Z mb db f LV/\gI mb db m2 X6 f Z/\aC 0 E.F= .ptr mb 0/\aC 1 E.F=je (lev:Int)/\aC 2 E.F=v/\aC 7 E.F=je (m.cg.length:Int)/\aC 8 E.F= .ptr tb 0/\aC 9 E.F=je many/\aC 10 E.F=je info) (aD (aL ?_)) ?_)
 .refine ez @aB @aA t0 ?_;by_cases G:0<=pl;rotate_left
  .refine aQ (iu (Aa (show ¬pl≥0 from G))) (aK ?_);refine fe g t z s ?_;exact⟨m2,0,mn,⟨rfl,rfl,rfl,rfl,M,au,⟨au,q3⟩,.inl ⟨rfl,rfl,.inl ⟨au,rfl⟩⟩⟩,bU,gI.refl,rfl,rfl⟩
  refine aS (iu (Ac (show pl≥0 from G))) ?_;obtain⟨pn,rfl⟩:∃pn:Nat,pl=(pn:Int):=⟨pl.toNat,au⟩;have b0:pn<rows.length:=by omega
  have cx:xG (fun c=>PB mb db m2 c/\P c) X6 v rows:=aw.move k6.1 fun c q R=>⟨(k6.2 c q R.1).1,(k6.2 c q R.1).2,R.2⟩;obtain⟨_,br,qr,cy,dh,_,⟨a,rfl,bq,di⟩,_,dj⟩:=aG.at cx.rows az (vL b0);have cz:=dj 0 a rfl;rw[Bs] at cz;have dk:=(cx.out br (aLp cy)).1;have sa:=bN.self bq;have dm:(rows.getD pn []).length<=lev:=cm _ (by rw[Ad,Ab b0];exact Bt b0);have et:=k6.1;refine aD (iD (fun c=>¬PB mb db m2 c) ?_);intro X7 x7;simp only[↓sU,sD,rE,↓reduceIte,rA,g,t,z,aB,aP,aA,t0,aJ,cy,cz,sa,bW,dh,bY,dk,Ct,An];refine jI rfl ?_;refine ae ?_;refine aW (aMf (l:=rows.getD pn []) H (bU.same x7) (by have h9:X6.nx<=X7.nx:=x7.1;show S0.nx<=X7.nx;omega) (bq.same x7) au di (by rw[ab];omega) (by rw[D];omega)) ?_;intro r Z hZ;have bs:∀ {f},gI mb db m2 X7 f Z->aGA (fun c=>¬PB mb db m2 c) X6.nx X7 Z:=fun {f} b=>⟨b.1,fun c q hn=>(b.2 c (ax x7.1) (Classical.not_not.1 hn)).1⟩;rcases hZ with⟨sZ,i,vw,cV,e1,e2,rfl⟩|⟨cW,b2,a',a1,a2,rfl,A,bZ⟩
  .refine⟨bs (gI.same sZ),?_⟩;have A:=(bU.same x7).same sZ;have f9:=cH (p:=9) A.g rfl;have⟨ei,_,_,a3,I,a31,a32⟩:=M.at_ i vw cV;have hI:aG 2 cE Z m2.ia m2.ch:=A.p.inf.is fun e a h=>h;have⟨ee,bi,qi,b3,_,_,N,_,b6⟩:=aG.at hI az I;have N:ee= [je vw.1,je a3]:=N;subst N;have l1:=b6 1 _ rfl;have hu:aCc m2 ((i:Nat):Int):=by
    have:=d.lv i vw (by rw[<-ab];exact cV);rw[ei] at this;rcases this with h|h
    .omega
    .exact h.mono a0
   refine de ei ?_;refine aL ?_;simp only[↓sU,sD,rE,↓reduceIte,rA,g,bE,bF,aB,aA,f9,aJ,b3,l1,t,z,s];exact⟨m2,(i:Int),a3,⟨rfl,rfl,rfl,rfl,M,au,⟨a31,a32⟩,.inl ⟨rfl,rfl,.inr ⟨G,by rw[Ay,I,e1],hu⟩⟩⟩,A,gI.same (x7.trans sZ),rfl,rfl⟩
  .refine⟨bs bZ,?_⟩;have f9:=cH (p:=9) A.g rfl;have I:(m2.ch++ [(⟨(pn:Int),a'⟩:fU)])[m2.ch.length]? =some ⟨(pn:Int),a'⟩:=by rw[Ap (Af _),Dt];rfl
   have hI:aG 2 cE Z b2 (m2.ch++ [(⟨(pn:Int),a'⟩:fU)]):=A.p.inf.is fun e a h=>h;have⟨ee,bi,qi,b3,_,_,N,_,b6⟩:=aG.at hI az I;have N:ee= [je (pn:Int),je a']:=N;subst N;have l1:=b6 1 _ rfl
   refine aL ?_;simp only[↓sU,sD,rE,↓reduceIte,rA,g,bE,bF,aB,aA,f9,aJ,b3,l1,t,z,s];refine⟨{m2 with va:=cW,ia:=b2,views:=m2.views++ [((pn:Int),(lev:Int),(m2.ch.length:Int))],ch:=m2.ch++ [(⟨(pn:Int),a'⟩:fU)]},(m2.ch.length:Int),a',⟨rfl,rfl,rfl,rfl,⟨by simp [M.len],fun j w hw=>?_⟩,au,⟨a1,a2⟩,.inr ⟨G,rfl,rfl,rfl⟩⟩,A,(gI.same x7).trans bZ,rfl,rfl⟩;have hw:(m2.views++ [((pn:Int),(lev:Int),(m2.ch.length:Int))])[j]? =some w:=hw;show w.2.2=(j:Int)/\0<=w.1/\w.1<m2.ps/\∃a,(m2.ch++ [(⟨(pn:Int),a'⟩:fU)])[j]? =some ⟨w.1,a⟩/\1<=a/\a<=3;by_cases hj:j<m2.views.length
   .rw[Ao hj] at hw;have⟨w1,w2,w3,a4,w4,w5⟩:=M.at_ j w hw;exact⟨w1,w2,w3,a4,by rw[Ao (by rw[<-M.len];exact hj)];exact w4,w5⟩
   .rw[Ap au] at hw;have h0:j - m2.views.length=0:=by
     rcases Ci (j - m2.views.length) with h|h
     .exact h
     .rw[Cd (by simp;omega)] at hw;cases hw
    rw[h0] at hw;cases hw;have dn:j=m2.ch.length:=by rw[<-M.len];omega
    subst dn;exact⟨rfl,G,by rw[a5];exact q6,a',I,a1,a2⟩
 clear g t z s F;rintro o ⟨F,inr⟩ X7 ⟨rfl,q0,f,info,many,J,b8,b7,g,t,z,s,p8,p9,O⟩;simp only at q0 g t z s p8 p9 O;subst q0;have k7:=k6.trans b7;have ey:=J.many1;have dp:X7.h.get tb=some (.cells [je pl,je mn,je sn] false 0):=(b7.2 tb bW bY).1.trans h2;have cX:=(b7.2 tb bW bY).2;have bv:tb<X7.nx:=by have:=b7.1;omega
 have x7:=k7.1;have f3:=cH (p:=3) b8.g rfl;have f4:=cH (p:=4) b8.g rfl;have e3:f.most=m.most:=J.most.trans dd;have e4:f.pend=m.pend - 1:=J.pend.trans dg;have dq:f.cg.length=m.cg.length+1:=by rw[J.cg,a0,Aj];rfl
 have eB:f.ch.length<=m.ch.length+1:=by
  rcases J.cases with⟨b1,_,_⟩|⟨_,_,b1,_⟩
  .rw[b1,D];omega
  .rw[b1,D,Aj,Ba];omega
 have wA:IntKind.i64.wrap ((m.cg.length:Int)+1)=(m.cg.length:Int)+1:=wrap_i64 au au;have wB:IntKind.i64.wrap ((m.cg.length:Int)+1+f.pend)=(m.cg.length:Int)+1+f.pend:=wrap_i64 au au;have wC:IntKind.i64.wrap ((m.cg.length:Int)+1+f.pend+many)=(m.cg.length:Int)+1+f.pend+many:=wrap_i64 au au;refine ae ?_
 refine aD (aD (jK ?_));simp only[↓sU,sD,rE,↓reduceIte,rA,g,s,p9,bE,bP,bF,aB,aP,aA,f3,f4,wA,wB,wC];generalize cY:(⟨X7.h,X7.nx+_⟩:St)=X8;have be:Same X7 X8:=by rw[<-cY];exact Same.nx _ _
 clear cY;have ac:=b8.same be;have k8:=k7.trans (gI.same be);have cZ:=(be.2 _ bv).trans dp;have a8:tb<X8.nx:=Ae bv be.1;by_cases bw:(m.cg.length:Int)+1+f.pend+many>f.most
 .refine aS (iu (Ac bw)) ?_;have dr:=cH (p:=0) cZ rfl;refine cA (fg g p8 O @aB @aA dr ?_);refine bK (ae ?_);refine aW (aLG H ac J.info0 J.vok.len au au) ?_;intro r Z hZ;obtain⟨m4,ba,k9,E4⟩:∃m4,nO P S0 Z mb db m4 LV/\gI mb db m X m4 Z/\(m4.cg=m.cg++ [aBt]/\m4.ch=m.ch/\m4.views=m.views/\m4.most=m.most/\m4.ps=m.ps/\m4.pend=m.pend - 1):=by
   rcases hZ with⟨ho,du⟩|⟨z1,z2,z3,cW,b2,A,bZ⟩
   .have⟨w1,w2⟩:=(aFP J bp).1 ho;rw[du];exact⟨f,ac,k8,J.cg.trans a0,w1.trans D,w2.trans ab,e3,J.ps.trans a5,e4⟩
   .have⟨w1,w2⟩:=(aFP J bp).2 ⟨z1,z2,z3⟩;exact⟨_,A,k8.trans bZ,J.cg.trans a0,w1.trans D,w2.trans ab,e3,J.ps.trans a5,e4⟩
  refine cA (ew g s ?_);refine bK (ae ?_);refine aW (aHg H d ao ba k9 E4) ?_;intro r Z' dv
  refine cA (de s ?_);refine aT (ae ?_);exact dv
 refine aQ (iu (Aa bw)) (aK ?_);refine ae ?_
 refine aHf (fun F=>aC 0 F= .ptr mb 0/\aC 1 F=je (lev:Int)/\aC 2 F=v/\aC 7 F=je (m.cg.length:Int)/\aC 8 F= .ptr tb 0/\aC 9 F=je many/\aC 10 F=je info) (by refine⟨?_,?_,?_,?_,?_,?_,?_⟩<;>simp only[↓sU,sD,rE,↓reduceIte,rA,g,t,z,s,p8,p9,O]) ?_;clear g t z s p8 p9 O F f3 f4;rintro F ⟨g,t,z,s,p8,p9,O⟩;have f4:=cH (p:=4) ac.g rfl;have wD:IntKind.i64.wrap (f.pend+many)=f.pend+many:=wrap_i64 au au;refine cA (fj g p9 @bE @bF @aB @aA f4 wD ?_);refine fN (v:=.undef) (S1:=⟨X8.h.set mb (some (.cells (fD db {f with pend:=f.pend+many}) false 0)),X8.nx⟩) (fun call=>by refine ew @dL @dD ?_;exact xO (cs:=fD db f) (p:=4) (S:=X8) ac.g (au:4<10)) ?_;refine ae ?_;obtain⟨X9,an⟩:∃Z:St,Z=⟨X8.h.set mb (some (.cells (fD db {f with pend:=f.pend+many}) false 0)),X8.nx⟩:=⟨_,rfl⟩;have b':=ac.p.keep (m':={f with pend:=f.pend+many}) (X':=X8) (Af _) (fun _ _ _ _=>rfl) ac.p.dr rfl rfl rfl rfl rfl rfl rfl rfl rfl;have ba:nO P S0 X9 mb db {f with pend:=f.pend+many} LV:=b'.1.put (by rw[an];simp only;rw[ef,if_pos rfl]) (by rw[an];exact Af _) fun c _ aI=>by rw[an];simp only;rw[ef,if_neg aI]
 have bb:gI mb db f X8 {f with pend:=f.pend+many} X9:=b'.2.trans (by rw[an];exact gI.put);rw[<-an];clear an b' f4;obtain⟨L,ca⟩:∃L:Mk,L= {f with pend:=f.pend+many}:=⟨_,rfl⟩;rw[<-ca] at ba bb;have E5:L.cg=f.cg/\L.ch=f.ch/\L.views=f.views/\L.most=f.most/\L.ps=f.ps/\L.pend=f.pend+many:=by rw[ca];exact⟨rfl,rfl,rfl,rfl,rfl,rfl⟩
 clear ca;have k9:=k8.trans bb;have bx:PB mb db f tb:=cX;have dw:=(bb.2 tb a8 bx).1.trans cZ;have c0:=(bb.2 tb a8 bx).2;have c1:tb<X9.nx:=Ae a8 bb.1;have dz:=fun(F:Fr) (h:Ev.T AB)=>aR4 (F:=F) (h:=h) (a:=1);refine cA (fl dz ?_);refine bS ?_;intro W1 v1 n1 h1;refine cQ (b:=X9.nx) (cs':=[je 1,je 0,je 0,.ct,.ct,.ct]) (aq) (by refine am ?_;exact aY _) h1 rfl rfl ?_;intro X10 v2 n2 c2;refine am ?_;have T:Same X9 X10:=v2.same v1 (Af _);have bz:=(T.2 tb c1).trans dw;have t0:=cH (p:=0) bz rfl;have eC:X9.nx<X10.nx:=by omega
 clear v1 v2 n1 n2 h1 W1;refine aD (bB (Q:=fun o E Z=>o= .normal/\E.inr=false/\X10.nx<=Z.nx/\(∀c,c<X10.nx->c≠X9.nx->Z.h.get c=X10.h.get c)/\Z.h.get X9.nx=some (.cells [je (if pl<0 then 1 else 2),je (if pl<0 then 0 else pl),je (if pl<0 then 0 else info),.ct,.ct,.ct] false 0)/\aC 0 E.F= .ptr mb 0/\aC 1 E.F=je (lev:Int)/\aC 2 E.F=v/\aC 7 E.F=je (m.cg.length:Int)/\aC 8 E.F= .ptr tb 0/\aC 9 E.F=je many/\aC 11 E.F= .ptr X9.nx 0) (aD (aL ?_)) ?_)
 .refine fe p8 @aB @aA t0 ?_;by_cases G:0<=pl
  .rw[if_neg au,if_neg au,if_neg au];refine aS (iu (Ac (show pl≥0 from G))) ?_;have dM:=fun(F:Fr) (h:Ev.T AB) (a:aC 128 F=je pl) (b:aC 129 F=je info)=>aT8 (F:=F) (h:=h) a b;refine aL (fg p8 O @aB @aA t0 dM ?_);refine cQ (b:=X9.nx) (cs':=[je 2,je pl,je info,.ct,.ct,.ct]) (af) (by refine ae ?_;exact aY _) c2 rfl rfl ?_;intro Z z1 z2 z3;refine fg g t z s p8 p9 ?_;exact⟨z1.1,z1.2,z3⟩
  .rw[if_pos au,if_pos au,if_pos au];refine aQ (iu (Aa (show ¬pl≥0 from G))) (aK ?_);refine fg g t z s p8 p9 ?_;exact⟨Af _,fun _ _ _=>trivial,c2⟩
 clear g t z s p8 p9 O F;rintro o ⟨F,inr⟩ cc ⟨rfl,q0,dU,cf,dV,g,t,z,s,p8,p9,cj⟩;simp only at q0 g t z s p8 p9 cj;subst q0;have c3:PB mb db L X9.nx:=ba.p.fresh (Af _);have eh:=T.1;have n9:=k9.1;have c4:nO (fun c=>((P c/\c<X.nx)\/X.nx<=c)/\c≠X9.nx) S0 cc mb db L LV:=by
  have h1:nO (fun c=>((P c/\c<X.nx)\/X.nx<=c)/\c≠X9.nx) S0 X10 mb db L LV:=(ba.mono fun c q h=>⟨(De c X.nx).elim (fun h'=>.inl ⟨h,h'⟩) fun h'=>.inr h',au⟩).same T;refine h1.local dU fun c q dW=>cf c q fun e=>?_;rcases dW with h|h
  .exact h (by rw[e];exact c3)
  .exact h.2 e
 have ck:∀c,c<X.nx->PB mb db m c->cc.h.get c=X.h.get c/\PB mb db L c:=fun c q R=>⟨(cf c au au).trans ((T.2 c au).trans (k9.2 c q R).1),(k9.2 c q R).2⟩;have bd:xG (fun c=>PB mb db L c/\(P c/\c<X.nx)) cc v rows:=aw.move au fun c q R=>⟨(ck c q R.1).1,(ck c q R.1).2,R.2,q⟩;have c5:=(cf tb au au).trans bz;obtain⟨bj,rfl⟩:∃bj:Nat,many=(bj:Int):=⟨many.toNat,au⟩;have bA:L.ps=m.ps:=E5.2.2.2.2.1.trans (J.ps.trans a5);have ej:L.pend=m.pend - 1+(bj:Int):=by rw[E5.2.2.2.2.2,e4]
 refine ae ?_
 refine gH (ae ?_);refine aI8 (P:=fun c=>P c/\c<X.nx) (X:=X) (tb:=tb) (xb:=X9.nx) (m1:=L) (pl:=pl) (mn:=mn) (sn:=sn) (many:=bj) (lev:=lev) H bC (fun c h=>h.2) au c4 hS (aNY d ao E2 J E5 au) au au au (fun p R=>by rw[bA];exact cn p R) bd (by rw[bA];exact c9) cm au au au au  c0 c3 c5 dV ⟨q4,q5⟩ (ah g) (ah t) (ah z) (ah p8) (ah p9) (ah cj) (ag) ?_;intro F' Y mi cs C ws xa xw hk B;have r0:=hk 0 au;have r7:=hk 7 au;have c6:=hk 11 au;simp only[↓sU,sD,rE,↓reduceIte,rA,g,s,cj] at r0 r7 c6;refine ae ?_
 have dY:nO (fun c=>P c\/X.nx<=c) S0 ⟨Y.h,Y.nx+9⟩ mb db mi LV:=(B.mkb.same (Same.nx Y 9)).mono fun c _ h=>h.1.elim (fun h=>.inl h.1) .inr;have nY:=B.nx;have fk:(jJ pl info cs ws).kind=if pl<0 then 1 else 2:=by unfold jJ;split<;>rfl
 have fp:(jJ pl info cs ws).player=if pl<0 then 0 else pl:=by unfold jJ;split<;>rfl
 have fi:(jJ pl info cs ws).info=if pl<0 then 0 else info:=by unfold jJ;split<;>rfl
 have fn:(jJ pl info cs ws).next=cs:=by unfold jJ;split<;>rfl
 have fw:(jJ pl info cs ws).weights=ws:=by unfold jJ;split<;>rfl
 have fy:(jJ pl info cs ws).pay= []:=by unfold jJ;split<;>rfl
 have c7:m.cg.length<mi.cg.length:=by rw[B.bld.cg,E5.1,Aj,dq];omega
 have⟨b,p,Z,z1,z2,z3,z4,z5,z6⟩:=dY.setN (i:=m.cg.length) (e:=[je (if pl<0 then 1 else 2),je (if pl<0 then 0 else pl),je (if pl<0 then 0 else info),xa,xw,.ct]) (x:=jJ pl info cs ws) c7 ⟨xa,xw,.ct,by rw[fk,fp,fi],by rw[fn];exact(B.ga.step (Same.nx Y 9)).is,by rw[fw];exact(B.gw.step (Same.nx Y 9)).is,by rw[fy];exact .inl ⟨rfl,.inl rfl⟩,fun c q=>by
  rcases q with q|q|q
  .exact⟨B.pa c q,.inr (by have:=(B.ga.blk q).1;omega)⟩
  .exact⟨B.pw c q,.inr (by have:=(B.gw.blk q).1;omega)⟩
  .cases q⟩
 have dZ:=cH (p:=8) B.mkb.g rfl;have d':=ldN B.gx;have ea:=B.mkb.p.nod.self;have eb:=B.ga.self;have ec:=B.gw.self;have sx:=uX (k:=.i64) (x0:=if pl<0 then 1 else 2) (x1:=if pl<0 then 0 else pl) (x2:=if pl<0 then 0 else info) (a:=xa) (b:=xw) (c:=.ct) eb ec rfl;have cl:=aO1 (m':={mi with cg:=mi.cg.set m.cg.length (jJ pl info cs ws)}) d ao q6 E2 J E5 B.bld rfl B.len B.forT B.wts rfl rfl rfl rfl rfl rfl;rw[show LV.length - (lev+1)+1=LV.length - lev by omega] at cl;generalize (if pl<0 then(1:Int) else 2)=i0 at *;generalize (if pl<0 then(0:Int) else pl)=i1 at *;generalize (if pl<0 then(0:Int) else info)=i2 at *;refine aD (sI (pre:=aNW) (K:=8) (m:=255) (n:=6) (x:=.t 202) (v:=.t 201) rfl rfl rfl rfl ?_);unfold aNW;simp only[↓sU,sD,rE,↓reduceIte,rA,r0,r7,c6,bE,bP,bF,aB,aP,aA,dZ,ea,d',sx,aJ,z1];rw[show(AV.agg [je i0,je i1,je i2,xa,xw,.ct]).cells=some [je i0,je i1,je i2,xa,xw,.ct] from aY _,aH];refine⟨Z,z3,?_⟩;refine cA (de r7 ?_);refine aT (ae ?_);refine⟨_,_,cl.1,cl.2,z5,⟨by rw[z4];show X.nx<=Y.nx+9;omega,fun c q R=>?_⟩⟩;have⟨y1,y2⟩:=ck c q R;have⟨y3,y4⟩:=B.frm c au y2;have⟨y5,y6⟩:=z6.2 c (by show c<Y.nx+9;omega) y3;exact⟨y5.trans ((y4 au).trans y1),y6⟩
theorem aHj{S0:St}{mb db:Nat}{LV:List (Int×Int×Int)}(H:Has fns)(a:∀p∈LV, -1<=p.1/\2<=p.2.1/\p.2.1<=3/\0<=p.2.2/\p.2.2<=1000)(b:LV.length<=700):∀n lev,lev+n=LV.length->aDD fns S0 mb db LV lev
 | 0,lev,h=>aEd H a b au fun h'=>by omega
 | n+1,lev,h=>aEd H a b au fun _=>aHj H a b n (lev+1) au
def PlB(cs:cd)(a:Int×Int×Int):Prop:=cs= [je a.1,je a.2.1,je a.2.2]
def aUo{a b c:Int}(d:aC 45 F=je a)(e:aC 51 F=je b)(f:aC 56 F=je c):gO (.build [je 0,je 0,je 0] [(0,1,.t 45),(1,1,.t 51),(2,1,.t 56)]) F h=some (.agg [je a,je b,je c]):=by
 show(bG (eI _ (dJ F [(0,1,.t 45),(1,1,.t 51),(2,1,.t 56)])) fun cs=>some (AV.agg cs))=_;simp only[dJ,show(cT.t 45).val F=je a from d,show(cT.t 51).val F=je b from e,show(cT.t 56).val F=je c from f,eI,dD,aH];rfl
def aU5(X:St)(F:Fr)(mb db:Nat)(d e:AV)(dl:bu)(ps:Int)(F':Fr)(Z:St)(qs:List iR):Prop:=∃a b c:Int, -1<=a/\a<ps/\2<=b/\b<=3/\0<=c/\c<=15/\qs= [⟨25,X.nx+25,.cells [je a,je b,je c] false 0⟩]/\X.nx+30<=Z.nx/\cD db X Z/\uC Z db e dl/\(∀j,j<11->aC j F'=aC j F)/\aC 33 F'= .ptr mb 0/\aC 37 F'=d/\aC 58 F'= .sl (X.nx+25) 0 1 1 false
def aPd{q:List AO}{inr:Bool}{m:Mk}(H:Has fns)(he:q=aRG++aSc)(J:X.h.get mb=jf (fD db m))(l:mb<X.nx)(g:mb≠db)(z:uC X db m.lv m.dl)(L:mL 3 PlB S X m.lvl LV)(hS:S.nx<=X.nx)(A:∀c,aM m.lvl=some c->c≠mb/\c≠db/\aM m.lv≠some c)(dm:∀c,aM m.lv=some c->c≠mb)(M:aC 9 F= .ptr mb 0)(p1:aC 1 F=je ps)(aI:1<=ps/\ps<=4)(hl:LV.length<=100)
  (hQ:∀F' Z i a b c,(∀j,j<11->aC j F'=aC j F)-> -1<=a->a<ps->2<=b->b<=3->0<=c->c<=15->Z.h.get mb=jf (fD db {m with lvl:=i})->uC Z db m.lv m.dl->mL 3 PlB S Z i (LV++ [(a,b,c)])->X.nx<=Z.nx->(∀k,k<X.nx->k≠mb->k≠db->aM m.lvl≠some k->Z.h.get k=X.h.get k)->(∀k,aM i=some k->aM m.lvl=some k\/X.nx<=k)->Q .normal ⟨F',inr⟩ Z):jP fns (.drw q) ⟨F,inr⟩ X Q:=by
 have aw:q.length=30:=by rw[he];rfl
 have f0:=cH (p:=0) J rfl;have f1:=cH (p:=1) J rfl;have N:=L.self;have O:IntKind.i64.wrap (ps+1)=ps+1:=wrap_i64 au au;refine aFm 67108862 (W:=fun c=>c=db) (K:=26) (R:=aU5 X F mb db m.lvl m.lv m.dl ps) he rfl rfl rfl (fun X1 x1 aZ a0=>?_) ?_
 .have P:=z.move x1.1 (x1.2 _ z.lt) fun c y=>x1.2 c (dP z.il y);unfold aRG;simp only[↓sU,sD,rE,↓reduceIte,rA,p1,M,bE,bP,bF,aB,aP,aA,f0,f1,N,l,g,An,O];refine jI rfl (ae (aW (mJ H P (n:=ps+1) au au) ?_));rintro _ C ⟨x2,d2,a,rfl,a1,a2⟩;refine⟨⟨x2.1,fun c y d=>x2.2 c (Ae y x1.1) d⟩,?_⟩;have wa:IntKind.i64.wrap (a - 1)=a - 1:=wrap_i64 au au;simp only[↓sU,sD,rE,↓reduceIte,rA,M,bE,bP,bF,aB,aP,aA,f0,l,g,An,wa];refine jI rfl (ae (aW (mJ H d2 (n:=2) az az) ?_));rintro _ D ⟨E,d3,b,rfl,b1,b2⟩;have a3:X1.nx<=C.nx:=x2.1;refine⟨⟨E.1,fun c y d=>E.2 c (by have:=x1.1;show c<C.nx;omega) d⟩,?_⟩;have wb:IntKind.i64.wrap (2+b)=2+b:=wrap_i64 au au;simp only[↓sU,sD,rE,↓reduceIte,rA,M,bE,bP,bF,aB,aP,aA,f0,l,g,An,wb];refine jI rfl (ae (aW (mJ H d3 (n:=16) az az) ?_));rintro _ X4 ⟨G,d4,c,rfl,c1,c2⟩;have a5:C.nx<=D.nx:=E.1;have a8:D.nx<=X4.nx:=G.1;refine⟨⟨G.1,fun k f d=>G.2 k (by have:=x1.1;show k<D.nx;omega) d⟩,?_⟩;have T:=fun(F:Fr) (h:Ev.T AB) (u:aC 45 F=je (a - 1)) (v:aC 51 F=je (2+b)) (w:aC 56 F=je c)=>aUo (F:=F) (h:=h) u v w;have Y:eE (.build [je 0,je 0,je 0] [(0,1,.t 45),(1,1,.t 51),(2,1,.t 56)])=false:=rfl;have aa:=fun(F:Fr) (id:Nat) (h:aC 57 F= .agg [je (a - 1),je (2+b),je c])=>aJh (t:=134) (z0:=je 0) (z1:=je 0) (z2:=je 0) (x:=.t 57) (F:=F) (id:=id) h;refine ez T Y aa ?_;refine⟨a - 1,2+b,c,au,au,au,au,au,au,af,au,⟨ax x1.1,fun k f d=>?_⟩,d4,fun j hj=>?_,by refine⟨?_,?_,?_⟩<;>simp only[↓sU,sD,rE,↓reduceIte,rA]⟩
  .have h1:=x1.1;rw[G.2 k (by show k<D.nx;omega) d,E.2 k (by show k<C.nx;omega) d,x2.2 k (by show k<X1.nx;omega) d];exact x1.2 k f
  .have:j=0\/j=1\/j=2\/j=3\/j=4\/j=5\/j=6\/j=7\/j=8\/j=9\/j=10:=by omega
   rcases this with rfl|rfl|rfl|rfl|rfl|rfl|rfl|rfl|rfl|rfl|rfl<;>simp only[↓sU,sD,rE,↓reduceIte,rA]
 rintro F' r qs ba ls ⟨a,b,c,a1,a2,b1,b2,c1,c2,rfl,nZ,sZ,dZ,f,pA,pB,pC⟩ s ab;obtain⟨U,I⟩:∃U:St,U=⟨r.h.set (X.nx+25) (jf [je a,je b,je c]),r.nx⟩:=⟨_,rfl⟩;have nU:U.nx=r.nx:=by rw[I]
 have kU:∀k,k≠X.nx+25->U.h.get k=r.h.get k:=fun k f=>by rw[I];simp only;rw[ef,if_neg f]
 have gU:U.h.get (X.nx+25)=jf [je a,je b,je c]:=by rw[I];simp only;rw[ef,if_pos rfl]
 have kX:∀k,k<X.nx->k≠db->U.h.get k=X.h.get k:=fun k f d=>(kU k au).trans (sZ.2 k f d);have B:∀ {k},aM m.lvl=some k->k<X.nx:=fun y=>(L.blk y).2;have ac:mL 3 PlB S U m.lvl LV:=L.move au (fun k f=>kX k (B f) (A k f).2.1) fun _ _ h=>h;have⟨v',V,eA,aV,nV,kV,bV⟩:=ac.push (bytes:=24) (x:=.sl (X.nx+25) 0 1 1 false) (a:=(a,b,c)) az au rfl (aJ3 gU rfl) rfl (show PlB [je a,je b,je c] (a,b,c) from rfl) ay ay;have an:V.h.get mb=jf (fD db m):=(kV mb au fun e=>(A mb e).1 rfl).trans ((kX mb l g).trans J);unfold aSc;refine iQ (v:=v') (S1:=V) s (fun call=>?_) ?_
 .rw[cL (az:Nat.testBit 67108862 25=true),fK];simp only[fE,pB,pC];rw[<-I];exact eA
 rw[cL (az:Nat.testBit 67108862 25=true)];simp only[iW,dH,bE,bP,bF,aB,aA,aP,aU,fE,bL,bH,pA,rE,↓reduceIte,rA];have ao:v'.cells=some [v']:=aV.cells;refine iQ (v:=.undef) (S1:=⟨V.h.set mb (jf (fD db {m with lvl:=v'})),V.nx⟩) (az:Nat.testBit 536870911 26=true) (fun call=>?_) ?_
 .rw[dL];simp only[fE,bH,rE,↓reduceIte,bL,ao,aH];exact xO (cs:=fD db m) (p:=1) (S:=V) an (au:1<10)
 rw[iC];refine⟨?_,?_⟩
 .simp only[Ce,Bg,Da,Cf,Bw];exact ab _ _
 .simp only[bL,fC];have kF:∀k,k<r.nx->k≠X.nx+25->k≠mb->aM m.lvl≠some k->(V.h.set mb (jf (fD db {m with lvl:=v'}))).get k=r.h.get k:=fun k h1 h2 h3 h4=>by
   rw[ef,if_neg h3,kV k au h4,kU k h2]
  have o:=fun {k} (f:aM m.lv=some k)=>dP z.il f;refine hQ _ _ v' a b c (fun j hj=>?_) a1 a2 b1 b2 c1 c2 jd (dZ.move (by show r.nx<=V.nx;omega) (kF db dZ.lt (ax z.lt) g.symm fun e=>(A db e).2.1 rfl) fun k f=>kF k (by have:=o f;omega) (by have:=o f;omega) (dm k f) fun e=>(A k e).2.2 f) (aV.move (Af _) (fun k f=>?_) fun _ _ h=>h) (by show X.nx<=V.nx;omega) (fun k h1 h2 h3 h4=>?_) (fun k f=>?_)
  .rw[bH,if_neg au,bH,if_neg au,bH,if_neg au];exact f j hj
  .simp only;rw[ef,if_neg];rcases bV k f with h|h
   .exact(A k h).1
   .omega
  .simp only;rw[kF k au au  h2 h4];exact sZ.2 k h1 h3
  .rcases bV k f with h|h
   .exact .inl h
   .exact .inr au
def aU6{a:AV}(b:aC 11 F=a)(c:a.cells=some [a]):gO (.build [.ct,je 0] [(0,1,.t 11)]) F h=some (.agg [a,je 0]):=by
 show(bG (eI _ (dJ F [(0,1,.t 11)])) fun cs=>some (AV.agg cs))=_;simp only[dJ,show(cT.t 11).val F=a from b,eI,c,aH];rfl
def aT3{a:Int}{zero:Bool}(b:aC 13 F= .ptr db 0)(c:aC 14 F=je a)(d:aC 15 F= .bool zero):gO (.build [.nilp,.ct,.ct,je 0,je 0,.bool false,.bool false,je 0,.ct,.ct] [(0,1,.t 13),(3,1,.t 14),(4,1,.c (je 1)),(5,1,.t 15)]) F h=some (.agg [.ptr db 0,.ct,.ct,je a,je 1,.bool zero,.bool false,je 0,.ct,.ct]):=by
 show(bG (eI _ (dJ F [(0,1,.t 13),(3,1,.t 14),(4,1,.c (je 1)),(5,1,.t 15)])) fun cs=>some (AV.agg cs))=_;simp only[dJ,show(cT.t 13).val F= .ptr db 0 from b,show(cT.t 14).val F=je a from c,show(cT.t 15).val F= .bool zero from d,aCM,eI,dD,aJN,show(AV.ptr db 0).cells=some [.ptr db 0] from rfl,aH];rfl
def aQj{a c d e a4 f a6 x y z:AV}{o:Bool}{s:Nat}(g:h.get b=some (.cells [a,c,d,e,a4,f,a6,x,y,z] o s)):eK (.ptr b 7) true 3 h=some (.agg [x,y,z]):=by
 simp only[eK,qI,aN,aAi,cI,g,aH];rfl
def mk0(c b:AV)(dl:bu)(ps a:Int)(zero:Bool):Mk:=⟨b,.ct,.ct,.ct,c,a,1,ps,zero,false,dl,[],[],[]⟩
def aUE(ps:Int)(LV:List (Int×Int×Int)):Prop:=∀p∈LV,(-1<=p.1/\p.1<ps)/\(2<=p.2.1/\p.2.1<=3)/\0<=p.2.2/\p.2.2<=1000
def GmI(S:St)(gb db mb:Nat)(d:AV)(dl:bu)(ps b:Int)(zero:Bool)(k:Nat)(A:bO)(X:St):Prop:=A.inr=false/\mb<X.nx/\Same S X/\X.h.get gb=jf [je 0,.ct,.ct]/\∃ (a:AV) (LV:List (Int×Int×Int)),X.h.get mb=jf (fD db (mk0 d a dl ps b zero))/\uC X db d dl/\mL 3 PlB S X a LV/\(∀c,aM a=some c->c≠gb/\c≠mb/\c≠db/\aM d≠some c)/\aUE ps LV/\LV.length+k<=5/\aC 1 A.F=je ps/\aC 8 A.F= .ptr gb 0/\aC 9 A.F= .ptr mb 0/\aC 10 A.F=je (k:Int)
def aGM{f:AV}{dl:bu}{most:Int}{zero:Bool}(H:Has fns)(hl:bN .i64 S f dl)(bb:dl.length<=140737488355328)(R:1<=ps/\ps<=4)(hm:1<=most/\most<=200):
  iI fns (.fn 43 [] []) [f,je ps,je most,.bool zero] S fun r Z=>Same S Z/\∃ (g:aX) (nv iv:AV),r= .agg [je g.cm,nv,iv]/\g.cm=ps/\dC g=0/\(g.cg.length:Int)<=most/\(∀x∈g.cg,kI g.cm g.ch x)/\((∃k,k<=5/\tX k 0 g.cg)/\gJ (g.cg.map lbl) g.ch.length)/\aG 6 cF Z nv g.cg/\aG 2 cE Z iv g.ch/\∀X':St,Z.nx<=X'.nx->(∀c,c<Z.nx->(S.nx<=c\/aM f=some c)->X'.h.get c=Z.h.get c)->aG 6 cF X' nv g.cg/\aG 2 cE X' iv g.ch:=by
 have bd:=bN.cells hl;refine cK H.f43 (by simp) ?_;refine ae ?_;refine cA ?_;refine bS ?_;intro S1 s1 n1 g1;refine am ?_;have ac:=fun(F:Fr) (h:Ev.T AB) (a:aC 11 F=f)=>aU6 (F:=F) (h:=h) a bd;have an:=fun(F:Fr) (h:Ev.T AB) (a:aC 13 F= .ptr S1.nx 0) (b:aC 14 F=je most) (c:aC 15 F= .bool zero)=>aT3 (F:=F) (h:=h) a b c;refine cA (fl ac ?_);refine cR (cs:=[f,je 0]) (by refine am ?_;exact aY _) ?_;intro w s2 n2 g2;refine fl an ?_;refine cR (cs:=[.ptr S1.nx 0,.ct,.ct,je most,je 1,.bool zero,.bool false,je 0,.ct,.ct]) (by refine am ?_;exact aY _) ?_;intro T s3 n3 g3;refine am ?_;refine cA (fe @bE @bF @aB @aA ?_);refine fN (v:=.undef) (S1:=⟨T.h.set w.nx (jf (fD S1.nx (mk0 f .ct dl ps most zero))),T.nx⟩) (fun call=>by refine ew @dL @dD ?_;exact xO (cs:=[.ptr S1.nx 0,.ct,.ct,je most,je 1,.bool zero,.bool false,je 0,.ct,.ct]) (p:=7) (S:=T) g3 (au:7<10)) ?_;refine ae ?_;obtain⟨S4,z⟩:∃Z:St,Z=⟨T.h.set w.nx (jf (fD S1.nx (mk0 f .ct dl ps most zero))),T.nx⟩:=⟨_,rfl⟩;have n4:S4.nx=T.nx:=by rw[z]
 have k4:∀c,c≠w.nx->S4.h.get c=T.h.get c:=fun c d=>by rw[z];simp only;rw[ef,if_neg d]
 have E:S4.h.get w.nx=jf (fD S1.nx (mk0 f .ct dl ps most zero)):=by rw[z];simp only;rw[ef,if_pos rfl]
 rw[<-z];clear z g3;have G:Same S S4:=⟨au,fun c d=>by rw[k4 c au,s3.2 c au,s2.2 c au];exact s1.2 c d⟩;have U:S4.h.get S.nx=jf [je 0,.ct,.ct]:=by rw[k4 _ au,s3.2 _ au,s2.2 _ au];exact g1
 have V:S4.h.get S1.nx=jf [f,je ((0:Nat):Int)]:=by rw[k4 _ au,s3.2 _ au];exact g2
 have s:=fun {c} (d:aM f=some c)=>dP hl d;have W:uC S4 S1.nx f dl:=⟨au,⟨0,V,Ck _⟩,hl.same G,fun e=>by have:=s e;omega,bb⟩;have f0:=cH (p:=0) E rfl;refine gH (ff @bE @bF @aB @aA f0 ?_);refine bK (ae ?_);refine aW (mJ H W (n:=5) az az) ?_;rintro _ S5 ⟨x5,aa,y,rfl,y1,y2⟩;have wy:IntKind.i64.wrap (1+y)=((1+y.toNat:Nat):Int):=by rw[wrap_i64 au au];omega
 refine de wy ?_;have n5:=x5.1;have k5:∀c,c<S4.nx->c≠S1.nx->S5.h.get c=S4.h.get c:=x5.2;refine bB (Q:=fun o A' X=>o= .normal/\GmI S S.nx S1.nx w.nx f dl ps most zero 0 A' X) (aO (bX (GmI S S.nx S1.nx w.nx f dl ps most zero) ?_ (1+y.toNat) _ _ ⟨rfl,au,⟨au,fun c d=>(k5 c au au).trans (G.2 c d)⟩,(k5 _ au au).trans U,.ct,[],(k5 _ au au).trans E,aa,mL.none,fun c d=>(by cases d),fun p I=>(by cases I),by show 0+(1+y.toNat)<=5;omega,by refine⟨?_,?_,?_,?_⟩<;>simp only[↓sU,sD,rE,↓reduceIte,rA]⟩)) ?_
 .clear f0 W V U E k4 aa x5 k5 G g1 g2 s1 s2 s3;rintro k ⟨F,inr⟩ X ⟨q0,J,sX,gX,t,LV,gm,hd,ha,q,A,L,p1,M,N,K⟩;simp only at q0 p1 M N K;subst q0;refine gH (de K ?_);rcases Ci k with be|ao
  .subst be;refine aQ (by simp only[↓sU,sD,rE,↓reduceIte,rA];rfl) (bT ?_);refine ae ?_;exact⟨rfl,J,sX,gX,t,LV,gm,hd,ha,q,A,L,by refine⟨?_,?_,?_,?_⟩<;>simp only[↓sU,sD,rE,↓reduceIte,rA,p1,M,N,K]⟩
  refine aS im (aK ?_);refine ae ?_
  have wk:IntKind.i64.wrap ((k:Int) - 1)=((k - 1:Nat):Int):=by rw[wrap_i64 au au];omega
  refine aD (aO ?_);refine aPd (S:=S) (mb:=w.nx) (db:=S1.nx) (m:=mk0 f t dl ps most zero) (LV:=LV) (ps:=ps) H rfl gm J au hd ha sX.1 (fun c d=>⟨(q c d).2.1,(q c d).2.2.1,(q c d).2.2.2⟩) (fun c d=>by have:=s d;omega) (ah N) (ah p1) R au ?_;intro F' Z aw a b c O a1 a2 b1 b2 c1 c2 bj dZ aZ nZ kZ bZ;have r1:=O 1 au;have r8:=O 8 au;have r9:=O 9 au;have aI:=O 10 au;simp only[↓sU,sD,rE,↓reduceIte,rA,p1,M,N,K] at r1 r8 r9 aI;refine ae ?_
  refine aL (ew aI wk ?_);have nX:=sX.1;refine⟨k - 1,au,rfl,au,⟨au,fun j hj=>(kZ j au au au (fun e=>by have:=(ha.blk e).1;omega)).trans (sX.2 j hj)⟩,(kZ _ au au au (fun e=>(q _ e).1 rfl)).trans gX,aw,LV++ [(a,b,c)],bj,dZ,aZ,fun j hj=>?_,fun p I=>?_,by rw[Aj,Ba];omega,by refine⟨?_,?_,?_,?_⟩<;>simp only[↓sU,sD,rE,↓reduceIte,rA,r1,r8,r9]⟩
  .rcases bZ j hj with h|h
   .exact q j h
   .exact⟨au,au,au,fun e=>by have:=s e;omega⟩
  .rcases Bi.1 I with h|h
   .exact A p h
   .rw[Cc.1 h];exact⟨⟨a1,a2⟩,⟨b1,b2⟩,c1,by show c<=1000;omega⟩
 clear f0 W V U E k4 aa x5 k5 G g1 g2 s1 s2 s3;rintro o ⟨F,inr⟩ X ⟨rfl,q0,J,sX,gX,t,LV,gm,hd,ha,q,A,L,p1,M,N,_⟩;simp only at q0 p1 M N;subst q0;have nX:=sX.1;obtain⟨u,rfl⟩:∃u:Nat,ps=(u:Int):=⟨ps.toNat,au⟩;refine ae ?_
 refine cA (fo p1 N ?_);refine fW (pU (n:=u) (iz @aJ) (iz @aJ) ay ay) ?_;intro X1 x1 m1 g1;rw[repeatL_one] at g1
 refine bK (ae ?_);have bk:aG 3 PlE X t LV:=ha.is fun e a h=>h;have aV:nO (fun c=>c≠S.nx/\(S.nx<=c\/aM f=some c)) S X w.nx S1.nx (mk0 f t dl (u:Int) most zero) LV:=by
  have a0:∀c,c≠w.nx->c≠S1.nx->PB w.nx S1.nx (mk0 f t dl (u:Int) most zero) c:=fun c h1 h2=>⟨h1,h2,(by intro e;cases e),(by intro e;cases e),(by intro e;cases e)⟩;exact⟨⟨J,au,au,au,hd,fun c d=>⟨a0 c (by have:=s d;omega) (by have:=s d;omega),(by have:=s d;omega),.inr d⟩,bk,fun c d=>⟨a0 c (q c d).2.1 (q c d).2.2.1,(q c d).1,.inl (ha.blk d).1⟩,mL.none,mL.none,mL.none,fun c d=>(by cases d),fun c d=>(by cases d),fun c d=>(by cases d)⟩,gm⟩
 have bm:=aV.same x1;have a3:X1.h.get S.nx=jf [je 0,.ct,.ct]:=(x1.2 _ au).trans gX;have ab:xG (fun c=>PB w.nx S1.nx (mk0 f t dl (u:Int) most zero) c/\c≠S.nx/\(S.nx<=c\/aM f=some c)) X1 (.sl X.nx 0 u u false) (List.replicate u []):=by
  refine⟨.inr ⟨X.nx,0,u,false,List.replicate u .ct,by rw[Aq],by rw[Aq];exact Af _,au,by unfold cI;rw[g1];rfl,fun i a hi=>?_⟩,fun c d=>by cases d;exact⟨aV.p.fresh (Af _),au,.inl au⟩⟩;have a5:=(Ai.1 hi).1;rw[Aq] at a5;rw[Ch,if_pos a5] at hi;cases hi;refine⟨[.ct],rfl,fun j x hj=>?_,.ct,rfl,.inl ⟨rfl,.inl rfl⟩,fun c d=>by cases d⟩;cases j with
  | zero=>
   cases hj;rw[Am,Dm,Ch,if_pos au]
  | succ j=>simp at hj
 have hb:=aHj (S0:=S) (mb:=w.nx) (db:=S1.nx) (LV:=LV) H (fun p I=>by
  have⟨⟨a1,_⟩,⟨b1,b2⟩,c1,c2⟩:=A p I;exact⟨a1,b1,b2,c1,c2⟩) au LV.length 0 au X1 (fun c=>c≠S.nx/\(S.nx<=c\/aM f=some c)) (mk0 f t dl (u:Int) most zero) (.sl X.nx 0 u u false) (List.replicate u []) bm au ⟨⟨rfl,fun j v hv=>(by cases hv)⟩,fun j v hv=>(by cases hv),fun x C=>(by cases C),by show(0:Int)+1<=most;omega,by show(0:Int)<=1;omega,by show most<=1000;omega,Af _,R⟩ (by show(1:Int)<=1;omega) ab (by rw[Aq];rfl) (fun l hl=>by rw[List.eq_of_mem_replicate hl];exact Af _) (fun p I=>(A p I).1.2)
 refine aW hb ?_;rintro _ Y ⟨rfl,m',B,D,hT,hY,bY⟩
 have e0:m'.cg=B:=by have:=D.cg;rw[this];rfl
 have ep:m'.ps=(u:Int):=D.ps;have a8:=D.fit;have bw:m'.pend=0:=by rw[D.pend];rfl
 have bx:m'.most=most:=D.most;have bz:=D.il;have ba:=(bY.2 S.nx au ⟨au,au,(by intro e;cases e),(by intro e;cases e),(by intro e;cases e)⟩);have bn:=ba.1.trans a3;have bp:=aQj hY.g;have nY:=bY.1;refine cA (fh N M @bE @bF @aB @aA bp ?_);refine cQ (b:=S.nx) (cs':=[je m'.ps,m'.na,m'.ia]) (ah M) (by refine ae ?_;exact aY _) bn rfl rfl ?_;intro Z z1 z2 z3;have bq:=gK z3;refine ae ?_;refine aT (ez @dE M bq ?_);have P:nO (fun c=>(c≠S.nx/\(S.nx<=c\/aM f=some c))\/X1.nx<=c) S Z w.nx S1.nx m' LV:=hY.local z1.1 fun c d bs=>z1.2 c d fun e=>by
  rcases bs with h|h|h
  .exact h (by rw[e];exact ba.2)
  .exact h.1 e
  .omega
 have bv:Same S X1:=sX.trans x1;have sY:Same S Y:=⟨au,fun c d=>((bY.2 c au ⟨au,au,(by intro e;cases e),(by intro e;cases e),(by intro e;cases e)⟩).1).trans (bv.2 c d)⟩;refine⟨z1.same sY (Af _),⟨m'.ps,m'.cg,m'.ch⟩,m'.na,m'.ia,rfl,ep,?_,?_,?_,⟨⟨LV.length,au,by show tX LV.length 0 m'.cg;rw[e0];exact hT⟩,by
  show gJ (m'.cg.map lbl) m'.ch.length;rw[e0];have:=D.ord [] .nil
  rwa [Bw] at this⟩,P.p.nod.is fun e a ⟨xa,xw,xp,h1,h2,h3,h4,_⟩=>⟨xa,xw,xp,h1,h2,h3,h4⟩,P.p.inf.is fun e a h=>h,fun X' hn O=>?_⟩
 rotate_right
 .have ao:∀c,c<Z.nx->(PB w.nx S1.nx m' c/\((c≠S.nx/\(S.nx<=c\/aM f=some c))\/X1.nx<=c))->X'.h.get c=Z.h.get c/\True:=fun c d I=>⟨O c d (by
   rcases I.2 with h|h
   .exact h.2
   .exact .inl au),trivial⟩
  have a1:=P.p.nod.move (E':=aBs X' fun _=>True) hn (fun c d=>O c (P.p.nod.blk d).2 (.inl (P.p.nod.blk d).1)) fun e a hE=>aBs.move hE hn ao;have a2:=P.p.inf.move (E':=aIv) hn (fun c d=>O c (P.p.inf.blk d).2 (.inl (P.p.inf.blk d).1)) fun e a hE=>hE;exact⟨a1.is fun e a ⟨xa,xw,xp,h1,h2,h3,h4,_⟩=>⟨xa,xw,xp,h1,h2,h3,h4⟩,a2.is fun e a h=>h⟩
 rotate_right
 .intro x C;have C:x∈m'.cg:=C;rw[e0] at C;show kI m'.ps m'.ch x;rw[ep];exact D.ok x C
 .have bA:=hT.1;refine aIr (k:=LV.length) (by show 1<=m'.ps/\m'.ps<=4;rw[ep];exact R) (by show 1<=m'.cg.length/\m'.cg.length<=2000;rw[e0] at a8 ⊢;omega) (by show m'.ch.length<=200;omega) (fun x C=>?_) ?_ au ?_
  .have C:x∈m'.cg:=C;rw[e0] at C;show kI m'.ps m'.ch x;rw[ep];exact D.ok x C
  .show tX LV.length 0 m'.cg;rw[e0];exact hT
  .show gJ (m'.cg.map lbl) m'.ch.length;rw[e0];have:=D.ord [] .nil
   rwa [Bw] at this
 .show(m'.cg.length:Int)<=most;omega
end Go.Ev.Gl
