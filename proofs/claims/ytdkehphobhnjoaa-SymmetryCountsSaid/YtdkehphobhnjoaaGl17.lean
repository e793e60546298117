import Derived.Test.YtdkehphobhnjoaaGl16
open Nat renaming reduceEqDiff -> rE, reduceAdd -> rA
set_option maxHeartbeats 0
set_option linter.unusedSimpArgs false
set_option linter.unusedVariables false
namespace Go.Ev.Gl
variable {fns:T dU}
def aAE:cP:=⟨0,0,0,[],[],[]⟩
theorem aHc{A C:List cP}{x y:cP}:(A++ [y]++C).set A.length x=A++(x::C):=by
 rw[Bd,List.set_append_right _ _ (Ag _),Dn];rfl
theorem aOi{lev:Nat}{m m':Mk}{x:cP}(hp:aEr lev m)(hp1:1<=m.pend)(hx:aPZ m.ps x)(h1:m'.bk=m.bk++ [x])(h2:m'.bn=m.bn)(h3:m'.views=m.views)(h4:m'.most=m.most)(h5:m'.ps=m.ps)(h6:m'.pend=m.pend - 1):xZ m m' [x] 1 where
 bk:=h1
 ok:=fun y hy=>by rw[Ce.1 hy];exact .inl hx
 ord:=fun lab hl=>by
  have e:yO x=Option.none:=by unfold yO;rw[if_neg (by rw[hx.kind];decide)]
  rw[h2];show fQ (lab++ [yO x]) _;rw[e];exact .none hl
 inf:=⟨[],by rw[h2,Bi]⟩
 vws:=⟨[],by rw[h3,Bi]⟩
 vok:=⟨by rw[h2,h3];exact hp.vok.len,fun j v hv=>by rw[h3] at hv;rw[h2,h5];exact hp.vok.at_ j v hv⟩
 used:=fun j h7 h8=>by rw[h2] at h8;omega
 most:=h4
 ps:=h5
 pend:=h6
 fit:=by
  have:=hp.fit;rw[h1,h6,h4,Ai,Av];omega
 il:=by
  have:=hp.il;rw[h1,h2,Ai,Av];omega
structure aNX(lev:Nat)(m2 m3:Mk)(pl info fB:Int):Prop where
 bk:m3.bk=m2.bk
 most:m3.most=m2.most
 ps:m3.ps=m2.ps
 pend:m3.pend=m2.pend
 vok:aCL m3
 info0:0<=info
 many1:1<=fB/\fB<=3
 cases:(m3.bn=m2.bn/\m3.views=m2.views/\((pl<0/\info=0)\/(0<=pl/\m2.bn[info.toNat]? =some ⟨pl,fB⟩/\aBz m2 info)))\/(0<=pl/\info=(m2.bn.length:Int)/\m3.bn=m2.bn++ [⟨pl,fB⟩]/\m3.views=m2.views++ [(pl,(lev:Int),info)])
theorem aEK{lev:Nat}{m2 m3:Mk}{pl info fB:Int}(h:aNX lev m2 m3 pl info fB)(hnd:∀x∈m2.bk,x.kind=2->x.info<(m2.bn.length:Int)):
  ((pl<0\/info≠(m3.bn.length:Int) - 1\/aBz m3 info)->m3.bn=m2.bn/\m3.views=m2.views)/\((0<=pl/\info=(m3.bn.length:Int) - 1/\¬aBz m3 info)->m3.bn.dropLast=m2.bn/\m3.views.dropLast=m2.views):=by
 rcases h.cases with⟨h1,h2,h3⟩ | ⟨h1,h2,h3,h4⟩
 ·refine⟨fun _=>⟨h1,h2⟩,fun⟨a,b,c⟩=>?_⟩;rcases h3 with⟨h5,_⟩ | ⟨_,_,h5⟩
  ·omega
  ·exact absurd (by have⟨x,hx,hk⟩:=h5;exact⟨x,by rw[h.bk];exact hx,hk⟩) c
 ·refine⟨fun ho=>?_,fun _=>⟨by rw[h3,List.dropLast_concat],by rw[h4,List.dropLast_concat]⟩⟩;rcases ho with ho | ho | ho
  ·omega
  ·rw[h3,Ai,Av] at ho;omega
  ·have⟨x,hx,hk,hi⟩:=ho;rw[h.bk] at hx;have:=hnd x hx hk;omega
def iI(pl info:Int)(cs ws:bu):cP:=if pl<0 then⟨1,0,0,cs,ws,[]⟩ else⟨2,pl,info,cs,ws,[]⟩
theorem aNK{lev K:Nat}{m m2 m3 m5 mi m':Mk}{pl info fB:Int}{cs ws:bu}{C:List cP}{i:Nat}(hp:aEr lev m)(hp1:1<=m.pend)(hpl:pl<m.ps)(e2:m2.bk=m.bk++ [aAE]/\m2.bn=m.bn/\m2.views=m.views/\m2.most=m.most/\m2.ps=m.ps/\m2.pend=m.pend - 1)(hf:aNX lev m2 m3 pl info fB)(e5:m5.bk=m3.bk/\m5.bn=m3.bn/\m5.views=m3.views/\m5.most=m3.most/\m5.ps=m3.ps/\m5.pend=m3.pend+fB)(hb:xZ m5 mi C (i:Int))(hi:(i:Int)=fB)(hcs:cs.length=i)(hft:aEc K m5.bk.length cs C)(hws:(pl<0->ws.length=i/\∀w∈ws,1<=w/\w<=3)/\(¬pl<0->ws= []))
  (h1:m'.bk=mi.bk.set m.bk.length (iI pl info cs ws)) (h2:m'.bn=mi.bn) (h3:m'.views=mi.views) (h4:m'.most=mi.most) (h5:m'.ps=mi.ps) (h6:m'.pend=mi.pend):xZ m m' (iI pl info cs ws::C) 1/\rX (K+1) m.bk.length (iI pl info cs ws::C):=by
 have⟨a1,a2,a3,a4,a5,a6⟩:=e2;have⟨c1,c2,c3,c4,c5,c6⟩:=e5;have hN:mi.bk=m.bk++ [aAE]++C:=by rw[hb.bk,c1,hf.bk,a1]
 have hN':m'.bk=m.bk++(iI pl info cs ws::C):=by rw[h1,hN,aHc]
 have hm1:=hf.many1;have hi0:=hf.info0;have⟨I5,hI5⟩:=hb.inf;have⟨V5,hV5⟩:=hb.vws;have hil:∃I,m5.bn=m.bn++I:=by
  rcases hf.cases with⟨b1,_,_⟩ | ⟨_,_,b1,_⟩
  ·exact⟨[],by rw[c2,b1,a2,Bi]⟩
  ·exact⟨_,by rw[c2,b1,a2]⟩
 have hvl:∃V,m5.views=m.views++V:=by
  rcases hf.cases with⟨_,b1,_⟩ | ⟨_,_,_,b1⟩
  ·exact⟨[],by rw[c3,b1,a3,Bi]⟩
  ·exact⟨_,by rw[c3,b1,a3]⟩
 have⟨I,hI⟩:=hil;have⟨V,hV⟩:=hvl;have hps:mi.ps=m.ps:=by rw[hb.ps,c5,hf.ps,a5]
 have hnext:(iI pl info cs ws).next=cs:=by unfold iI;split<;>rfl
 have hok:jQ m.ps mi.bn (iI pl info cs ws):=by
  unfold iI;by_cases hpn:pl<0
  ·rw[if_pos hpn];have⟨w1,w2⟩:=hws.1 hpn;exact .inr (.inl ⟨rfl,rfl,rfl,rfl,by show 1<=cs.length;omega,by show cs.length<=3;omega,by show ws.length=cs.length;omega,w2⟩)
  ·rw[if_neg hpn];have hat:mi.bn[info.toNat]? =some ⟨pl,(cs.length:Int)⟩:=by
    rw[hcs,hi,hI5];rcases hf.cases with⟨b1,_,b3⟩ | ⟨_,b2,b1,_⟩
    ·rcases b3 with⟨b3,_⟩ | ⟨_,b3,_⟩
     ·exact absurd b3 hpn
     ·rw[c2,b1,Al (Aj.1 b3).1];exact b3
    ·rw[c2,b1,b2,Ax,Al (by simp),Am (Ag _),Dn];rfl
   exact .inr (.inr ⟨rfl,hws.2 hpn,rfl,by show 1<=cs.length;omega,by show cs.length<=3;omega,⟨by show 0<=pl;omega,hpl⟩,hi0,hat⟩)
 refine⟨⟨hN',fun x hx=>?_,fun lab hl=>?_,⟨I++I5,by rw[h2,hI5,hI,Bd]⟩,⟨V++V5,by rw[h3,hV5,hV,Bd]⟩,⟨by rw[h2,h3];exact hb.vok.len,fun j v hv=>by rw[h3] at hv;rw[h2,h5];exact hb.vok.at_ j v hv⟩,fun j j1 j2=>?_,by rw[h4,hb.most,c4,hf.most,a4],by rw[h5,hps],by rw[h6,hb.pend,c6,hf.pend,a6];omega,?_,?_⟩,?_⟩
 ·rw[h2];rcases Bm.1 hx with rfl | hx
  ·exact hok
  ·have:=hb.ok x hx;rw[c5,hf.ps,a5] at this;exact this
 ·rw[h2];have hl5:fQ (lab++ [yO (iI pl info cs ws)]) m5.bn.length:=by
   rcases hf.cases with⟨b1,_,b3⟩ | ⟨b0,b2,b1,_⟩
   ·rw[c2,b1,a2];rcases b3 with⟨b3,_⟩ | ⟨b3,b4,_⟩
    ·have e:yO (iI pl info cs ws)=Option.none:=by unfold iI;rw[if_pos b3];rfl
     rw[e];exact .none hl
    ·have e:yO (iI pl info cs ws)=some info.toNat:=by unfold iI;rw[if_neg ay];rfl
     rw[e];have:=(Aj.1 b4).1;rw[a2] at this;exact .old hl this
   ·have e:yO (iI pl info cs ws)=some info.toNat:=by unfold iI;rw[if_neg ay];rfl
    rw[e,c2,b1,b2,Ax,a2,Ai,Av];exact .new hl
  have:=hb.ord _ hl5;rw[Bd] at this;exact this
 ·rw[h2] at j2;by_cases hj:j<m5.bn.length
  ·rcases hf.cases with⟨b1,_,_⟩ | ⟨b0,b2,b1,_⟩
   ·rw[c2,b1,a2] at hj;omega
   ·rw[c2,b1,a2,Ai,Av] at hj;refine⟨_,Br ..,?_,?_⟩
    ·unfold iI;rw[if_neg ay]
    ·unfold iI;rw[if_neg ay];show info=_;rw[b2,a2];omega
  ·have⟨x,hx,hk⟩:=hb.used j ay j2;exact⟨x,Bj _ hx,hk⟩
 ·have:=hb.fit;rw[hN',h6,h4];rw[hN] at this;simp only[Ai,Aw,Ci] at this ⊢;omega
 ·have:=hb.il;rw[hN',h2];rw[hN] at this;simp only[Ai,Aw,Ci] at this ⊢;omega
 ·refine rX.node ?_;rw[hnext];have e:m5.bk.length=m.bk.length+1:=by rw[c1,hf.bk,a1,Ai];rfl
  rw[<-e];exact hft
theorem aML{lev:Nat}{m m2 m3 m5:Mk}{pl info fB:Int}(hp:aEr lev m)(hp1:1<=m.pend)(e2:m2.bk=m.bk++ [aAE]/\m2.bn=m.bn/\m2.views=m.views/\m2.most=m.most/\m2.ps=m.ps/\m2.pend=m.pend - 1)(hf:aNX lev m2 m3 pl info fB)(e5:m5.bk=m3.bk/\m5.bn=m3.bn/\m5.views=m3.views/\m5.most=m3.most/\m5.ps=m3.ps/\m5.pend=m3.pend+fB)(hfit:(m.bk.length:Int)+1+(m.pend - 1)+fB<=m.most):aEr (lev+1) m5:=by
 have⟨a1,a2,a3,a4,a5,a6⟩:=e2;have⟨c1,c2,c3,c4,c5,c6⟩:=e5;have hm1:=hf.many1;have hN:m5.bk=m.bk++ [aAE]:=by rw[c1,hf.bk,a1]
 have hil:=hp.il;have hlen5:m.bn.length<=m5.bn.length/\m5.bn.length<=m.bn.length+1:=by
  rcases hf.cases with⟨b1,_,_⟩ | ⟨_,_,b1,_⟩
  ·rw[c2,b1,a2];omega
  ·rw[c2,b1,a2,Ai,Av];omega
 refine⟨⟨by rw[c2,c3];exact hf.vok.len,fun j v hv=>by rw[c3] at hv;rw[c2,c5];exact hf.vok.at_ j v hv⟩,fun j v hv=>?_,fun x hx hk=>?_,by rw[hN,c4,hf.most,a4,c6,hf.pend,a6,Ai,Av];omega,by rw[c6,hf.pend,a6];omega,by rw[c4,hf.most,a4];exact hp.most,by rw[hN,Ai,Av];omega,by rw[c5,hf.ps,a5];exact hp.ps⟩
 ·rw[c3] at hv;have old:m.views[j]? =some v->v.2.1<((lev+1:Nat):Int)\/aBz m5 v.2.2:=fun h=>(hp.lv j v h).elim (fun h=>.inl ay) fun h=>.inr (h.mono hN);rcases hf.cases with⟨_,b1,_⟩ | ⟨_,_,_,b1⟩
  ·rw[b1,a3] at hv;exact old hv
  ·rw[b1,a3] at hv;by_cases hj:j<m.views.length
   ·rw[Al hj] at hv;exact old hv
   ·rw[Am ay] at hv;have h0:j - m.views.length=0:=by
     rcases Bk (j - m.views.length) with h | h
     ·exact h
     ·rw[Bz (by simp;omega)] at hv;cases hv
    rw[h0] at hv;cases hv;exact .inl (by show(lev:Int)<_;omega)
 ·rw[hN] at hx;rcases Bf.1 hx with h | h
  ·have:=hp.nd x h hk;omega
  ·rw[Ce.1 h] at hk;cases hk
theorem aGf{c:AC}{F:Fr}{S:St}{Q:Out->bS->St->Prop}(Φ:Fr->Prop)(h0:Φ F)(h:∀F',Φ F'->lU fns c ⟨F',false⟩ S Q):lU fns c ⟨F,false⟩ S Q:=h F h0
theorem aSc{F:Fr}{h:Ev.T AB}:gT (.build [.int .i64 0,.int .i64 0,.int .i64 0,.cb,.cb,.cb] []) F h=some (.agg [.int .i64 0,.int .i64 0,.int .i64 0,.cb,.cb,.cb]):=rfl
theorem aSd{F:Fr}{h:Ev.T AB}{pl info:Int}(h128:aD 128 F= .int .i64 pl)(h129:aD 129 F= .int .i64 info):gT (.build [.int .i64 0,.int .i64 0,.int .i64 0,.cb,.cb,.cb] [(0,1,.c (.int .i64 2)),(1,1,.t 128),(2,1,.t 129)]) F h=some (.agg [.int .i64 2,.int .i64 pl,.int .i64 info,.cb,.cb,.cb]):=by
 show(bH (eZ _ (eH F [(0,1,.c (.int .i64 2)),(1,1,.t 128),(2,1,.t 129)])) fun cs=>some (AV.agg cs))=_;simp only[eH,show(cU.t 128).val F= .int .i64 pl from h128,show(cU.t 129).val F= .int .i64 info from h129,aGx,eZ,cH,aN];rfl
theorem aKg{k i b p:Nat}{v:AV}(h:fC (.slice k) v i=some (.ptr b p)):aX v=some b:=by
 cases v with
 | sl b' off len cap o=>
  have h:cB (Nat.blt i len) (some (AV.ptr b' (off+i * k))) none=some (.ptr b p):=h;cases hh:Nat.blt i len with
  | true=>rw[hh,aO] at h;cases h;rfl
  | false=>rw[hh,aT] at h;cases h
 | _=>cases h
noncomputable def aMJ:List AO:=[mt 195 0,
om 196 1 (.cg (.t 195)),
om 197 3 (.cr 7 (.t 196)),
om 198 7 (.cr 1 (.t 197)),
om 199 15 (ld 198),
mt 200 7,
oq 201 (.ld true 6 (.t 11)),
om 202 127 (.cn (.slice 6) (.t 199) (.t 200))]
def aN6(P:Nat->Prop)(S0 X:St)(mb db:Nat)(LV:List (Int×Int×Int))(lev:Nat)(m:Mk)(Z:St):Prop:=∃m' B,xZ m m' B 1/\rX (LV.length - lev) m.bk.length B/\mS (fun c=>P c\/X.nx<=c) S0 Z mb db m' LV/\fP mb db m X m' Z
theorem aGg{P:Nat->Prop}{S0 X Y:St}{mb db lev:Nat}{LV:List (Int×Int×Int)}{m m4:Mk}(H:Has fns)(hpre:aEr lev m)(hp1:1<=m.pend)(hY:mS P S0 Y mb db m4 LV)(bY:fP mb db m X m4 Y)(e:m4.bk=m.bk++ [aAE]/\m4.bn=m.bn/\m4.views=m.views/\m4.most=m.most/\m4.ps=m.ps/\m4.pend=m.pend - 1):
  gH fns (.fn 85 [] []) [.ptr mb 0,.int .i64 (m.bk.length:Int)] Y fun _ Z=>aN6 P S0 X mb db LV lev m Z:=by
 have⟨e1,e2,e3,e4,e5,e6⟩:=e;refine aQ (aKr H hY (show m.bk.length<m4.bk.length by rw[e1,Ai];simp) (by rw[e5];exact hpre.ps)) ?_;rintro r Z ⟨x,hx,hZ,bZ⟩;rw[e5] at hx;have hset:m4.bk.set m.bk.length x=m.bk++ [x]:=by
  have:=aHc (A:=m.bk) (C:=[]) (x:=x) (y:=aAE);rw[Bi] at this;rw[e1];exact this
 exact⟨{m4 with bk:=m4.bk.set m.bk.length x},[x],aOi hpre hp1 hx hset e2 e3 e4 e5 e6,rX.end_ hx.next,hZ.mono fun c _ h=>h.elim (fun h=>.inl h) fun h=>.inr (Au bY.1 h),bY.trans bZ⟩
theorem aDj{S0:St}{mb db lev:Nat}{LV:List (Int×Int×Int)}(H:Has fns)(hLV:∀p∈LV, -1<=p.1/\2<=p.2.1/\p.2.1<=3/\0<=p.2.2/\p.2.2<=1000)(hLl:LV.length<=700)(hle:lev<=LV.length)(hIH:lev<LV.length->aCM fns S0 mb db LV (lev+1)):aCM fns S0 mb db LV lev:=by
 intro X P m v rows hM hS hpre hp1 hseen hrn hrl hLP;have hfit:=hpre.fit;have hmost:=hpre.most;have hil:=hpre.il;have hps:=hpre.ps;have hvl:=hpre.vok.len;have f8:=cV (p:=8) hM.g rfl;have f4:=cV (p:=4) hM.g rfl;have wP:IntKind.i64.wrap (m.pend - 1)=m.pend - 1:=wrap_i64 ay ay;refine cF H.f78 (by simp) ?_;refine af ?_;refine bQ (af ?_);refine bQ (du @aY @bB @aF @aE f8 hM.p.nod.len ?_);refine bQ (du @aY @bB @aF @aE f4 wP ?_);refine fD (v:=.undef) (S1:=⟨X.h.set mb (some (.cells (eI db {m with pend:=m.pend - 1}) false 0)),X.nx⟩) (fun call=>by refine df @dS @cH ?_;exact stc (cs:=eI db m) (p:=4) (S:=X) hM.g (ay:4<10)) ?_;refine af ?_;obtain⟨X1,hX1⟩:∃Z:St,Z=⟨X.h.set mb (some (.cells (eI db {m with pend:=m.pend - 1}) false 0)),X.nx⟩:=⟨_,rfl⟩;have hM1:mS P S0 X1 mb db {m with pend:=m.pend - 1} LV:=(hM.p.keep (m':={m with pend:=m.pend - 1}) (X':=X) (Ag _) (fun _ _ _ _=>rfl) hM.p.dr rfl rfl rfl rfl rfl rfl rfl rfl rfl).1.put (by rw[hX1];simp only;rw[dd,if_pos rfl]) (by rw[hX1];exact Ag _) fun c _ hne=>by rw[hX1];simp only;rw[dd,if_neg hne]
 have k1:fP mb db m X {m with pend:=m.pend - 1} X1:=(hM.p.keep (m':={m with pend:=m.pend - 1}) (X':=X) (Ag _) (fun _ _ _ _=>rfl) hM.p.dr rfl rfl rfl rfl rfl rfl rfl rfl rfl).2.trans (by rw[hX1];exact fP.put);rw[<-hX1];have f81:=cV (p:=8) hM1.g rfl;have hbl:=fun(F:Fr) (h:Ev.T AB)=>aSc (F:=F) (h:=h);refine bQ (ec @aY @bB @aF @aE f81 hbl ?_);refine gO (aGh (by simp only[↓aC,aB,rE,↓reduceIte,rA];rfl)) ?_;intro X2 x2 n2 g2;have hM2:=hM1.same x2;have⟨v',X3,eA,aV,nV,kV,bV⟩:=hM2.p.nod.push (bytes:=96) (x:=.sl X1.nx 0 1 1 false) (a:=aAE) bg (az k1.1) rfl (aNr g2 rfl) rfl ⟨.cb,.cb,.cb,rfl,.inl ⟨rfl,.inl rfl⟩,.inl ⟨rfl,.inl rfl⟩,.inl ⟨rfl,.inl rfl⟩,fun c hc=>by rcases hc with h | h | h<;>cases h⟩ (by show m.bk.length+1<=room;unfold room;omega) (by show(m.bk.length+1) * 96<=room;unfold room;omega);refine fD (fun call=>by refine dz @fY ?_;exact eA) ?_;refine d8 @aY @bB @aF @aE ?_;have⟨kP,kM⟩:=hM2.p.pushN nV kV bV aV;have gm3:X3.h.get mb=some (.cells (eI db {m with pend:=m.pend - 1}) false 0):=(kV mb hM2.p.lt fun e=>(hM2.p.d1 mb e).1 rfl).trans hM2.g;refine fD (v:=.undef) (S1:=⟨X3.h.set mb (some (.cells (eI db {m with pend:=m.pend - 1,na:=v',bk:=m.bk++ [aAE]}) false 0)),X3.nx⟩) (fun call=>by refine d7 @dS aV.cells @aN ?_;exact stc (cs:=eI db {m with pend:=m.pend - 1}) (p:=8) (S:=X3) gm3 (ay:8<10)) ?_;refine aq ?_;obtain⟨X4,hX4⟩:∃Z:St,Z=⟨X3.h.set mb (some (.cells (eI db {m with pend:=m.pend - 1,na:=v',bk:=m.bk++ [aAE]}) false 0)),X3.nx⟩:=⟨_,rfl⟩;have hM4:mS P S0 X4 mb db {m with pend:=m.pend - 1,na:=v',bk:=m.bk++ [aAE]} LV:=kP.put (by rw[hX4];simp only;rw[dd,if_pos rfl]) (by rw[hX4];exact Ag _) fun c _ hne=>by rw[hX4];simp only;rw[dd,if_neg hne]
 have k4:fP mb db m X {m with pend:=m.pend - 1,na:=v',bk:=m.bk++ [aAE]} X4:=((k1.trans (fP.same x2)).trans kM).trans (by rw[hX4];exact fP.put);rw[<-hX4];clear hX4 gm3 kP kM kV nV bV eA aV hM2 g2 n2 x2 f81 hX1 k1 hM1;obtain⟨m2,hm2⟩:∃m2:Mk,m2= {m with pend:=m.pend - 1,na:=v',bk:=m.bk++ [aAE]}:=⟨_,rfl⟩;rw[<-hm2] at hM4 k4;have E2:m2.bk=m.bk++ [aAE]/\m2.bn=m.bn/\m2.views=m.views/\m2.most=m.most/\m2.ps=m.ps/\m2.pend=m.pend - 1:=by rw[hm2];exact⟨rfl,rfl,rfl,rfl,rfl,rfl⟩
 clear hm2;refine aGf (fun F=>aD 0 F= .ptr mb 0/\aD 1 F= .int .i64 (lev:Int)/\aD 2 F=v/\aD 7 F= .int .i64 (m.bk.length:Int)) (by refine⟨?_,?_,?_,?_⟩<;>simp only[↓sU,sD,rE,↓reduceIte,rA]) ?_;rintro F ⟨p0,p1,p2,p7⟩;have f1:=cV (p:=1) hM4.g rfl;have f0:=cV (p:=0) hM4.g rfl;refine fE ?_;by_cases hlv:(lev:Int)=(LV.length:Int)
 ·simp only[↓sU,sD,rE,↓reduceIte,rA,p0,p1,aY,bB,aF,aE,f1,hM4.p.lev.len,Ah,Ab hlv];refine aM (ag) ?_;refine bQ (df p0 p7 ?_);refine bE (af ?_);refine aQ (aGg H hpre hp1 hM4 k4 E2) ?_;intro r Z hZ;refine bQ (cm p7 ?_);refine aR (af ?_);exact hZ
 simp only[↓sU,sD,rE,↓reduceIte,rA,p0,p1,aY,bB,aF,aE,f0,f1,hM4.p.lev.len,Ah,Aa hlv];refine bE (af ?_);refine aQ (nH H hM4.p.dr (n:=8) bg bg) ?_;rintro _ X5 ⟨s5,d5,y,rfl,_,_⟩;have⟨hM5,b5⟩:=hM4.drawn s5 d5;have k5:=k4.trans b5;clear hM4 k4 b5 s5 d5;by_cases hy:y=1
 ·refine cm (Ab hy) ?_;refine aM (ag) ?_;refine bQ (df p0 p7 ?_);refine bE (af ?_);refine aQ (aGg H hpre hp1 hM5 k5 E2) ?_;intro r Z hZ;refine bQ (cm p7 ?_);refine aR (af ?_);exact hZ
 refine cm (Aa hy) ?_;refine aK (ag) (aH ?_);refine af ?_;have hlt:lev<LV.length:=by omega
 have hIH:=hIH hlt;obtain⟨pl,mn,sn,hpe⟩:∃pl mn sn,LV[lev]? =some (pl,mn,sn):=⟨_,_,_,Ac hlt⟩;have hmem:(pl,mn,sn)∈LV:=Bu hpe;have⟨q1,q2,q3,q4,q5⟩:=hLV _ hmem;have q6:=hLP _ hmem;simp only at q1 q2 q3 q4 q5 q6;refine aGf (fun F=>aD 0 F= .ptr mb 0/\aD 1 F= .int .i64 (lev:Int)/\aD 2 F=v/\aD 7 F= .int .i64 (m.bk.length:Int)) (by refine⟨?_,?_,?_,?_⟩<;>simp only[↓sU,sD,rE,↓reduceIte,rA,p0,p1,p2,p7]) ?_;clear p0 p1 p2 p7 F f1 f0;rintro F ⟨p0,p1,p2,p7⟩;have f1:=cV (p:=1) hM5.g rfl;have⟨ep,bl,ql,hial,_,_,hple,hldl,_⟩:=aP.at hM5.p.lev bg hpe;have hple:ep= [.int .i64 pl,.int .i64 mn,.int .i64 sn]:=hple;subst hple;refine bQ ?_;simp only[↓aC,aB,rE,↓reduceIte,rA,p0,p1,aY,bB,aF,aE,f1,aJ,hial,hldl];refine dC ?_;intro W1 v1 n1 h1;refine eS (b:=X5.nx) (ar) (by refine aq ?_;exact bL _) h1 rfl rfl ?_;intro X6 v2 n2 h2;refine aq ?_;have s56:Same X5 X6:=v2.same v1 (Ag _);have hM6:=hM5.same s56;have k6:=k5.trans (fP.same s56);have ltb:X5.nx<X6.nx:=by omega
 have ptb:PB mb db m2 X5.nx:=hM5.p.fresh (Ag _);have xtb:X.nx<=X5.nx:=k5.1;have t0:=cV (p:=0) h2 rfl;have t1:=cV (p:=1) h2 rfl;clear v1 v2 n1 n2 h1 W1 s56 hM5 k5 f1 hial hldl;generalize X5.nx=tb at *;refine bQ (dh @aF @aE t1 ?_);have⟨E2a,E2b,E2c,E2d,E2e,E2f⟩:=id E2;have hnd2:∀x∈m2.bk,x.kind=2->x.info<(m2.bn.length:Int):=fun x hx hk=>by
  rw[E2a] at hx;rw[E2b];rcases Bf.1 hx with h | h
  ·exact hpre.nd x h hk
  ·rw[Ce.1 h] at hk;cases hk
 have hv2:aCL m2:=⟨by rw[E2b,E2c];exact hvl,fun j w hw=>by rw[E2c] at hw;rw[E2b,E2e];exact hpre.vok.at_ j w hw⟩;refine aA (aW (Q:=fun o A' Z=>o= .normal/\A'.inr=false/\∃m3 info fB,aNX lev m2 m3 pl info fB/\mS P S0 Z mb db m3 LV/\fP mb db m2 X6 m3 Z/\aD 0 A'.F= .ptr mb 0/\aD 1 A'.F= .int .i64 (lev:Int)/\aD 2 A'.F=v/\aD 7 A'.F= .int .i64 (m.bk.length:Int)/\aD 8 A'.F= .ptr tb 0/\aD 9 A'.F= .int .i64 fB/\aD 10 A'.F= .int .i64 info) (aA (aG ?_)) ?_)
 ·refine dh @aF @aE t0 ?_;by_cases hpn:0<=pl;rotate_left
  ·refine aK (fg (Aa (show ¬pl≥0 from hpn))) (aH ?_);refine dk p0 p1 p2 p7 ?_;exact⟨m2,0,mn,⟨rfl,rfl,rfl,rfl,hv2,ay,⟨ay,q3⟩,.inl ⟨rfl,rfl,.inl ⟨ay,rfl⟩⟩⟩,hM6,fP.refl,rfl,rfl⟩
  refine aM (fg (Ab (show pl≥0 from hpn))) ?_;obtain⟨pn,rfl⟩:∃pn:Nat,pl=(pn:Int):=⟨pl.toNat,ay⟩;have hpr:pn<rows.length:=by omega
  have hs6:uU (fun c=>PB mb db m2 c/\P c) X6 v rows:=hseen.move k6.1 fun c hc hp=>⟨(k6.2 c hc hp.1).1,(k6.2 c hc hp.1).2,hp.2⟩;obtain⟨_,br,qr,hia,lbr,_,⟨a,rfl,hrow,hrb⟩,_,hlf⟩:=aP.at hs6.rows bg (wQ hpr);have hld:=hlf 0 a rfl;rw[Bh] at hld;have pbr:=(hs6.out br (aKg hia)).1;have sa:=bO.self hrow;have hrlen:(rows.getD pn []).length<=lev:=hrl _ (by rw[Ad,Ac hpr];exact Bo hpr);have hx6:=k6.1;refine aA (dO (fun c=>¬PB mb db m2 c) ?_);intro X7 x7;simp only[↓sU,sD,rE,↓reduceIte,rA,p0,p1,p2,aF,aU,aE,t0,aJ,hia,hld,sa,ltb,lbr,ptb,pbr,Dg,Ap];refine lL rfl ?_;refine af ?_;refine aQ (aLe (l:=rows.getD pn []) H (hM6.same x7) (by have h9:X6.nx<=X7.nx:=x7.1;show S0.nx<=X7.nx;omega) (hrow.same x7) ay hrb (by rw[E2c];omega) (by rw[E2b];omega)) ?_;intro r Z hZ;have offw:∀ {m3},fP mb db m2 X7 m3 Z->aGG (fun c=>¬PB mb db m2 c) X6.nx X7 Z:=fun {m3} b=>⟨b.1,fun c hc hn=>(b.2 c (az x7.1) (Classical.not_not.1 hn)).1⟩;rcases hZ with⟨sZ,i,vw,hvi,e1,e2,rfl⟩ | ⟨va',ia',a',a1,a2,rfl,hMZ,bZ⟩
  ·refine⟨offw (fP.same sZ),?_⟩;have hMZ:=(hM6.same x7).same sZ;have f9:=cV (p:=9) hMZ.g rfl;have⟨ei,_,_,a3,hinf,a31,a32⟩:=hv2.at_ i vw hvi;have hI:aP 2 cW Z m2.ia m2.bn:=hMZ.p.inf.is fun e a h=>h;have⟨ee,bi,qi,hii,_,_,hei,_,hfi⟩:=aP.at hI bg hinf;have hei:ee= [.int .i64 vw.1,.int .i64 a3]:=hei;subst hei;have l1:=hfi 1 _ rfl;have hu:aBz m2 ((i:Nat):Int):=by
    have:=hpre.lv i vw (by rw[<-E2c];exact hvi);rw[ei] at this;rcases this with h | h
    ·omega
    ·exact h.mono E2a
   refine cm ei ?_;refine aG ?_;simp only[↓sU,sD,rE,↓reduceIte,rA,p0,aY,bB,aF,aE,f9,aJ,hii,l1,p1,p2,p7];exact⟨m2,(i:Int),a3,⟨rfl,rfl,rfl,rfl,hv2,ay,⟨a31,a32⟩,.inl ⟨rfl,rfl,.inr ⟨hpn,by rw[Ax,hinf,e1],hu⟩⟩⟩,hMZ,fP.same (x7.trans sZ),rfl,rfl⟩
  ·refine⟨offw bZ,?_⟩;have f9:=cV (p:=9) hMZ.g rfl;have hinf:(m2.bn++ [(⟨(pn:Int),a'⟩:iS)])[m2.bn.length]? =some ⟨(pn:Int),a'⟩:=by rw[Am (Ag _),Dn];rfl
   have hI:aP 2 cW Z ia' (m2.bn++ [(⟨(pn:Int),a'⟩:iS)]):=hMZ.p.inf.is fun e a h=>h;have⟨ee,bi,qi,hii,_,_,hei,_,hfi⟩:=aP.at hI bg hinf;have hei:ee= [.int .i64 (pn:Int),.int .i64 a']:=hei;subst hei;have l1:=hfi 1 _ rfl;refine aG ?_;simp only[↓sU,sD,rE,↓reduceIte,rA,p0,aY,bB,aF,aE,f9,aJ,hii,l1,p1,p2,p7];refine⟨{m2 with va:=va',ia:=ia',views:=m2.views++ [((pn:Int),(lev:Int),(m2.bn.length:Int))],bn:=m2.bn++ [(⟨(pn:Int),a'⟩:iS)]},(m2.bn.length:Int),a',⟨rfl,rfl,rfl,rfl,⟨by simp [hv2.len],fun j w hw=>?_⟩,ay,⟨a1,a2⟩,.inr ⟨hpn,rfl,rfl,rfl⟩⟩,hMZ,(fP.same x7).trans bZ,rfl,rfl⟩;have hw:(m2.views++ [((pn:Int),(lev:Int),(m2.bn.length:Int))])[j]? =some w:=hw;show w.2.2=(j:Int)/\0<=w.1/\w.1<m2.ps/\∃a,(m2.bn++ [(⟨(pn:Int),a'⟩:iS)])[j]? =some ⟨w.1,a⟩/\1<=a/\a<=3;by_cases hj:j<m2.views.length
   ·rw[Al hj] at hw;have⟨w1,w2,w3,a4,w4,w5⟩:=hv2.at_ j w hw;exact⟨w1,w2,w3,a4,by rw[Al (by rw[<-hv2.len];exact hj)];exact w4,w5⟩
   ·rw[Am ay] at hw;have h0:j - m2.views.length=0:=by
     rcases Bk (j - m2.views.length) with h | h
     ·exact h
     ·rw[Bz (by simp;omega)] at hw;cases hw
    rw[h0] at hw;cases hw;have hjl:j=m2.bn.length:=by rw[<-hv2.len];omega
    subst hjl;exact⟨rfl,hpn,by rw[E2e];exact q6,a',hinf,a1,a2⟩
 clear p0 p1 p2 p7 F;rintro o ⟨F,inr⟩ X7 ⟨rfl,q0,m3,info,fB,hf,hM7,b7,p0,p1,p2,p7,p8,p9,p10⟩;simp only at q0 p0 p1 p2 p7 p8 p9 p10;subst q0;have k7:=k6.trans b7;have hm1:=hf.many1;have h2':X7.h.get tb=some (.cells [.int .i64 pl,.int .i64 mn,.int .i64 sn] false 0):=(b7.2 tb ltb ptb).1.trans h2;have ptb7:=(b7.2 tb ltb ptb).2;have ltb7:tb<X7.nx:=by have:=b7.1;omega
 have x7:=k7.1;have f3:=cV (p:=3) hM7.g rfl;have f4:=cV (p:=4) hM7.g rfl;have e3:m3.most=m.most:=hf.most.trans E2d;have e4:m3.pend=m.pend - 1:=hf.pend.trans E2f;have e5n:m3.bk.length=m.bk.length+1:=by rw[hf.bk,E2a,Ai];rfl
 have e6n:m3.bn.length<=m.bn.length+1:=by
  rcases hf.cases with⟨b1,_,_⟩ | ⟨_,_,b1,_⟩
  ·rw[b1,E2b];omega
  ·rw[b1,E2b,Ai,Av];omega
 have wA:IntKind.i64.wrap ((m.bk.length:Int)+1)=(m.bk.length:Int)+1:=wrap_i64 ay ay;have wB:IntKind.i64.wrap ((m.bk.length:Int)+1+m3.pend)=(m.bk.length:Int)+1+m3.pend:=wrap_i64 ay ay;have wC:IntKind.i64.wrap ((m.bk.length:Int)+1+m3.pend+fB)=(m.bk.length:Int)+1+m3.pend+fB:=wrap_i64 ay ay;refine af ?_;refine aA (aA (iJ ?_));simp only[↓sU,sD,rE,↓reduceIte,rA,p0,p7,p9,aY,bN,bB,aF,aU,aE,f3,f4,wA,wB,wC];generalize hX8:(⟨X7.h,X7.nx+_⟩:St)=X8;have s78:Same X7 X8:=by rw[<-hX8];exact Same.nx _ _
 clear hX8;have hM8:=hM7.same s78;have k8:=k7.trans (fP.same s78);have h28:=(s78.2 _ ltb7).trans h2';have ltb8:tb<X8.nx:=Ae ltb7 s78.1;by_cases hbig:(m.bk.length:Int)+1+m3.pend+fB>m3.most
 ·refine aM (fg (Ab hbig)) ?_;have t08:=cV (p:=0) h28 rfl;refine bQ (du p0 p8 p10 @aF @aE t08 ?_);refine bE (af ?_);refine aQ (aKv H hM8 hf.info0 hf.vok.len ay ay) ?_;intro r Z hZ;obtain⟨m4,hM9,k9,E4⟩:∃m4,mS P S0 Z mb db m4 LV/\fP mb db m X m4 Z/\(m4.bk=m.bk++ [aAE]/\m4.bn=m.bn/\m4.views=m.views/\m4.most=m.most/\m4.ps=m.ps/\m4.pend=m.pend - 1):=by
   rcases hZ with⟨ho,hZX⟩ | ⟨z1,z2,z3,va',ia',hMZ,bZ⟩
   ·have⟨w1,w2⟩:=(aEK hf hnd2).1 ho;rw[hZX];exact⟨m3,hM8,k8,hf.bk.trans E2a,w1.trans E2b,w2.trans E2c,e3,hf.ps.trans E2e,e4⟩
   ·have⟨w1,w2⟩:=(aEK hf hnd2).2 ⟨z1,z2,z3⟩;exact⟨_,hMZ,k8.trans bZ,hf.bk.trans E2a,w1.trans E2b,w2.trans E2c,e3,hf.ps.trans E2e,e4⟩
  refine bQ (df p0 p7 ?_);refine bE (af ?_);refine aQ (aGg H hpre hp1 hM9 k9 E4) ?_;intro r Z' hZ';refine bQ (cm p7 ?_);refine aR (af ?_);exact hZ'
 refine aK (fg (Aa hbig)) (aH ?_);refine af ?_;refine aGf (fun F=>aD 0 F= .ptr mb 0/\aD 1 F= .int .i64 (lev:Int)/\aD 2 F=v/\aD 7 F= .int .i64 (m.bk.length:Int)/\aD 8 F= .ptr tb 0/\aD 9 F= .int .i64 fB/\aD 10 F= .int .i64 info) (by refine⟨?_,?_,?_,?_,?_,?_,?_⟩<;>simp only[↓sU,sD,rE,↓reduceIte,rA,p0,p1,p2,p7,p8,p9,p10]) ?_;clear p0 p1 p2 p7 p8 p9 p10 F f3 f4;rintro F ⟨p0,p1,p2,p7,p8,p9,p10⟩;have f4:=cV (p:=4) hM8.g rfl;have wD:IntKind.i64.wrap (m3.pend+fB)=m3.pend+fB:=wrap_i64 ay ay;refine bQ (dy p0 p9 @aY @bB @aF @aE f4 wD ?_);refine fD (v:=.undef) (S1:=⟨X8.h.set mb (some (.cells (eI db {m3 with pend:=m3.pend+fB}) false 0)),X8.nx⟩) (fun call=>by refine df @dS @cH ?_;exact stc (cs:=eI db m3) (p:=4) (S:=X8) hM8.g (ay:4<10)) ?_;refine af ?_;obtain⟨X9,hX9⟩:∃Z:St,Z=⟨X8.h.set mb (some (.cells (eI db {m3 with pend:=m3.pend+fB}) false 0)),X8.nx⟩:=⟨_,rfl⟩;have hkp:=hM8.p.keep (m':={m3 with pend:=m3.pend+fB}) (X':=X8) (Ag _) (fun _ _ _ _=>rfl) hM8.p.dr rfl rfl rfl rfl rfl rfl rfl rfl rfl;have hM9:mS P S0 X9 mb db {m3 with pend:=m3.pend+fB} LV:=hkp.1.put (by rw[hX9];simp only;rw[dd,if_pos rfl]) (by rw[hX9];exact Ag _) fun c _ hne=>by rw[hX9];simp only;rw[dd,if_neg hne]
 have k89:fP mb db m3 X8 {m3 with pend:=m3.pend+fB} X9:=hkp.2.trans (by rw[hX9];exact fP.put);rw[<-hX9];clear hX9 hkp f4;obtain⟨m5,hm5⟩:∃m5:Mk,m5= {m3 with pend:=m3.pend+fB}:=⟨_,rfl⟩;rw[<-hm5] at hM9 k89;have E5:m5.bk=m3.bk/\m5.bn=m3.bn/\m5.views=m3.views/\m5.most=m3.most/\m5.ps=m3.ps/\m5.pend=m3.pend+fB:=by rw[hm5];exact⟨rfl,rfl,rfl,rfl,rfl,rfl⟩
 clear hm5;have k9:=k8.trans k89;have ptb8:PB mb db m3 tb:=ptb7;have h29:=(k89.2 tb ltb8 ptb8).1.trans h28;have ptb9:=(k89.2 tb ltb8 ptb8).2;have ltb9:tb<X9.nx:=Ae ltb8 k89.1;have hb1:=fun(F:Fr) (h:Ev.T AB)=>aQu (F:=F) (h:=h) (a:=1);refine bQ (dz hb1 ?_);refine dC ?_;intro W1 v1 n1 h1;refine eS (b:=X9.nx) (cs':=[.int .i64 1,.int .i64 0,.int .i64 0,.cb,.cb,.cb]) (ar) (by refine aq ?_;exact bL _) h1 rfl rfl ?_;intro X10 v2 n2 h10;refine aq ?_;have s910:Same X9 X10:=v2.same v1 (Ag _);have h210:=(s910.2 tb ltb9).trans h29;have t0:=cV (p:=0) h210 rfl;have lxb:X9.nx<X10.nx:=by omega
 clear v1 v2 n1 n2 h1 W1;refine aA (aW (Q:=fun o A' Z=>o= .normal/\A'.inr=false/\X10.nx<=Z.nx/\(∀c,c<X10.nx->c≠X9.nx->Z.h.get c=X10.h.get c)/\Z.h.get X9.nx=some (.cells [.int .i64 (if pl<0 then 1 else 2),.int .i64 (if pl<0 then 0 else pl),.int .i64 (if pl<0 then 0 else info),.cb,.cb,.cb] false 0)/\aD 0 A'.F= .ptr mb 0/\aD 1 A'.F= .int .i64 (lev:Int)/\aD 2 A'.F=v/\aD 7 A'.F= .int .i64 (m.bk.length:Int)/\aD 8 A'.F= .ptr tb 0/\aD 9 A'.F= .int .i64 fB/\aD 11 A'.F= .ptr X9.nx 0) (aA (aG ?_)) ?_)
 ·refine dk p8 @aF @aE t0 ?_;by_cases hpn:0<=pl
  ·rw[if_neg ay,if_neg ay,if_neg ay];refine aM (fg (Ab (show pl≥0 from hpn))) ?_;have hbm:=fun(F:Fr) (h:Ev.T AB) (a:aD 128 F= .int .i64 pl) (b:aD 129 F= .int .i64 info)=>aSd (F:=F) (h:=h) a b;refine aG (du p8 p10 @aF @aE t0 hbm ?_);refine eS (b:=X9.nx) (cs':=[.int .i64 2,.int .i64 pl,.int .i64 info,.cb,.cb,.cb]) (ag) (by refine af ?_;exact bL _) h10 rfl rfl ?_;intro Z z1 z2 z3;refine du p0 p1 p2 p7 p8 p9 ?_;exact⟨z1.1,z1.2,z3⟩
  ·rw[if_pos ay,if_pos ay,if_pos ay];refine aK (fg (Aa (show ¬pl≥0 from hpn))) (aH ?_);refine du p0 p1 p2 p7 p8 p9 ?_;exact⟨Ag _,fun _ _ _=>trivial,h10⟩
 clear p0 p1 p2 p7 p8 p9 p10 F;rintro o ⟨F,inr⟩ X11 ⟨rfl,q0,n11,k11,g11,p0,p1,p2,p7,p8,p9,p11⟩;simp only at q0 p0 p1 p2 p7 p8 p9 p11;subst q0;have pxb:PB mb db m5 X9.nx:=hM9.p.fresh (Ag _);have n910:=s910.1;have n9:=k9.1;have hM11:mS (fun c=>((P c/\c<X.nx)\/X.nx<=c)/\c≠X9.nx) S0 X11 mb db m5 LV:=by
  have h1:mS (fun c=>((P c/\c<X.nx)\/X.nx<=c)/\c≠X9.nx) S0 X10 mb db m5 LV:=(hM9.mono fun c hc h=>⟨(Cd c X.nx).elim (fun h'=>.inl ⟨h,h'⟩) fun h'=>.inr h',ay⟩).same s910;refine h1.local n11 fun c hc hor=>k11 c hc fun e=>?_;rcases hor with h | h
  ·exact h (by rw[e];exact pxb)
  ·exact h.2 e
 have frm:∀c,c<X.nx->PB mb db m c->X11.h.get c=X.h.get c/\PB mb db m5 c:=fun c hc hp=>⟨(k11 c ay ay).trans ((s910.2 c ay).trans (k9.2 c hc hp).1),(k9.2 c hc hp).2⟩;have hseen11:uU (fun c=>PB mb db m5 c/\(P c/\c<X.nx)) X11 v rows:=hseen.move ay fun c hc hp=>⟨(frm c hc hp.1).1,(frm c hc hp.1).2,hp.2,hc⟩;have h211:=(k11 tb ay ay).trans h210;obtain⟨mn',rfl⟩:∃mn':Nat,fB=(mn':Int):=⟨fB.toNat,ay⟩;have e5ps:m5.ps=m.ps:=E5.2.2.2.2.1.trans (hf.ps.trans E2e);have e5pd:m5.pend=m.pend - 1+(mn':Int):=by rw[E5.2.2.2.2.2,e4]
 refine af ?_;refine fE (af ?_);refine aIm (P:=fun c=>P c/\c<X.nx) (X:=X) (tb:=tb) (xb:=X9.nx) (m1:=m5) (pl:=pl) (mn:=mn) (sn:=sn) (fB:=mn') (lev:=lev) H hIH (fun c h=>h.2) ay hM11 hS (aML hpre hp1 E2 hf E5 ay) ay ay ay (fun p hp=>by rw[e5ps];exact hLP p hp) hseen11 (by rw[e5ps];exact hrn) hrl ay ay ay ay  ptb9 pxb h211 g11 ⟨q4,q5⟩ (ai p0) (ai p1) (ai p2) (ai p8) (ai p9) (ai p11) (ah) ?_;intro F' Y mi cs C ws xa xw hk hR;have r0:=hk 0 ay;have r7:=hk 7 ay;have r11:=hk 11 ay;simp only[↓sU,sD,rE,↓reduceIte,rA,p0,p7,p11] at r0 r7 r11;refine af ?_;have hMY:mS (fun c=>P c\/X.nx<=c) S0 ⟨Y.h,Y.nx+9⟩ mb db mi LV:=(hR.mkb.same (Same.nx Y 9)).mono fun c _ h=>h.1.elim (fun h=>.inl h.1) .inr;have nY:=hR.nx;have fk:(iI pl info cs ws).kind=if pl<0 then 1 else 2:=by unfold iI;split<;>rfl
 have fp:(iI pl info cs ws).player=if pl<0 then 0 else pl:=by unfold iI;split<;>rfl
 have fi:(iI pl info cs ws).info=if pl<0 then 0 else info:=by unfold iI;split<;>rfl
 have fn:(iI pl info cs ws).next=cs:=by unfold iI;split<;>rfl
 have fw:(iI pl info cs ws).weights=ws:=by unfold iI;split<;>rfl
 have fy:(iI pl info cs ws).pay= []:=by unfold iI;split<;>rfl
 have hlen:m.bk.length<mi.bk.length:=by rw[hR.bld.bk,E5.1,Ai,e5n];omega
 have⟨b,p,Z,z1,z2,z3,z4,z5,z6⟩:=hMY.setN (i:=m.bk.length) (e:=[.int .i64 (if pl<0 then 1 else 2),.int .i64 (if pl<0 then 0 else pl),.int .i64 (if pl<0 then 0 else info),xa,xw,.cb]) (x:=iI pl info cs ws) hlen ⟨xa,xw,.cb,by rw[fk,fp,fi],by rw[fn];exact(hR.ga.step (Same.nx Y 9)).is,by rw[fw];exact(hR.gw.step (Same.nx Y 9)).is,by rw[fy];exact .inl ⟨rfl,.inl rfl⟩,fun c hc=>by
  rcases hc with hc | hc | hc
  ·exact⟨hR.pa c hc,.inr (by have:=(hR.ga.blk hc).1;omega)⟩
  ·exact⟨hR.pw c hc,.inr (by have:=(hR.gw.blk hc).1;omega)⟩
  ·cases hc⟩
 have f8':=cV (p:=8) hR.mkb.g rfl;have lag:=ldN hR.gx;have sna:=hR.mkb.p.nod.self;have sxa:=hR.ga.self;have sxw:=hR.gw.self;have sx:=oU (k:=.i64) (x0:=if pl<0 then 1 else 2) (x1:=if pl<0 then 0 else pl) (x2:=if pl<0 then 0 else info) (a:=xa) (b:=xw) (c:=.cb) sxa sxw rfl;have hnb:=aNK (m':={mi with bk:=mi.bk.set m.bk.length (iI pl info cs ws)}) hpre hp1 q6 E2 hf E5 hR.bld rfl hR.len hR.forT hR.wts rfl rfl rfl rfl rfl rfl;rw[show LV.length - (lev+1)+1=LV.length - lev by omega] at hnb;generalize (if pl<0 then(1:Int) else 2)=i0 at *;generalize (if pl<0 then(0:Int) else pl)=i1 at *;generalize (if pl<0 then(0:Int) else info)=i2 at *;refine aA (oY (pre:=aMJ) (K:=8) (m:=255) (n:=6) (x:=.t 202) (v:=.t 201) rfl rfl rfl rfl ?_);unfold aMJ;simp only[↓sU,sD,rE,↓reduceIte,rA,r0,r7,r11,aY,bN,bB,aF,aU,aE,f8',sna,lag,sx,aJ,z1];rw[show(AV.agg [.int .i64 i0,.int .i64 i1,.int .i64 i2,xa,xw,.cb]).cells=some [.int .i64 i0,.int .i64 i1,.int .i64 i2,xa,xw,.cb] from bL _,aN];refine⟨Z,z3,?_⟩;refine bQ (cm r7 ?_);refine aR (af ?_);refine⟨_,_,hnb.1,hnb.2,z5,⟨by rw[z4];show X.nx<=Y.nx+9;omega,fun c hc hp=>?_⟩⟩;have⟨y1,y2⟩:=frm c hc hp;have⟨y3,y4⟩:=hR.frm c ay y2;have⟨y5,y6⟩:=z6.2 c (by show c<Y.nx+9;omega) y3;exact⟨y5.trans ((y4 ay).trans y1),y6⟩
theorem aGj{S0:St}{mb db:Nat}{LV:List (Int×Int×Int)}(H:Has fns)(hLV:∀p∈LV, -1<=p.1/\2<=p.2.1/\p.2.1<=3/\0<=p.2.2/\p.2.2<=1000)(hLl:LV.length<=700):∀n lev,lev+n=LV.length->aCM fns S0 mb db LV lev
 | 0,lev,h=>aDj H hLV hLl ay fun h'=>by omega
 | n+1,lev,h=>aDj H hLV hLl ay fun _=>aGj H hLV hLl n (lev+1) ay
def PlB(cs:b6)(a:Int×Int×Int):Prop:=cs= [.int .i64 a.1,.int .i64 a.2.1,.int .i64 a.2.2]
theorem aSy{F:Fr}{h:Ev.T AB}{a b c:Int}(h45:aD 45 F= .int .i64 a)(h51:aD 51 F= .int .i64 b)(h56:aD 56 F= .int .i64 c):gT (.build [.int .i64 0,.int .i64 0,.int .i64 0] [(0,1,.t 45),(1,1,.t 51),(2,1,.t 56)]) F h=some (.agg [.int .i64 a,.int .i64 b,.int .i64 c]):=by
 show(bH (eZ _ (eH F [(0,1,.t 45),(1,1,.t 51),(2,1,.t 56)])) fun cs=>some (AV.agg cs))=_;simp only[eH,show(cU.t 45).val F= .int .i64 a from h45,show(cU.t 51).val F= .int .i64 b from h51,show(cU.t 56).val F= .int .i64 c from h56,eZ,cH,aN];rfl
def aTa(X:St)(F:Fr)(mb db:Nat)(lvl lv:AV)(dl:bu)(ps:Int)(F':Fr)(Z:St)(qs:List iH):Prop:=∃a b c:Int, -1<=a/\a<ps/\2<=b/\b<=3/\0<=c/\c<=15/\qs= [⟨25,X.nx+25,.cells [.int .i64 a,.int .i64 b,.int .i64 c] false 0⟩]/\X.nx+30<=Z.nx/\cC db X Z/\vH Z db lv dl/\(∀j,j<11->aD j F'=aD j F)/\aD 33 F'= .ptr mb 0/\aD 37 F'=lvl/\aD 58 F'= .sl (X.nx+25) 0 1 1 false
theorem aN1{ops:List AO}{S X:St}{F:Fr}{inr:Bool}{mb db:Nat}{m:Mk}{LV:List (Int×Int×Int)}{ps:Int}{Q:Out->bS->St->Prop}(H:Has fns)(he:ops=aQb++aQz)(gm:X.h.get mb=some (.cells (eI db m) false 0))(lmb:mb<X.nx)(nmd:mb≠db)(hd:vH X db m.lv m.dl)(ha:tI 3 PlB S X m.lvl LV)(hS:S.nx<=X.nx)(dn:∀c,aX m.lvl=some c->c≠mb/\c≠db/\aX m.lv≠some c)(dm:∀c,aX m.lv=some c->c≠mb)(p9:aD 9 F= .ptr mb 0)(p1:aD 1 F= .int .i64 ps)(hps:1<=ps/\ps<=4)(hl:LV.length<=100)
  (hQ:∀F' Z lvl' a b c,(∀j,j<11->aD j F'=aD j F)-> -1<=a->a<ps->2<=b->b<=3->0<=c->c<=15->Z.h.get mb=some (.cells (eI db {m with lvl:=lvl'}) false 0)->vH Z db m.lv m.dl->tI 3 PlB S Z lvl' (LV++ [(a,b,c)])->X.nx<=Z.nx->(∀k,k<X.nx->k≠mb->k≠db->aX m.lvl≠some k->Z.h.get k=X.h.get k)->(∀k,aX lvl'=some k->aX m.lvl=some k\/X.nx<=k)->Q .normal ⟨F',inr⟩ Z):lU fns (.drw ops) ⟨F,inr⟩ X Q:=by
 have hlen:ops.length=30:=by rw[he];rfl
 have f0:=cV (p:=0) gm rfl;have f1:=cV (p:=1) gm rfl;have slv:=ha.self;have wps:IntKind.i64.wrap (ps+1)=ps+1:=wrap_i64 ay ay;refine aEk 67108862 (W:=fun c=>c=db) (K:=26) (R:=aTa X F mb db m.lvl m.lv m.dl ps) he rfl rfl rfl (fun X1 x1 hh1 nn1=>?_) ?_
 ·have hd1:=hd.move x1.1 (x1.2 _ hd.lt) fun c hc=>x1.2 c (fM hd.il hc);unfold aQb;simp only[↓sU,sD,rE,↓reduceIte,rA,p1,p9,aY,bN,bB,aF,aU,aE,f0,f1,slv,lmb,nmd,Ap,wps];refine lL rfl ?_;refine af ?_;refine aQ (nH H hd1 (n:=ps+1) ay ay) ?_;rintro _ X2 ⟨x2,d2,a,rfl,a1,a2⟩;refine⟨⟨x2.1,fun c hc hne=>x2.2 c (Ae hc x1.1) hne⟩,?_⟩;have wa:IntKind.i64.wrap (a - 1)=a - 1:=wrap_i64 ay ay;simp only[↓sU,sD,rE,↓reduceIte,rA,p9,aY,bN,bB,aF,aU,aE,f0,lmb,nmd,Ap,wa];refine lL rfl ?_;refine af ?_;refine aQ (nH H d2 (n:=2) bg bg) ?_;rintro _ X3 ⟨x3,d3,b,rfl,b1,b2⟩;have n12:X1.nx<=X2.nx:=x2.1;refine⟨⟨x3.1,fun c hc hne=>x3.2 c (by have:=x1.1;show c<X2.nx;omega) hne⟩,?_⟩;have wb:IntKind.i64.wrap (2+b)=2+b:=wrap_i64 ay ay;simp only[↓sU,sD,rE,↓reduceIte,rA,p9,aY,bN,bB,aF,aU,aE,f0,lmb,nmd,Ap,wb];refine lL rfl ?_;refine af ?_;refine aQ (nH H d3 (n:=16) bg bg) ?_;rintro _ X4 ⟨x4,d4,c,rfl,c1,c2⟩;have n23:X2.nx<=X3.nx:=x3.1;have n34:X3.nx<=X4.nx:=x4.1;refine⟨⟨x4.1,fun k hk hne=>x4.2 k (by have:=x1.1;show k<X3.nx;omega) hne⟩,?_⟩;have hbl:=fun(F:Fr) (h:Ev.T AB) (u:aD 45 F= .int .i64 (a - 1)) (v:aD 51 F= .int .i64 (2+b)) (w:aD 56 F= .int .i64 c)=>aSy (F:=F) (h:=h) u v w;have hib:dR (.build [.int .i64 0,.int .i64 0,.int .i64 0] [(0,1,.t 45),(1,1,.t 51),(2,1,.t 56)])=false:=rfl;have he1:=fun(F:Fr) (id:Nat) (h:aD 57 F= .agg [.int .i64 (a - 1),.int .i64 (2+b),.int .i64 c])=>aPL (t:=132) (z0:=.int .i64 0) (z1:=.int .i64 0) (z2:=.int .i64 0) (x:=.t 57) (F:=F) (id:=id) h;refine dh hbl hib he1 ?_;refine⟨a - 1,2+b,c,ay,ay,ay,ay,ay,ay,ag,ay,⟨az x1.1,fun k hk hne=>?_⟩,d4,fun j hj=>?_,by refine⟨?_,?_,?_⟩<;>simp only[↓sU,sD,rE,↓reduceIte,rA]⟩
  ·have h1:=x1.1;rw[x4.2 k (by show k<X3.nx;omega) hne,x3.2 k (by show k<X2.nx;omega) hne,x2.2 k (by show k<X1.nx;omega) hne];exact x1.2 k hk
  ·have:j=0\/j=1\/j=2\/j=3\/j=4\/j=5\/j=6\/j=7\/j=8\/j=9\/j=10:=by omega
   rcases this with rfl | rfl | rfl | rfl | rfl | rfl | rfl | rfl | rfl | rfl | rfl<;>simp only[↓sU,sD,rE,↓reduceIte,rA]
 rintro F' S' qs hs' ls ⟨a,b,c,a1,a2,b1,b2,c1,c2,rfl,nZ,sZ,dZ,hk,pA,pB,pC⟩ hlast hld;obtain⟨U,hU⟩:∃U:St,U=⟨S'.h.set (X.nx+25) (some (.cells [.int .i64 a,.int .i64 b,.int .i64 c] false 0)),S'.nx⟩:=⟨_,rfl⟩;have nU:U.nx=S'.nx:=by rw[hU]
 have kU:∀k,k≠X.nx+25->U.h.get k=S'.h.get k:=fun k hk=>by rw[hU];simp only;rw[dd,if_neg hk]
 have gU:U.h.get (X.nx+25)=some (.cells [.int .i64 a,.int .i64 b,.int .i64 c] false 0):=by rw[hU];simp only;rw[dd,if_pos rfl]
 have kX:∀k,k<X.nx->k≠db->U.h.get k=X.h.get k:=fun k hk hne=>(kU k ay).trans (sZ.2 k hk hne);have lowl:∀ {k},aX m.lvl=some k->k<X.nx:=fun hc=>(ha.blk hc).2;have haU:tI 3 PlB S U m.lvl LV:=ha.move ay (fun k hk=>kX k (lowl hk) (dn k hk).2.1) fun _ _ h=>h;have⟨v',V,eA,aV,nV,kV,bV⟩:=haU.push (bytes:=24) (x:=.sl (X.nx+25) 0 1 1 false) (a:=(a,b,c)) bg ay rfl (aNr gU rfl) rfl (show PlB [.int .i64 a,.int .i64 b,.int .i64 c] (a,b,c) from rfl) bf bf;have gmV:V.h.get mb=some (.cells (eI db m) false 0):=(kV mb ay fun e=>(dn mb e).1 rfl).trans ((kX mb lmb nmd).trans gm);unfold aQz;refine kE (v:=v') (S1:=V) hlast (fun call=>?_) ?_
 ·rw[cS (bg:Nat.testBit 67108862 25=true),fY];simp only[fR,pB,pC];rw[<-hU];exact eA
 rw[cS (bg:Nat.testBit 67108862 25=true)];simp only[iE,dK,aY,bN,bB,aF,aE,aU,aT,fR,bX,bP,pA,rE,↓reduceIte,rA];have gAc:v'.cells=some [v']:=aV.cells;refine kE (v:=.undef) (S1:=⟨V.h.set mb (some (.cells (eI db {m with lvl:=v'}) false 0)),V.nx⟩) (bg:Nat.testBit 536870911 26=true) (fun call=>?_) ?_
 ·rw[dS];simp only[fR,bP,rE,↓reduceIte,bX,gAc,aN];exact stc (cs:=eI db m) (p:=1) (S:=V) gmV (ay:1<10)
 rw[jB];refine⟨?_,?_⟩
 ·simp only[Cw,Bd,Dy,Ck,Bq];exact hld _ _
 ·simp only[bX,gP];have kF:∀k,k<S'.nx->k≠X.nx+25->k≠mb->aX m.lvl≠some k->(V.h.set mb (some (.cells (eI db {m with lvl:=v'}) false 0))).get k=S'.h.get k:=fun k h1 h2 h3 h4=>by
   rw[dd,if_neg h3,kV k ay h4,kU k h2]
  have hlvb:=fun {k} (hk:aX m.lv=some k)=>fM hd.il hk;refine hQ _ _ v' a b c (fun j hj=>?_) a1 a2 b1 b2 c1 c2 fq (dZ.move (by show S'.nx<=V.nx;omega) (kF db dZ.lt (az hd.lt) nmd.symm fun e=>(dn db e).2.1 rfl) fun k hk=>kF k (by have:=hlvb hk;omega) (by have:=hlvb hk;omega) (dm k hk) fun e=>(dn k e).2.2 hk) (aV.move (Ag _) (fun k hk=>?_) fun _ _ h=>h) (by show X.nx<=V.nx;omega) (fun k h1 h2 h3 h4=>?_) (fun k hk=>?_)
  ·rw[bP,if_neg ay,bP,if_neg ay,bP,if_neg ay];exact hk j hj
  ·simp only;rw[dd,if_neg];rcases bV k hk with h | h
   ·exact(dn k h).1
   ·omega
  ·simp only;rw[kF k ay ay  h2 h4];exact sZ.2 k h1 h3
  ·rcases bV k hk with h | h
   ·exact .inl h
   ·exact .inr ay
theorem aTb{F:Fr}{h:Ev.T AB}{lv:AV}(h11:aD 11 F=lv)(hc:lv.cells=some [lv]):gT (.build [.cb,.int .i64 0] [(0,1,.t 11)]) F h=some (.agg [lv,.int .i64 0]):=by
 show(bH (eZ _ (eH F [(0,1,.t 11)])) fun cs=>some (AV.agg cs))=_;simp only[eH,show(cU.t 11).val F=lv from h11,eZ,hc,aN];rfl
theorem aR8{F:Fr}{h:Ev.T AB}{db:Nat}{most:Int}{zero:Bool}(h13:aD 13 F= .ptr db 0)(h14:aD 14 F= .int .i64 most)(h15:aD 15 F= .bool zero):gT (.build [.nilp,.cb,.cb,.int .i64 0,.int .i64 0,.bool false,.bool false,.int .i64 0,.cb,.cb] [(0,1,.t 13),(3,1,.t 14),(4,1,.c (.int .i64 1)),(5,1,.t 15)]) F h=some (.agg [.ptr db 0,.cb,.cb,.int .i64 most,.int .i64 1,.bool zero,.bool false,.int .i64 0,.cb,.cb]):=by
 show(bH (eZ _ (eH F [(0,1,.t 13),(3,1,.t 14),(4,1,.c (.int .i64 1)),(5,1,.t 15)])) fun cs=>some (AV.agg cs))=_;simp only[eH,show(cU.t 13).val F= .ptr db 0 from h13,show(cU.t 14).val F= .int .i64 most from h14,show(cU.t 15).val F= .bool zero from h15,aGx,eZ,cH,aI1,show(AV.ptr db 0).cells=some [.ptr db 0] from rfl,aN];rfl
theorem aOX{h:Ev.T AB}{b:Nat}{a0 a1 a2 a3 a4 a5 a6 x y z:AV}{o:Bool}{s:Nat}(hb:h.get b=some (.cells [a0,a1,a2,a3,a4,a5,a6,x,y,z] o s)):eQ (.ptr b 7) true 3 h=some (.agg [x,y,z]):=by
 simp only[eQ,nP,aO,uY,cJ,hb,aN];rfl
def mk0(lv lvl:AV)(dl:bu)(ps most:Int)(zero:Bool):Mk:=⟨lvl,.cb,.cb,.cb,lv,most,1,ps,zero,false,dl,[],[],[]⟩
def aSN(ps:Int)(LV:List (Int×Int×Int)):Prop:=∀p∈LV,(-1<=p.1/\p.1<ps)/\(2<=p.2.1/\p.2.1<=3)/\0<=p.2.2/\p.2.2<=1000
def GmI(S:St)(gb db mb:Nat)(lv:AV)(dl:bu)(ps most:Int)(zero:Bool)(k:Nat)(A:bS)(X:St):Prop:=A.inr=false/\mb<X.nx/\Same S X/\X.h.get gb=some (.cells [.int .i64 0,.cb,.cb] false 0)/\∃ (lvl:AV) (LV:List (Int×Int×Int)),X.h.get mb=some (.cells (eI db (mk0 lv lvl dl ps most zero)) false 0)/\vH X db lv dl/\tI 3 PlB S X lvl LV/\(∀c,aX lvl=some c->c≠gb/\c≠mb/\c≠db/\aX lv≠some c)/\aSN ps LV/\LV.length+k<=5/\aD 1 A.F= .int .i64 ps/\aD 8 A.F= .ptr gb 0/\aD 9 A.F= .ptr mb 0/\aD 10 A.F= .int .i64 (k:Int)
theorem aFJ{S:St}{lv:AV}{dl:bu}{ps most:Int}{zero:Bool}(H:Has fns)(hl:bO .i64 S lv dl)(hbd:dl.length<=140737488355328)(hps:1<=ps/\ps<=4)(hm:1<=most/\most<=200):
  gH fns (.fn 62 [] []) [lv,.int .i64 ps,.int .i64 most,.bool zero] S fun r Z=>Same S Z/\∃ (g:bD) (nv iv:AV),r= .agg [.int .i64 g.bo,nv,iv]/\g.bo=ps/\dB g=0/\(g.bk.length:Int)<=most/\(∀x∈g.bk,jQ g.bo g.bn x)/\((∃k,k<=5/\rX k 0 g.bk)/\fQ (g.bk.map yO) g.bn.length)/\aP 6 cI Z nv g.bk/\aP 2 cW Z iv g.bn/\∀X':St,Z.nx<=X'.nx->(∀c,c<Z.nx->(S.nx<=c\/aX lv=some c)->X'.h.get c=Z.h.get c)->aP 6 cI X' nv g.bk/\aP 2 cW X' iv g.bn:=by
 have hlc:=bO.cells hl;refine cF H.f62 (by simp) ?_;refine af ?_;refine bQ ?_;refine dC ?_;intro S1 s1 n1 g1;refine aq ?_;have hbd1:=fun(F:Fr) (h:Ev.T AB) (a:aD 11 F=lv)=>aTb (F:=F) (h:=h) a hlc;have hbd2:=fun(F:Fr) (h:Ev.T AB) (a:aD 13 F= .ptr S1.nx 0) (b:aD 14 F= .int .i64 most) (c:aD 15 F= .bool zero)=>aR8 (F:=F) (h:=h) a b c;refine bQ (dz hbd1 ?_);refine dV (cs:=[lv,.int .i64 0]) (by refine aq ?_;exact bL _) ?_;intro S2 s2 n2 g2;refine dz hbd2 ?_;refine dV (cs:=[.ptr S1.nx 0,.cb,.cb,.int .i64 most,.int .i64 1,.bool zero,.bool false,.int .i64 0,.cb,.cb]) (by refine aq ?_;exact bL _) ?_;intro S3 s3 n3 g3;refine aq ?_;refine bQ (dk @aY @bB @aF @aE ?_);refine fD (v:=.undef) (S1:=⟨S3.h.set S2.nx (some (.cells (eI S1.nx (mk0 lv .cb dl ps most zero)) false 0)),S3.nx⟩) (fun call=>by refine df @dS @cH ?_;exact stc (cs:=[.ptr S1.nx 0,.cb,.cb,.int .i64 most,.int .i64 1,.bool zero,.bool false,.int .i64 0,.cb,.cb]) (p:=7) (S:=S3) g3 (ay:7<10)) ?_;refine af ?_;obtain⟨S4,hS4⟩:∃Z:St,Z=⟨S3.h.set S2.nx (some (.cells (eI S1.nx (mk0 lv .cb dl ps most zero)) false 0)),S3.nx⟩:=⟨_,rfl⟩;have n4:S4.nx=S3.nx:=by rw[hS4]
 have k4:∀c,c≠S2.nx->S4.h.get c=S3.h.get c:=fun c hc=>by rw[hS4];simp only;rw[dd,if_neg hc]
 have gm4:S4.h.get S2.nx=some (.cells (eI S1.nx (mk0 lv .cb dl ps most zero)) false 0):=by rw[hS4];simp only;rw[dd,if_pos rfl]
 rw[<-hS4];clear hS4 g3;have sS4:Same S S4:=⟨ay,fun c hc=>by rw[k4 c ay,s3.2 c ay,s2.2 c ay];exact s1.2 c hc⟩;have gg4:S4.h.get S.nx=some (.cells [.int .i64 0,.cb,.cb] false 0):=by rw[k4 _ ay,s3.2 _ ay,s2.2 _ ay];exact g1
 have gd4:S4.h.get S1.nx=some (.cells [lv,.int .i64 ((0:Nat):Int)] false 0):=by rw[k4 _ ay,s3.2 _ ay];exact g2
 have hlow:=fun {c} (hc:aX lv=some c)=>fM hl hc;have hd4:vH S4 S1.nx lv dl:=⟨ay,⟨0,gd4,Da _⟩,hl.same sS4,fun e=>by have:=hlow e;omega,hbd⟩;have f0:=cV (p:=0) gm4 rfl;refine fE (dt @aY @bB @aF @aE f0 ?_);refine bE (af ?_);refine aQ (nH H hd4 (n:=5) bg bg) ?_;rintro _ S5 ⟨x5,hd5,y,rfl,y1,y2⟩;have wy:IntKind.i64.wrap (1+y)=((1+y.toNat:Nat):Int):=by rw[wrap_i64 ay ay];omega
 refine cm wy ?_;have n5:=x5.1;have k5:∀c,c<S4.nx->c≠S1.nx->S5.h.get c=S4.h.get c:=x5.2;refine aW (Q:=fun o A' X=>o= .normal/\GmI S S.nx S1.nx S2.nx lv dl ps most zero 0 A' X) (aL (bK (GmI S S.nx S1.nx S2.nx lv dl ps most zero) ?_ (1+y.toNat) _ _ ⟨rfl,ay,⟨ay,fun c hc=>(k5 c ay ay).trans (sS4.2 c hc)⟩,(k5 _ ay ay).trans gg4,.cb,[],(k5 _ ay ay).trans gm4,hd5,tI.none,fun c hc=>(by cases hc),fun p hp=>(by cases hp),by show 0+(1+y.toNat)<=5;omega,by refine⟨?_,?_,?_,?_⟩<;>simp only[↓sU,sD,rE,↓reduceIte,rA]⟩)) ?_
 ·clear f0 hd4 gd4 gg4 gm4 k4 hd5 x5 k5 sS4 g1 g2 s1 s2 s3;rintro k ⟨F,inr⟩ X ⟨q0,lmb,sX,gX,lvl,LV,gm,hd,ha,hdj,hok,hlen,p1,p8,p9,p10⟩;simp only at q0 p1 p8 p9 p10;subst q0;refine fE (cm p10 ?_);rcases Bk k with hk0 | hkp
  ·subst hk0;refine aK (by simp only[↓sU,sD,rE,↓reduceIte,rA];rfl) (bG ?_);refine af ?_;exact⟨rfl,lmb,sX,gX,lvl,LV,gm,hd,ha,hdj,hok,hlen,by refine⟨?_,?_,?_,?_⟩<;>simp only[↓sU,sD,rE,↓reduceIte,rA,p1,p8,p9,p10]⟩
  refine aM fe (aH ?_);refine af ?_;have wk:IntKind.i64.wrap ((k:Int) - 1)=((k - 1:Nat):Int):=by rw[wrap_i64 ay ay];omega
  refine aA (aL ?_);refine aN1 (S:=S) (mb:=S2.nx) (db:=S1.nx) (m:=mk0 lv lvl dl ps most zero) (LV:=LV) (ps:=ps) H rfl gm lmb ay hd ha sX.1 (fun c hc=>⟨(hdj c hc).2.1,(hdj c hc).2.2.1,(hdj c hc).2.2.2⟩) (fun c hc=>by have:=hlow hc;omega) (ai p9) (ai p1) hps ay ?_;intro F' Z lvl' a b c hk a1 a2 b1 b2 c1 c2 gmZ dZ aZ nZ kZ bZ;have r1:=hk 1 ay;have r8:=hk 8 ay;have r9:=hk 9 ay;have r10:=hk 10 ay;simp only[↓sU,sD,rE,↓reduceIte,rA,p1,p8,p9,p10] at r1 r8 r9 r10;refine af ?_;refine aG (df r10 wk ?_);have nX:=sX.1;refine⟨k - 1,ay,rfl,ay,⟨ay,fun j hj=>(kZ j ay ay ay (fun e=>by have:=(ha.blk e).1;omega)).trans (sX.2 j hj)⟩,(kZ _ ay ay ay (fun e=>(hdj _ e).1 rfl)).trans gX,lvl',LV++ [(a,b,c)],gmZ,dZ,aZ,fun j hj=>?_,fun p hp=>?_,by rw[Ai,Av];omega,by refine⟨?_,?_,?_,?_⟩<;>simp only[↓sU,sD,rE,↓reduceIte,rA,r1,r8,r9]⟩
  ·rcases bZ j hj with h | h
   ·exact hdj j h
   ·exact⟨ay,ay,ay,fun e=>by have:=hlow e;omega⟩
  ·rcases Bf.1 hp with h | h
   ·exact hok p h
   ·rw[Ce.1 h];exact⟨⟨a1,a2⟩,⟨b1,b2⟩,c1,by show c<=1000;omega⟩
 clear f0 hd4 gd4 gg4 gm4 k4 hd5 x5 k5 sS4 g1 g2 s1 s2 s3;rintro o ⟨F,inr⟩ X ⟨rfl,q0,lmb,sX,gX,lvl,LV,gm,hd,ha,hdj,hok,hlen,p1,p8,p9,_⟩;simp only at q0 p1 p8 p9;subst q0;have nX:=sX.1;obtain⟨pn,rfl⟩:∃pn:Nat,ps=(pn:Int):=⟨ps.toNat,ay⟩;refine af ?_;refine bQ (d6 p1 p9 ?_);refine gO (pG (n:=pn) (fj @aJ) (fj @aJ) bf bf) ?_;intro X1 x1 m1 g1;rw[repeatL_one] at g1;refine bE (af ?_);have hlv:aP 3 PlE X lvl LV:=ha.is fun e a h=>h;have hMX:mS (fun c=>c≠S.nx/\(S.nx<=c\/aX lv=some c)) S X S2.nx S1.nx (mk0 lv lvl dl (pn:Int) most zero) LV:=by
  have pbl:∀c,c≠S2.nx->c≠S1.nx->PB S2.nx S1.nx (mk0 lv lvl dl (pn:Int) most zero) c:=fun c h1 h2=>⟨h1,h2,(by intro e;cases e),(by intro e;cases e),(by intro e;cases e)⟩;exact⟨⟨lmb,ay,ay,ay,hd,fun c hc=>⟨pbl c (by have:=hlow hc;omega) (by have:=hlow hc;omega),(by have:=hlow hc;omega),.inr hc⟩,hlv,fun c hc=>⟨pbl c (hdj c hc).2.1 (hdj c hc).2.2.1,(hdj c hc).1,.inl (ha.blk hc).1⟩,tI.none,tI.none,tI.none,fun c hc=>(by cases hc),fun c hc=>(by cases hc),fun c hc=>(by cases hc)⟩,gm⟩
 have hM1:=hMX.same x1;have hgb1:X1.h.get S.nx=some (.cells [.int .i64 0,.cb,.cb] false 0):=(x1.2 _ ay).trans gX;have hseen:uU (fun c=>PB S2.nx S1.nx (mk0 lv lvl dl (pn:Int) most zero) c/\c≠S.nx/\(S.nx<=c\/aX lv=some c)) X1 (.sl X.nx 0 pn pn false) (List.replicate pn []):=by
  refine⟨.inr ⟨X.nx,0,pn,false,List.replicate pn .cb,by rw[Aq],by rw[Aq];exact Ag _,ay,by unfold cJ;rw[g1];rfl,fun i a hi=>?_⟩,fun c hc=>by cases hc;exact⟨hMX.p.fresh (Ag _),ay,.inl ay⟩⟩;have hlt:=(Aj.1 hi).1;rw[Aq] at hlt;rw[Cl,if_pos hlt] at hi;cases hi;refine⟨[.cb],rfl,fun j x hj=>?_,.cb,rfl,.inl ⟨rfl,.inl rfl⟩,fun c hc=>by cases hc⟩;cases j with
  | zero=>
   cases hj;rw[An,Dm,Cl,if_pos ay]
  | succ j=>simp at hj
 have hb:=aGj (S0:=S) (mb:=S2.nx) (db:=S1.nx) (LV:=LV) H (fun p hp=>by
  have⟨⟨a1,_⟩,⟨b1,b2⟩,c1,c2⟩:=hok p hp;exact⟨a1,b1,b2,c1,c2⟩) ay LV.length 0 ay X1 (fun c=>c≠S.nx/\(S.nx<=c\/aX lv=some c)) (mk0 lv lvl dl (pn:Int) most zero) (.sl X.nx 0 pn pn false) (List.replicate pn []) hM1 ay ⟨⟨rfl,fun j v hv=>(by cases hv)⟩,fun j v hv=>(by cases hv),fun x hx=>(by cases hx),by show(0:Int)+1<=most;omega,by show(0:Int)<=1;omega,by show most<=1000;omega,Ag _,hps⟩ (by show(1:Int)<=1;omega) hseen (by rw[Aq];rfl) (fun l hl=>by rw[List.eq_of_mem_replicate hl];exact Ag _) (fun p hp=>(hok p hp).1.2)
 refine aQ hb ?_;rintro _ Y ⟨rfl,m',B,hB,hT,hY,bY⟩;have e0:m'.bk=B:=by have:=hB.bk;rw[this];rfl
 have ep:m'.ps=(pn:Int):=hB.ps;have hfit:=hB.fit;have hpd:m'.pend=0:=by rw[hB.pend];rfl
 have hmo:m'.most=most:=hB.most;have hil:=hB.il;have pgb:=(bY.2 S.nx ay ⟨ay,ay,(by intro e;cases e),(by intro e;cases e),(by intro e;cases e)⟩);have gbY:=pgb.1.trans hgb1;have lgm:=aOX hY.g;have nY:=bY.1;refine bQ (dx p9 p8 @aY @bB @aF @aE lgm ?_);refine eS (b:=S.nx) (cs':=[.int .i64 m'.ps,m'.na,m'.ia]) (ai p8) (by refine af ?_;exact bL _) gbY rfl rfl ?_;intro Z z1 z2 z3;have lag:=iT z3;refine af ?_;refine aR (dh @gF p8 lag ?_);have hZ:mS (fun c=>(c≠S.nx/\(S.nx<=c\/aX lv=some c))\/X1.nx<=c) S Z S2.nx S1.nx m' LV:=hY.local z1.1 fun c hc hor=>z1.2 c hc fun e=>by
  rcases hor with h | h | h
  ·exact h (by rw[e];exact pgb.2)
  ·exact h.1 e
  ·omega
 have sX1:Same S X1:=sX.trans x1;have sY:Same S Y:=⟨ay,fun c hc=>((bY.2 c ay ⟨ay,ay,(by intro e;cases e),(by intro e;cases e),(by intro e;cases e)⟩).1).trans (sX1.2 c hc)⟩;refine⟨z1.same sY (Ag _),⟨m'.ps,m'.bk,m'.bn⟩,m'.na,m'.ia,rfl,ep,?_,?_,?_,⟨⟨LV.length,ay,by show rX LV.length 0 m'.bk;rw[e0];exact hT⟩,by
  show fQ (m'.bk.map yO) m'.bn.length;rw[e0];have:=hB.ord [] .nil
  rwa [Bq] at this⟩,hZ.p.nod.is fun e a ⟨xa,xw,xp,h1,h2,h3,h4,_⟩=>⟨xa,xw,xp,h1,h2,h3,h4⟩,hZ.p.inf.is fun e a h=>h,fun X' hn hk=>?_⟩
 rotate_right
 ·have hkp:∀c,c<Z.nx->(PB S2.nx S1.nx m' c/\((c≠S.nx/\(S.nx<=c\/aX lv=some c))\/X1.nx<=c))->X'.h.get c=Z.h.get c/\True:=fun c hc hp=>⟨hk c hc (by
   rcases hp.2 with h | h
   ·exact h.2
   ·exact .inl ay),trivial⟩
  have a1:=hZ.p.nod.move (E':=aAD X' fun _=>True) hn (fun c hc=>hk c (hZ.p.nod.blk hc).2 (.inl (hZ.p.nod.blk hc).1)) fun e a hE=>aAD.move hE hn hkp;have a2:=hZ.p.inf.move (E':=aMZ) hn (fun c hc=>hk c (hZ.p.inf.blk hc).2 (.inl (hZ.p.inf.blk hc).1)) fun e a hE=>hE;exact⟨a1.is fun e a ⟨xa,xw,xp,h1,h2,h3,h4,_⟩=>⟨xa,xw,xp,h1,h2,h3,h4⟩,a2.is fun e a h=>h⟩
 rotate_right
 ·intro x hx;have hx:x∈m'.bk:=hx;rw[e0] at hx;show jQ m'.ps m'.bn x;rw[ep];exact hB.ok x hx
 ·have hBl:=hT.1;refine aHw (k:=LV.length) (by show 1<=m'.ps/\m'.ps<=4;rw[ep];exact hps) (by show 1<=m'.bk.length/\m'.bk.length<=2000;rw[e0] at hfit ⊢;omega) (by show m'.bn.length<=200;omega) (fun x hx=>?_) ?_ ay ?_
  ·have hx:x∈m'.bk:=hx;rw[e0] at hx;show jQ m'.ps m'.bn x;rw[ep];exact hB.ok x hx
  ·show rX LV.length 0 m'.bk;rw[e0];exact hT
  ·show fQ (m'.bk.map yO) m'.bn.length;rw[e0];have:=hB.ord [] .nil
   rwa [Bq] at this
 ·show(m'.bk.length:Int)<=most;omega
end Go.Ev.Gl
