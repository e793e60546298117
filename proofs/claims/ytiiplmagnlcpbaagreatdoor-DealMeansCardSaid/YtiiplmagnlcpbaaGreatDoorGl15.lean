import Derived.Test.YtiiplmagnlcpbaaGreatDoorGl14
set_option linter.unusedSimpArgs false
set_option linter.unusedVariables false
open Nat renaming reduceEqDiff -> rE, reduceAdd -> rA
set_option maxHeartbeats 0
namespace Go.Ev.Gl
variable {fns:T dD}
structure aCT(m:Mk):Prop where
 len:m.views.length=m.bz.length
 at_:∀ (j:Nat) (v:Int×Int×Int),m.views[j]? =some v->v.2.2=(j:Int)/\0<=v.1/\v.1<m.ps/\∃a,m.bz[j]? =some ⟨v.1,a⟩/\1<=a/\a<=3
structure aES(lev:Nat)(m:Mk):Prop where
 vok:aCT m
 lv:∀ (j:Nat) (v:Int×Int×Int),m.views[j]? =some v->v.2.1<(lev:Int)\/aBV m v.2.2
 nd:∀x∈m.bw,x.kind=2->x.info<(m.bz.length:Int)
 fit:(m.bw.length:Int)+m.pend<=m.most
 pnd:0<=m.pend
 most:m.most<=1000
 il:m.bz.length<=m.bw.length
 ps:1<=m.ps/\m.ps<=4
structure zI(m m':Mk)(B:List dI)(d:Int):Prop where
 bw:m'.bw=m.bw++B
 ok:∀x∈B,mS m.ps m'.bz x
 ord:∀lab,pL lab m.bz.length->pL (lab++B.map lbl) m'.bz.length
 inf:∃I,m'.bz=m.bz++I
 vws:∃V,m'.views=m.views++V
 vok:aCT m'
 used:∀j,m.bz.length<=j->j<m'.bz.length->∃x∈B,x.kind=2/\x.info=(j:Int)
 most:m'.most=m.most
 ps:m'.ps=m.ps
 pend:m'.pend=m.pend - d
 fit:(m'.bw.length:Int)+m'.pend<=m'.most
 il:m'.bz.length<=m'.bw.length
theorem zI.refl{lev:Nat}{m:Mk}(h:aES lev m):zI m m [] 0 where
 bw:=(Cb _).symm
 ok:=fun x hx=>by cases hx
 ord:=fun lab h=>by simpa using h
 inf:=⟨[],(Cb _).symm⟩
 vws:=⟨[],(Cb _).symm⟩
 vok:=h.vok
 used:=fun j h1 h2=>by omega
 most:=rfl
 ps:=rfl
 pend:=(Int.sub_zero _).symm
 fit:=h.fit
 il:=h.il
theorem zI.trans{m m' m'':Mk}{B B':List dI}{d d':Int}(h:zI m m' B d)(h':zI m' m'' B' d'):zI m m'' (B++B') (d+d') where
 bw:=by rw[h'.bw,h.bw,Be]
 ok:=fun x hx=>by
  rcases Bs.1 hx with h1 | h1
  ·have⟨I,e⟩:=h'.inf;rw[e];exact(h.ok x h1).app
  ·rw[<-h.ps];exact h'.ok x h1
 ord:=fun lab hl=>by
  rw[List.map_append,<-Be];exact h'.ord _ (h.ord lab hl)
 inf:=by
  have⟨I,e⟩:=h.inf;have⟨I',e'⟩:=h'.inf;exact⟨I++I',by rw[e',e,Be]⟩
 vws:=by
  have⟨I,e⟩:=h.vws;have⟨I',e'⟩:=h'.vws;exact⟨I++I',by rw[e',e,Be]⟩
 vok:=h'.vok
 used:=fun j h1 h2=>by
  by_cases hj:j<m'.bz.length
  ·have⟨x,hx,hk⟩:=h.used j h1 hj;exact⟨x,Ei _ hx,hk⟩
  ·have⟨x,hx,hk⟩:=h'.used j au h2;exact⟨x,Dr _ hx,hk⟩
 most:=h'.most.trans h.most
 ps:=h'.ps.trans h.ps
 pend:=by rw[h'.pend,h.pend];omega
 fit:=h'.fit
 il:=h'.il
theorem aBV.mono{m m':Mk}{B:List dI}{i:Int}(h:aBV m i)(hn:m'.bw=m.bw++B):aBV m' i:=by
 have⟨x,hx,hk⟩:=h;exact⟨x,by rw[hn];exact Ei _ hx,hk⟩
theorem zI.pre{lev:Nat}{m m':Mk}{B:List dI}{d:Int}(h:zI m m' B d)(hp:aES lev m)(hd:0<=m'.pend):aES lev m' where
 vok:=h.vok
 lv:=fun j v hv=>by
  have⟨V,e⟩:=h.vws;by_cases hj:j<m.views.length
  ·rw[e,Ap hj] at hv;rcases hp.lv j v hv with h1 | h1
   ·exact .inl h1
   ·exact .inr (h1.mono h.bw)
  ·have hlt:=(Ai.1 hv).1;have e1:=(h.vok.at_ j v hv).1;have⟨x,hx,hk⟩:=h.used j (aw hp.vok.len) (aw h.vok.len);exact .inr ⟨x,by rw[h.bw];exact Dr _ hx,hk.1,by rw[hk.2,e1]⟩
 nd:=fun x hx hk=>by
  have⟨I,e⟩:=h.inf;have hl:m.bz.length<=m'.bz.length:=by rw[e,Aj];omega
  rw[h.bw] at hx;rcases Bs.1 hx with h1 | h1
  ·have:=hp.nd x h1 hk;omega
  ·rcases h.ok x h1 with h2 | h2 | h2
   ·rw[h2.kind] at hk;cases hk
   ·rw[h2.kind] at hk;cases hk
   ·have:=(Ai.1 h2.at_).1;have:=h2.inf;omega
 fit:=h.fit
 pnd:=hd
 most:=by rw[h.most];exact hp.most
 il:=h.il
 ps:=by rw[h.ps];exact hp.ps
def aCV(fns:T dD)(S0:St)(mb db:Nat)(LV:List (Int×Int×Int))(lev:Nat):Prop:=∀ (X:St) (P:Nat->Prop) (m:Mk) (v:AV) (rows:List (bm)),nE P S0 X mb db m LV->S0.nx<=X.nx->aES lev m->1<=m.pend->wG (fun c=>PB mb db m c/\P c) X v rows->rows.length=m.ps.toNat->(∀l∈rows,l.length<=lev)->(∀p∈LV,p.1<m.ps)->
 eT fns (.fn 46 [] []) [.ptr mb 0,.int .i64 (lev:Int),v] X fun r Z=>r= .int .i64 (m.bw.length:Int)/\∃m' B,zI m m' B 1/\aAk (LV.length - lev) m.bw.length B/\nE (fun c=>P c\/X.nx<=c) S0 Z mb db m' LV/\fN mb db m X m' Z
noncomputable def aQJ:AC:=qk6
def Pin(P:Nat->Prop)(X:St)(xb:Nat)(xa xw:AV)(c:Nat):Prop:=(P c\/X.nx<=c)/\c≠xb/\bP xa≠some c/\bP xw≠some c
structure KdR(P:Nat->Prop)(S0 X X1:St)(mb db xb:Nat)(LV:List (Int×Int×Int))(K:Nat)(m1:Mk)(xk xp xf:AV)(pl:Int)(Y:St)(i iw:Nat)(mi:Mk)(cs:bm)(C:List dI)(ws:bm)(xa xw:AV):Prop where
 mkb:nE (Pin P X xb xa xw) S0 Y mb db mi LV
 bld:zI m1 mi C (i:Int)
 forT:aGY K m1.bw.length cs C
 len:cs.length=i
 wts:(pl<0->ws.length=iw/\∀w∈ws,1<=w/\w<=3)/\(¬pl<0->ws= [])
 nx:X1.nx<=Y.nx
 frm:∀c,c<X1.nx->PB mb db m1 c->PB mb db mi c/\(c≠xb->Y.h.get c=X1.h.get c)
 gx:Y.h.get xb=some (.cells [xk,xp,xf,xa,xw,.ce] false 0)
 ga:lN 1 X1 Y xa cs.length (bE cs)
 gw:lN 1 X1 Y xw ws.length (bE ws)
 pa:∀c,bP xa=some c->PB mb db mi c
 pw:∀c,bP xw=some c->PB mb db mi c
 ne:∀c,bP xa=some c->bP xw≠some c
theorem KdR.same{P:Nat->Prop}{S0 X X1:St}{mb db xb:Nat}{LV:List (Int×Int×Int)}{K:Nat}{m1:Mk}{xk xp xf:AV}{pl:Int}{Y Z:St}{i iw:Nat}{mi:Mk}{cs:bm}{C:List dI}{ws:bm}{xa xw:AV}(h:KdR P S0 X X1 mb db xb LV K m1 xk xp xf pl Y i iw mi cs C ws xa xw)(hx:xb<X1.nx)(hs:Same Y Z):KdR P S0 X X1 mb db xb LV K m1 xk xp xf pl Z i iw mi cs C ws xa xw where
 mkb:=h.mkb.same hs
 bld:=h.bld
 forT:=h.forT
 len:=h.len
 wts:=h.wts
 nx:=Bb h.nx hs.1
 frm:=fun c hc hp=>⟨(h.frm c hc hp).1,fun hne=>(hs.2 c (Ag hc h.nx)).trans ((h.frm c hc hp).2 hne)⟩
 gx:=(hs.2 xb (Ag hx h.nx)).trans h.gx
 ga:=h.ga.step hs
 gw:=h.gw.step hs
 pa:=h.pa
 pw:=h.pw
 ne:=h.ne
def KdI(P:Nat->Prop)(S0 X X1:St)(mb db xb:Nat)(LV:List (Int×Int×Int))(K:Nat)(m1:Mk)(xk xp xf:AV)(pl:Int)(many:Nat)(F0:Fr)(k:Nat)(A:bN)(Y:St):Prop:=A.inr=false/\(∀j,j<12->aB j A.F=aB j F0)/\∃i mi cs C ws xa xw,i+k=many/\KdR P S0 X X1 mb db xb LV K m1 xk xp xf pl Y i i mi cs C ws xa xw/\aB 12 A.F= .int .i64 (i:Int)
theorem aJb{P:Nat->Prop}{S0 X X1:St}{F:Fr}{mb db tb xb:Nat}{LV:List (Int×Int×Int)}{m1:Mk}{xk xp xf v:AV}{pl mn sn:Int}{many lev:Nat}{rows:List (bm)}{Q:Out->bN->St->Prop}(H:Has fns)(hIH:aCV fns S0 mb db LV (lev+1))(hP:∀c,P c->c<X.nx)(hX:X.nx<=X1.nx)(hM:nE (fun c=>(P c\/X.nx<=c)/\c≠xb) S0 X1 mb db m1 LV)(hS:S0.nx<=X.nx)(hpre:aES (lev+1) m1)(hpend:(many:Int)<=m1.pend)(hmany:many<=3)(hlev:lev<=800)
  (hLP:∀p∈LV,p.1<m1.ps) (hseen:wG (fun c=>PB mb db m1 c/\P c) X1 v rows) (hrn:rows.length=m1.ps.toNat) (hrl:∀l∈rows,l.length<=lev) (ltb:tb<X1.nx) (lxb:xb<X1.nx) (xxb:X.nx<=xb) (ntx:tb≠xb) (ptb:PB mb db m1 tb) (pxb:PB mb db m1 xb) (gtb:X1.h.get tb=some (.cells [.int .i64 pl,.int .i64 mn,.int .i64 sn] false 0)) (gxb:X1.h.get xb=some (.cells [xk,xp,xf,.ce,.ce,.ce] false 0)) (hsn:0<=sn/\sn<=1000)
  (p0:aB 0 F= .ptr mb 0) (p1:aB 1 F= .int .i64 (lev:Int)) (p2:aB 2 F=v) (p8:aB 8 F= .ptr tb 0) (p9:aB 9 F= .int .i64 (many:Int)) (p11:aB 11 F= .ptr xb 0) (p12:aB 12 F= .int .i64 0)
  (hQ:∀F' Y mi cs C ws xa xw,(∀j,j<12->aB j F'=aB j F)->KdR P S0 X X1 mb db xb LV (LV.length - (lev+1)) m1 xk xp xf pl Y many many mi cs C ws xa xw->Q .normal ⟨F',false⟩ Y):nD fns aQJ ⟨F,false⟩ X1 Q:=by
 unfold aQJ;refine bG (Q:=fun o A' Z=>o= .normal/\KdI P S0 X X1 mb db xb LV (LV.length - (lev+1)) m1 xk xp xf pl many F 0 A' Z) (aQ (bX (KdI P S0 X X1 mb db xb LV (LV.length - (lev+1)) m1 xk xp xf pl many F) ?_ many _ _ ⟨rfl,fun _ _=>rfl,0,m1,[],[],[],.ce,.ce,au,⟨hM.mono fun c _ h=>⟨h.1,h.2,(by intro e;cases e),(by intro e;cases e)⟩,zI.refl hpre,aGY.nil,rfl,⟨fun _=>⟨rfl,fun w hw=>by cases hw⟩,fun _=>rfl⟩,Af _,fun c _ hp=>⟨hp,fun _=>rfl⟩,gxb,.inl ⟨rfl,rfl,rfl⟩,.inl ⟨rfl,rfl,rfl⟩,fun c hc=>(by cases hc),fun c hc=>(by cases hc),fun c hc=>(by cases hc)⟩,p12⟩)) ?_;rotate_left
 ·rintro o ⟨F',inr⟩ Z ⟨rfl,q0,hk,i,mi,cs,C,ws,xa,xw,hik,hR,_⟩;simp only at q0 hk;subst q0;obtain rfl:i=many:=by omega
  exact hQ F' Z mi cs C ws xa xw hk hR
 rintro k ⟨G,inr⟩ Y ⟨q0,hk,i,mi,cs,C,ws,xa,xw,hik,hR,g12⟩;simp only at q0 hk g12;subst q0;have g0:aB 0 G= .ptr mb 0:=(hk 0 au).trans p0;have g1:aB 1 G= .int .i64 (lev:Int):=(hk 1 au).trans p1;have g2:aB 2 G=v:=(hk 2 au).trans p2;have g8:aB 8 G= .ptr tb 0:=(hk 8 au).trans p8;have g9:aB 9 G= .int .i64 (many:Int):=(hk 9 au).trans p9;have g11:aB 11 G= .ptr xb 0:=(hk 11 au).trans p11;refine fA (c9 g9 g12 ?_);by_cases hlt:i<many;rotate_left
 ·refine aO (by simp only[↓sU,sD,rE,↓reduceIte,rA,Aa (show ¬ (i:Int)<(many:Int) by omega)]) (bS ?_);refine ae ?_;have hk0:k=0:=by omega
  subst hk0;refine⟨rfl,fun j hj=>?_,i,mi,cs,C,ws,xa,xw,hik,hR,ah g12⟩;rw[<-hk j hj];have:j=0\/j=1\/j=2\/j=3\/j=4\/j=5\/j=6\/j=7\/j=8\/j=9\/j=10\/j=11:=by omega
  rcases this with rfl | rfl | rfl | rfl | rfl | rfl | rfl | rfl | rfl | rfl | rfl | rfl<;>simp only[↓sU,sD,rE,↓reduceIte,rA]
 refine aP (by simp only[↓sU,sD,rE,↓reduceIte,rA,Ac (show(i:Int)<(many:Int) by omega)]) (aJ ?_);try refine ae ?_
 have w1:=dk i
 have gtY:=((hR.frm tb ltb ptb).2 ntx).trans gtb;have t0:=eE (p:=0) gtY rfl;refine aE (aQ (aE (bG (Q:=fun o A' Z=>o= .normal/\A'.inr=false/\(∀j,j<13->aB j A'.F=aB j G)/\∃ws' xw',KdR P S0 X X1 mb db xb LV (LV.length - (lev+1)) m1 xk xp xf pl Z i (i+1) mi cs C ws' xa xw') (aE (aM ?_)) ?_)))
 ·refine di g8 @aD @aC t0 ?_;by_cases hpl:pl<0
  ·refine aP (by simp only[↓sU,sD,rE,↓reduceIte,rA,Ac hpl]) ?_;have hmk:nE (fun c=>Pin P X xb xa xw c/\c<Y.nx) S0 Y mb db mi LV:=hR.mkb.mono fun c hc h=>⟨h,hc⟩;have hlw:=(hR.wts.1 hpl).1;refine aN8 (Y0:=X1) (mb:=mb) (db:=db) (xb:=xb) (m:=mi) (LV:=LV) (pv:=xw) (l:=ws) H rfl hmk (ah g0) (ah g11) hR.gx ⟨(hR.frm xb lxb pxb).1,fun h=>h.1.2.1 rfl⟩ lxb hR.nx hR.gw (fun c hc=>⟨hR.pw c hc,fun h=>h.1.2.2.2 hc⟩) (fun c hc h=>aw h.2) au ?_;intro F' Z xw' w hk' hZ nZ kZ gZ hgZ hbZ w2 w3;have lowa:∀ {c},bP xa=some c->X1.nx<=c/\c<Y.nx:=fun hc=>⟨(hR.ga.blk hc).1,(hR.ga.blk hc).2.1⟩;refine⟨rfl,rfl,fun j hj=>?_,ws++ [w],xw',hZ.mono fun c hc h=>⟨h.1.1,h.1.2.1,h.1.2.2.1,fun e=>by have:=hbZ c e;have:=h.2;omega⟩,hR.bld,hR.forT,hR.len,⟨fun _=>⟨by rw[Aj,Bc,hlw],fun u hu=>?_⟩,fun h=>absurd hpl h⟩,Bb hR.nx nZ,fun c hc hp=>⟨(hR.frm c hc hp).1,fun hne=>(kZ c (Ag hc hR.nx) (hR.frm c hc hp).1 hne (fun e=>by have:=(hR.gw.blk e).1;omega)).trans ((hR.frm c hc hp).2 hne)⟩,gZ,hR.ga.move nZ fun c hc=>kZ c (lowa hc).2 (hR.pa c hc) (by have:=(lowa hc).1;omega) (hR.ne c hc),hgZ,hR.pa,fun c hc=>hR.mkb.p.fresh (hbZ c hc),fun c hc e=>by have:=hbZ c e;have:=(lowa hc).2;omega⟩
   ·have hj16:=hk' j au;rw[hj16];have:j=0\/j=1\/j=2\/j=3\/j=4\/j=5\/j=6\/j=7\/j=8\/j=9\/j=10\/j=11\/j=12:=by omega
    rcases this with rfl | rfl | rfl | rfl | rfl | rfl | rfl | rfl | rfl | rfl | rfl | rfl | rfl<;>simp only[↓sU,sD,rE,↓reduceIte,rA]
   ·rcases Bs.1 hu with h | h
    ·exact(hR.wts.1 hpl).2 u h
    ·rw[Es.1 h];exact⟨w2,w3⟩
  ·refine aO (by simp only[↓sU,sD,rE,↓reduceIte,rA,Aa hpl]) (aJ ?_);refine ae ?_;refine⟨fun j hj=>?_,ws,xw,⟨hR.mkb,hR.bld,hR.forT,hR.len,⟨fun h=>absurd h hpl,hR.wts.2⟩,hR.nx,hR.frm,hR.gx,hR.ga,hR.gw,hR.pa,hR.pw,hR.ne⟩⟩;have:j=0\/j=1\/j=2\/j=3\/j=4\/j=5\/j=6\/j=7\/j=8\/j=9\/j=10\/j=11\/j=12:=by omega
   rcases this with rfl | rfl | rfl | rfl | rfl | rfl | rfl | rfl | rfl | rfl | rfl | rfl | rfl<;>simp only[↓sU,sD,rE,↓reduceIte,rA]
 clear hR gtY t0;rintro o ⟨G1,inr⟩ Z ⟨rfl,q0,k1,ws',xw',hZ⟩;simp only at q0 k1;subst q0;have b0:aB 0 G1= .ptr mb 0:=(k1 0 au).trans g0;have b1:aB 1 G1= .int .i64 (lev:Int):=(k1 1 au).trans g1;have b2:aB 2 G1=v:=(k1 2 au).trans g2;have b8:aB 8 G1= .ptr tb 0:=(k1 8 au).trans g8;have b11:aB 11 G1= .ptr xb 0:=(k1 11 au).trans g11;have b12:aB 12 G1= .int .i64 (i:Int):=(k1 12 au).trans g12;have gtZ:=((hZ.frm tb ltb ptb).2 ntx).trans gtb;have hps:=hpre.ps;have hseenZ:wG (fun c=>PB mb db mi c/\P c) Z v rows:=hseen.move hZ.nx fun c hc hp=>⟨(hZ.frm c hc hp.1).2 (by have:=hP c hp.2;omega),(hZ.frm c hc hp.1).1,hp.2⟩;try refine ae ?_
 refine bK (ae ?_);refine fA (ae ?_);refine aIW (tb:=tb) (lev:=lev) (pl:=pl) (many:=mn) (sn:=sn) (i:=(i:Int)) hseenZ hrl au au  (ah b2) (ah b8) gtZ (aw hZ.nx) hsn (ah b12) (af) (ag) ?_;intro F3 Z3 nv A' k3 e13 s3 hlA hlenA hsA;have c0:=k3 0 au;have c1:=k3 1 au;have c11:=k3 11 au;have c12:=k3 12 au;simp only[↓sU,sD,rE,↓reduceIte,rA,b0,b1,b11,b12] at c0 c1 c11 c12;try refine ae ?_
 have hZ3:=hZ.same lxb s3;have hm3:nE (fun c=>Pin P X xb xa xw' c/\c<Z3.nx) S0 Z3 mb db mi LV:=hZ3.mkb.mono fun c hc h=>⟨h,hc⟩;have hnd:mi.bw.length=m1.bw.length+C.length:=by rw[hZ3.bld.bw,Aj]
 have hpn:=hZ3.bld.pend;have lowa:∀ {c},bP xa=some c->X1.nx<=c/\c<Z.nx:=fun hc=>⟨(hZ.ga.blk hc).1,(hZ.ga.blk hc).2.1⟩;have loww:∀ {c},bP xw'=some c->X1.nx<=c/\c<Z.nx:=fun hc=>⟨(hZ.gw.blk hc).1,(hZ.gw.blk hc).2.1⟩;have nZ3:=hZ3.nx;have hcl:=hZ3.len;refine aP8 (Y0:=X1) (mb:=mb) (db:=db) (xb:=xb) (m:=mi) (LV:=LV) (xa:=xa) (l:=cs) (nv:=nv) (lev:=(lev:Int)) (G:=fun c m'=>c=(mi.bw.length:Int)/\∃B,zI mi m' B 1/\aAk (LV.length - (lev+1)) mi.bw.length B) rfl hm3 (fun c h=>h.2) c0 c1 au c11 e13 hZ3.gx ⟨(hZ3.frm xb lxb pxb).1,fun h=>h.1.2.1 rfl⟩ lxb hZ3.nx hZ3.ga (fun c hc=>⟨hZ3.pa c hc,fun h=>h.1.2.2.1 hc⟩) au ?_ ?_
 ·intro X4 x4;have hcall:=hIH X4 (fun c=>Pin P X xb xa xw' c/\c<Z3.nx) mi nv A' (hm3.same x4) (aw x4.1) (hZ3.bld.pre hpre au) au (hsA.move x4.1 fun c hc hp=>⟨x4.2 c hc,hZ.mkb.p.fresh hp.1,⟨.inr (aw hZ.nx),aw hZ.nx,fun e=>by have:=(lowa e).2;omega,fun e=>by have:=(loww e).2;omega⟩,hp.2⟩) (by rw[hlA,hrn,hZ3.bld.ps]) hlenA (fun p hp=>by rw[hZ3.bld.ps];exact hLP p hp);rw[show((lev:Int)+1)=((lev+1:Nat):Int) by omega];refine aF hcall ?_;rintro r W ⟨rfl,m',B,hB,hT,hW,bW⟩;exact⟨_,m',rfl,⟨rfl,B,hB,hT⟩,hW,bW⟩
 ·rintro F5 W xa' c m' k5 ⟨rfl,B,hB,hT⟩ hW nW pW kW gxW gaW paW;have d12:=k5 12 au;rw[c12] at d12;try refine ae ?_
  refine aM (c9 d12 w1 ?_);have hbt:=hZ3.bld.trans hB;rw[show((i:Int)+1)=((i+1:Nat):Int) by omega] at hbt;have hft:=hZ3.forT.snoc (B:=B) (by rw[<-hnd];exact hT);rw[<-hnd] at hft;have hxaz:∀ {c},bP xa'=some c->Z3.nx<=c:=fun hc=>(paW _ hc).1;refine⟨k - 1,au,rfl,fun j hj=>?_,i+1,m',cs++ [(mi.bw.length:Int)],C++B,ws',xa',xw',au,⟨hW.mono fun c hc h=>?_,hbt,hft,by rw[Aj,Bc,hcl],hZ3.wts,au,fun c hc hp=>⟨pW c au (hZ3.frm c hc hp).1,fun hne=>(kW c au (hZ3.frm c hc hp).1 hne (fun e=>by have:=(lowa e).1;omega)).trans ((hZ3.frm c hc hp).2 hne)⟩,gxW,gaW,hZ3.gw.move nW fun c hc=>kW c (by have:=(loww hc).2;have:=s3.1;omega) (hZ3.pw c hc) (by have:=(loww hc).1;omega) (fun e=>hZ3.ne c e hc),fun c hc=>(paW c hc).2,fun c hc=>pW c (by have:=(loww hc).2;have:=s3.1;omega) (hZ3.pw c hc),fun c hc e=>by have:=hxaz hc;have:=(loww e).2;have:=s3.1;omega⟩,af⟩
  ·have e5:=k5 j au;have e3:=k3 j au;rw[<-hk j hj,<-k1 j au];have:j=0\/j=1\/j=2\/j=3\/j=4\/j=5\/j=6\/j=7\/j=8\/j=9\/j=10\/j=11:=by omega
   rcases this with rfl | rfl | rfl | rfl | rfl | rfl | rfl | rfl | rfl | rfl | rfl | rfl<;>(simp only[↓sU,sD,rE,↓reduceIte,rA] at e3;simp only[↓sU,sD,rE,↓reduceIte,rA,e5,e3])
  ·rcases h.1 with h1 | h1
   ·exact⟨h1.1.1,h1.1.2.1,h.2,h1.1.2.2.2⟩
   ·exact⟨.inr au,au,h.2,fun e=>by have:=(loww e).2;have:=s3.1;omega⟩
def aBa:dI:=⟨0,0,0,[],[],[]⟩
theorem aHZ{A C:List dI}{x y:dI}:(A++ [y]++C).set A.length x=A++(x::C):=by
 rw[Be,List.set_append_right _ _ (Af _),Ef];rfl
theorem aPP{lev:Nat}{m m':Mk}{x:dI}(hp:aES lev m)(hp1:1<=m.pend)(hx:aRs m.ps x)(h1:m'.bw=m.bw++ [x])(h2:m'.bz=m.bz)(h3:m'.views=m.views)(h4:m'.most=m.most)(h5:m'.ps=m.ps)(h6:m'.pend=m.pend - 1):zI m m' [x] 1 where
 bw:=h1
 ok:=fun y hy=>by rw[Es.1 hy];exact .inl hx
 ord:=fun lab hl=>by
  have e:lbl x=Option.none:=by unfold lbl;rw[if_neg (by rw[hx.kind];decide)]
  rw[h2];show pL (lab++ [lbl x]) _;rw[e];exact .none hl
 inf:=⟨[],by rw[h2,Cb]⟩
 vws:=⟨[],by rw[h3,Cb]⟩
 vok:=⟨by rw[h2,h3];exact hp.vok.len,fun j v hv=>by rw[h3] at hv;rw[h2,h5];exact hp.vok.at_ j v hv⟩
 used:=fun j h7 h8=>by rw[h2] at h8;omega
 most:=h4
 ps:=h5
 pend:=h6
 fit:=by
  have:=hp.fit;rw[h1,h6,h4,Aj,Bc];omega
 il:=by
  have:=hp.il;rw[h1,h2,Aj,Bc];omega
structure aPv(lev:Nat)(m2 m3:Mk)(pl info many:Int):Prop where
 bw:m3.bw=m2.bw
 most:m3.most=m2.most
 ps:m3.ps=m2.ps
 pend:m3.pend=m2.pend
 vok:aCT m3
 info0:0<=info
 many1:1<=many/\many<=3
 cases:(m3.bz=m2.bz/\m3.views=m2.views/\((pl<0/\info=0)\/(0<=pl/\m2.bz[info.toNat]? =some ⟨pl,many⟩/\aBV m2 info)))\/(0<=pl/\info=(m2.bz.length:Int)/\m3.bz=m2.bz++ [⟨pl,many⟩]/\m3.views=m2.views++ [(pl,(lev:Int),info)])
theorem aFd{lev:Nat}{m2 m3:Mk}{pl info many:Int}(h:aPv lev m2 m3 pl info many)(hnd:∀x∈m2.bw,x.kind=2->x.info<(m2.bz.length:Int)):
  ((pl<0\/info≠(m3.bz.length:Int) - 1\/aBV m3 info)->m3.bz=m2.bz/\m3.views=m2.views)/\((0<=pl/\info=(m3.bz.length:Int) - 1/\¬aBV m3 info)->m3.bz.dropLast=m2.bz/\m3.views.dropLast=m2.views):=by
 rcases h.cases with⟨h1,h2,h3⟩ | ⟨h1,h2,h3,h4⟩
 ·refine⟨fun _=>⟨h1,h2⟩,fun⟨a,b,c⟩=>?_⟩;rcases h3 with⟨h5,_⟩ | ⟨_,_,h5⟩
  ·omega
  ·exact absurd (by have⟨x,hx,hk⟩:=h5;exact⟨x,by rw[h.bw];exact hx,hk⟩) c
 ·refine⟨fun ho=>?_,fun _=>⟨by rw[h3,List.dropLast_concat],by rw[h4,List.dropLast_concat]⟩⟩;rcases ho with ho | ho | ho
  ·omega
  ·rw[h3,Aj,Bc] at ho;omega
  ·have⟨x,hx,hk,hi⟩:=ho;rw[h.bw] at hx;have:=hnd x hx hk;omega
def iR(pl info:Int)(cs ws:bm):dI:=if pl<0 then⟨1,0,0,cs,ws,[]⟩ else⟨2,pl,info,cs,ws,[]⟩
theorem aPl{lev K:Nat}{m m2 m3 m5 mi m':Mk}{pl info many:Int}{cs ws:bm}{C:List dI}{i:Nat}(hp:aES lev m)(hp1:1<=m.pend)(hpl:pl<m.ps)(e2:m2.bw=m.bw++ [aBa]/\m2.bz=m.bz/\m2.views=m.views/\m2.most=m.most/\m2.ps=m.ps/\m2.pend=m.pend - 1)(hf:aPv lev m2 m3 pl info many)(e5:m5.bw=m3.bw/\m5.bz=m3.bz/\m5.views=m3.views/\m5.most=m3.most/\m5.ps=m3.ps/\m5.pend=m3.pend+many)(hb:zI m5 mi C (i:Int))(hi:(i:Int)=many)(hcs:cs.length=i)(hft:aGY K m5.bw.length cs C)(hws:(pl<0->ws.length=i/\∀w∈ws,1<=w/\w<=3)/\(¬pl<0->ws= []))
  (h1:m'.bw=mi.bw.set m.bw.length (iR pl info cs ws)) (h2:m'.bz=mi.bz) (h3:m'.views=mi.views) (h4:m'.most=mi.most) (h5:m'.ps=mi.ps) (h6:m'.pend=mi.pend):zI m m' (iR pl info cs ws::C) 1/\aAk (K+1) m.bw.length (iR pl info cs ws::C):=by
 have⟨a1,a2,a3,a4,a5,a6⟩:=e2;have⟨c1,c2,c3,c4,c5,c6⟩:=e5;have hN:mi.bw=m.bw++ [aBa]++C:=by rw[hb.bw,c1,hf.bw,a1]
 have hN':m'.bw=m.bw++(iR pl info cs ws::C):=by rw[h1,hN,aHZ]
 have hm1:=hf.many1;have hi0:=hf.info0;have⟨I5,hI5⟩:=hb.inf;have⟨V5,hV5⟩:=hb.vws;have hil:∃I,m5.bz=m.bz++I:=by
  rcases hf.cases with⟨b1,_,_⟩ | ⟨_,_,b1,_⟩
  ·exact⟨[],by rw[c2,b1,a2,Cb]⟩
  ·exact⟨_,by rw[c2,b1,a2]⟩
 have hvl:∃V,m5.views=m.views++V:=by
  rcases hf.cases with⟨_,b1,_⟩ | ⟨_,_,_,b1⟩
  ·exact⟨[],by rw[c3,b1,a3,Cb]⟩
  ·exact⟨_,by rw[c3,b1,a3]⟩
 have⟨I,hI⟩:=hil;have⟨V,hV⟩:=hvl;have hps:mi.ps=m.ps:=by rw[hb.ps,c5,hf.ps,a5]
 have hnext:(iR pl info cs ws).next=cs:=by unfold iR;split<;>rfl
 have hok:mS m.ps mi.bz (iR pl info cs ws):=by
  unfold iR;by_cases hpn:pl<0
  ·rw[if_pos hpn];have⟨w1,w2⟩:=hws.1 hpn;exact .inr (.inl ⟨rfl,rfl,rfl,rfl,by show 1<=cs.length;omega,by show cs.length<=3;omega,by show ws.length=cs.length;omega,w2⟩)
  ·rw[if_neg hpn];have hat:mi.bz[info.toNat]? =some ⟨pl,(cs.length:Int)⟩:=by
    rw[hcs,hi,hI5];rcases hf.cases with⟨b1,_,b3⟩ | ⟨_,b2,b1,_⟩
    ·rcases b3 with⟨b3,_⟩ | ⟨_,b3,_⟩
     ·exact absurd b3 hpn
     ·rw[c2,b1,Ap (Ai.1 b3).1];exact b3
    ·rw[c2,b1,b2,Bd,Ap (by simp),Aq (Af _),Ef];rfl
   exact .inr (.inr ⟨rfl,hws.2 hpn,rfl,by show 1<=cs.length;omega,by show cs.length<=3;omega,⟨by show 0<=pl;omega,hpl⟩,hi0,hat⟩)
 refine⟨⟨hN',fun x hx=>?_,fun lab hl=>?_,⟨I++I5,by rw[h2,hI5,hI,Be]⟩,⟨V++V5,by rw[h3,hV5,hV,Be]⟩,⟨by rw[h2,h3];exact hb.vok.len,fun j v hv=>by rw[h3] at hv;rw[h2,h5];exact hb.vok.at_ j v hv⟩,fun j j1 j2=>?_,by rw[h4,hb.most,c4,hf.most,a4],by rw[h5,hps],by rw[h6,hb.pend,c6,hf.pend,a6];omega,?_,?_⟩,?_⟩
 ·rw[h2];rcases Br.1 hx with rfl | hx
  ·exact hok
  ·have:=hb.ok x hx;rw[c5,hf.ps,a5] at this;exact this
 ·rw[h2];have hl5:pL (lab++ [lbl (iR pl info cs ws)]) m5.bz.length:=by
   rcases hf.cases with⟨b1,_,b3⟩ | ⟨b0,b2,b1,_⟩
   ·rw[c2,b1,a2];rcases b3 with⟨b3,_⟩ | ⟨b3,b4,_⟩
    ·have e:lbl (iR pl info cs ws)=Option.none:=by unfold iR;rw[if_pos b3];rfl
     rw[e];exact .none hl
    ·have e:lbl (iR pl info cs ws)=some info.toNat:=by unfold iR;rw[if_neg au];rfl
     rw[e];have:=(Ai.1 b4).1;rw[a2] at this;exact .old hl this
   ·have e:lbl (iR pl info cs ws)=some info.toNat:=by unfold iR;rw[if_neg au];rfl
    rw[e,c2,b1,b2,Bd,a2,Aj,Bc];exact .new hl
  have:=hb.ord _ hl5;rw[Be] at this;exact this
 ·rw[h2] at j2;by_cases hj:j<m5.bz.length
  ·rcases hf.cases with⟨b1,_,_⟩ | ⟨b0,b2,b1,_⟩
   ·rw[c2,b1,a2] at hj;omega
   ·rw[c2,b1,a2,Aj,Bc] at hj;refine⟨_,Bn ..,?_,?_⟩
    ·unfold iR;rw[if_neg au]
    ·unfold iR;rw[if_neg au];show info=_;rw[b2,a2];omega
  ·have⟨x,hx,hk⟩:=hb.used j au j2;exact⟨x,Bf _ hx,hk⟩
 ·have:=hb.fit;rw[hN',h6,h4];rw[hN] at this;simp only[Aj,Av,Co] at this ⊢;omega
 ·have:=hb.il;rw[hN',h2];rw[hN] at this;simp only[Aj,Av,Co] at this ⊢;omega
 ·refine aAk.node ?_;rw[hnext];have e:m5.bw.length=m.bw.length+1:=by rw[c1,hf.bw,a1,Aj];rfl
  rw[<-e];exact hft
theorem aOe{lev:Nat}{m m2 m3 m5:Mk}{pl info many:Int}(hp:aES lev m)(hp1:1<=m.pend)(e2:m2.bw=m.bw++ [aBa]/\m2.bz=m.bz/\m2.views=m.views/\m2.most=m.most/\m2.ps=m.ps/\m2.pend=m.pend - 1)(hf:aPv lev m2 m3 pl info many)(e5:m5.bw=m3.bw/\m5.bz=m3.bz/\m5.views=m3.views/\m5.most=m3.most/\m5.ps=m3.ps/\m5.pend=m3.pend+many)(hfit:(m.bw.length:Int)+1+(m.pend - 1)+many<=m.most):aES (lev+1) m5:=by
 have⟨a1,a2,a3,a4,a5,a6⟩:=e2;have⟨c1,c2,c3,c4,c5,c6⟩:=e5;have hm1:=hf.many1;have hN:m5.bw=m.bw++ [aBa]:=by rw[c1,hf.bw,a1]
 have hil:=hp.il;have hlen5:m.bz.length<=m5.bz.length/\m5.bz.length<=m.bz.length+1:=by
  rcases hf.cases with⟨b1,_,_⟩ | ⟨_,_,b1,_⟩
  ·rw[c2,b1,a2];omega
  ·rw[c2,b1,a2,Aj,Bc];omega
 refine⟨⟨by rw[c2,c3];exact hf.vok.len,fun j v hv=>by rw[c3] at hv;rw[c2,c5];exact hf.vok.at_ j v hv⟩,fun j v hv=>?_,fun x hx hk=>?_,by rw[hN,c4,hf.most,a4,c6,hf.pend,a6,Aj,Bc];omega,by rw[c6,hf.pend,a6];omega,by rw[c4,hf.most,a4];exact hp.most,by rw[hN,Aj,Bc];omega,by rw[c5,hf.ps,a5];exact hp.ps⟩
 ·rw[c3] at hv;have old:m.views[j]? =some v->v.2.1<((lev+1:Nat):Int)\/aBV m5 v.2.2:=fun h=>(hp.lv j v h).elim (fun h=>.inl au) fun h=>.inr (h.mono hN);rcases hf.cases with⟨_,b1,_⟩ | ⟨_,_,_,b1⟩
  ·rw[b1,a3] at hv;exact old hv
  ·rw[b1,a3] at hv;by_cases hj:j<m.views.length
   ·rw[Ap hj] at hv;exact old hv
   ·rw[Aq au] at hv;have h0:j - m.views.length=0:=by
     rcases An (j - m.views.length) with h | h
     ·exact h
     ·rw[Bo (by simp;omega)] at hv;cases hv
    rw[h0] at hv;cases hv;exact .inl (by show(lev:Int)<_;omega)
 ·rw[hN] at hx;rcases Bs.1 hx with h | h
  ·have:=hp.nd x h hk;omega
  ·rw[Es.1 h] at hk;cases hk
theorem aG7{c:AC}{F:Fr}{S:St}{Q:Out->bN->St->Prop}(Φ:Fr->Prop)(h0:Φ F)(h:∀F',Φ F'->nD fns c ⟨F',false⟩ S Q):nD fns c ⟨F,false⟩ S Q:=h F h0
theorem aTp{F:Fr}{h:Ev.T AB}:iT (.build [.int .i64 0,.int .i64 0,.int .i64 0,.ce,.ce,.ce] []) F h=some (.agg [.int .i64 0,.int .i64 0,.int .i64 0,.ce,.ce,.ce]):=rfl
theorem aTq{F:Fr}{h:Ev.T AB}{pl info:Int}(h128:aB 128 F= .int .i64 pl)(h129:aB 129 F= .int .i64 info):iT (.build [.int .i64 0,.int .i64 0,.int .i64 0,.ce,.ce,.ce] [(0,1,.c (.int .i64 2)),(1,1,.t 128),(2,1,.t 129)]) F h=some (.agg [.int .i64 2,.int .i64 pl,.int .i64 info,.ce,.ce,.ce]):=by
 show(aU (eQ _ (fG F [(0,1,.c (.int .i64 2)),(1,1,.t 128),(2,1,.t 129)])) fun cs=>some (AV.agg cs))=_;simp only[fG,show(cP.t 128).val F= .int .i64 pl from h128,show(cP.t 129).val F= .int .i64 info from h129,mX,eQ,cN,aH];rfl
theorem aLt{k i b p:Nat}{v:AV}(h:dT (.slice k) v i=some (.ptr b p)):bP v=some b:=by
 cases v with
 | sl b' off len cap o=>
  have h:bO (Nat.blt i len) (some (AV.ptr b' (off+i * k))) none=some (.ptr b p):=h;cases hh:Nat.blt i len with
  | true=>rw[hh,aN] at h;cases h;rfl
  | false=>rw[hh,aR] at h;cases h
 | _=>cases h
noncomputable def aOc:List AO:=[mt 195 0,
om 196 1 (.cl (.t 195)),
om 197 3 (.cw 7 (.t 196)),
om 198 7 (.cw 1 (.t 197)),
om 199 15 (ld 198),
mt 200 7,
oq 201 (.ld true 6 (.t 11)),
om 202 127 (.cq (.slice 6) (.t 199) (.t 200))]
def aPB(P:Nat->Prop)(S0 X:St)(mb db:Nat)(LV:List (Int×Int×Int))(lev:Nat)(m:Mk)(Z:St):Prop:=∃m' B,zI m m' B 1/\aAk (LV.length - lev) m.bw.length B/\nE (fun c=>P c\/X.nx<=c) S0 Z mb db m' LV/\fN mb db m X m' Z
theorem aG8{P:Nat->Prop}{S0 X Y:St}{mb db lev:Nat}{LV:List (Int×Int×Int)}{m m4:Mk}(H:Has fns)(hpre:aES lev m)(hp1:1<=m.pend)(hY:nE P S0 Y mb db m4 LV)(bY:fN mb db m X m4 Y)(e:m4.bw=m.bw++ [aBa]/\m4.bz=m.bz/\m4.views=m.views/\m4.most=m.most/\m4.ps=m.ps/\m4.pend=m.pend - 1):
  eT fns (.fn 68 [] []) [.ptr mb 0,.int .i64 (m.bw.length:Int)] Y fun _ Z=>aPB P S0 X mb db LV lev m Z:=by
 have⟨e1,e2,e3,e4,e5,e6⟩:=e;refine aF (aLE H hY (show m.bw.length<m4.bw.length by rw[e1,Aj];simp) (by rw[e5];exact hpre.ps)) ?_;rintro r Z ⟨x,hx,hZ,bZ⟩;rw[e5] at hx;have hset:m4.bw.set m.bw.length x=m.bw++ [x]:=by
  have:=aHZ (A:=m.bw) (C:=[]) (x:=x) (y:=aBa);rw[Cb] at this;rw[e1];exact this
 exact⟨{m4 with bw:=m4.bw.set m.bw.length x},[x],aPP hpre hp1 hx hset e2 e3 e4 e5 e6,aAk.end_ hx.next,hZ.mono fun c _ h=>h.elim (fun h=>.inl h) fun h=>.inr (Bb bY.1 h),bY.trans bZ⟩
theorem aDy{S0:St}{mb db lev:Nat}{LV:List (Int×Int×Int)}(H:Has fns)(hLV:∀p∈LV, -1<=p.1/\2<=p.2.1/\p.2.1<=3/\0<=p.2.2/\p.2.2<=1000)(hLl:LV.length<=700)(hle:lev<=LV.length)(hIH:lev<LV.length->aCV fns S0 mb db LV (lev+1)):aCV fns S0 mb db LV lev:=by
 intro X P m v rows hM hS hpre hp1 hseen hrn hrl hLP;have hfit:=hpre.fit;have hmost:=hpre.most;have hil:=hpre.il;have hps:=hpre.ps;have hvl:=hpre.vok.len;have f8:=eE (p:=8) hM.g rfl;have f4:=eE (p:=4) hM.g rfl;have wP:IntKind.i64.wrap (m.pend - 1)=m.pend - 1:=wrap_i64 au au;refine bL H.f46 (by simp) ?_;refine ae ?_;refine bK (ae ?_);refine bK (dw @aY @bB @aD @aC f8 hM.p.nod.len ?_);refine bK (dw @aY @bB @aD @aC f4 wP ?_);refine fK (v:=.undef) (S1:=⟨X.h.set mb (some (.cells (eG db {m with pend:=m.pend - 1}) false 0)),X.nx⟩) (fun call=>by refine c9 @dW @cN ?_;exact stc (cs:=eG db m) (p:=4) (S:=X) hM.g (show 4<10 by omega)) ?_;refine ae ?_;obtain⟨X1,hX1⟩:∃Z:St,Z=⟨X.h.set mb (some (.cells (eG db {m with pend:=m.pend - 1}) false 0)),X.nx⟩:=⟨_,rfl⟩;have hM1:nE P S0 X1 mb db {m with pend:=m.pend - 1} LV:=(hM.p.keep (m':={m with pend:=m.pend - 1}) (X':=X) (Af _) (fun _ _ _ _=>rfl) hM.p.dr rfl rfl rfl rfl rfl rfl rfl rfl rfl).1.put (by rw[hX1];simp only;rw[dq,if_pos rfl]) (by rw[hX1];exact Af _) fun c _ hne=>by rw[hX1];simp only;rw[dq,if_neg hne]
 have k1:fN mb db m X {m with pend:=m.pend - 1} X1:=(hM.p.keep (m':={m with pend:=m.pend - 1}) (X':=X) (Af _) (fun _ _ _ _=>rfl) hM.p.dr rfl rfl rfl rfl rfl rfl rfl rfl rfl).2.trans (by rw[hX1];exact fN.put);rw[<-hX1];have f81:=eE (p:=8) hM1.g rfl;have hbl:=fun(F:Fr) (h:Ev.T AB)=>aTp (F:=F) (h:=h);refine bK ?_;simp only[↓stU,aG,rE,↓reduceIte,rA,aY,bB,aD,aC,f81,hbl];refine oR (aR0 (by simp only[↓stU,aG,rE,↓reduceIte,rA];rfl)) ?_;intro X2 x2 n2 g2;have hM2:=hM1.same x2;have⟨v',X3,eA,aV,nV,kV,bV⟩:=hM2.p.nod.push (bytes:=96) (x:=.sl X1.nx 0 1 1 false) (a:=aBa) ay (aw k1.1) rfl (aQv g2 rfl) rfl ⟨.ce,.ce,.ce,rfl,.inl ⟨rfl,.inl rfl⟩,.inl ⟨rfl,.inl rfl⟩,.inl ⟨rfl,.inl rfl⟩,fun c hc=>by rcases hc with h | h | h<;>cases h⟩ (by show m.bw.length+1<=room;unfold room;omega) (by show(m.bw.length+1) * 96<=room;unfold room;omega);refine fK (fun call=>by refine dz @jJ ?_;exact eA) ?_;refine ed @aY @bB @aD @aC ?_;have⟨kP,kM⟩:=hM2.p.pushN nV kV bV aV;have gm3:X3.h.get mb=some (.cells (eG db {m with pend:=m.pend - 1}) false 0):=(kV mb hM2.p.lt fun e=>(hM2.p.d1 mb e).1 rfl).trans hM2.g;refine fK (v:=.undef) (S1:=⟨X3.h.set mb (some (.cells (eG db {m with pend:=m.pend - 1,na:=v',bw:=m.bw++ [aBa]}) false 0)),X3.nx⟩) (fun call=>by refine d9 @dW aV.cells @aH ?_;exact stc (cs:=eG db {m with pend:=m.pend - 1}) (p:=8) (S:=X3) gm3 (show 8<10 by omega)) ?_;refine ap ?_;obtain⟨X4,hX4⟩:∃Z:St,Z=⟨X3.h.set mb (some (.cells (eG db {m with pend:=m.pend - 1,na:=v',bw:=m.bw++ [aBa]}) false 0)),X3.nx⟩:=⟨_,rfl⟩;have hM4:nE P S0 X4 mb db {m with pend:=m.pend - 1,na:=v',bw:=m.bw++ [aBa]} LV:=kP.put (by rw[hX4];simp only;rw[dq,if_pos rfl]) (by rw[hX4];exact Af _) fun c _ hne=>by rw[hX4];simp only;rw[dq,if_neg hne]
 have k4:fN mb db m X {m with pend:=m.pend - 1,na:=v',bw:=m.bw++ [aBa]} X4:=((k1.trans (fN.same x2)).trans kM).trans (by rw[hX4];exact fN.put);rw[<-hX4];clear hX4 gm3 kP kM kV nV bV eA aV hM2 g2 n2 x2 f81 hX1 k1 hM1;obtain⟨m2,hm2⟩:∃m2:Mk,m2= {m with pend:=m.pend - 1,na:=v',bw:=m.bw++ [aBa]}:=⟨_,rfl⟩;rw[<-hm2] at hM4 k4;have E2:m2.bw=m.bw++ [aBa]/\m2.bz=m.bz/\m2.views=m.views/\m2.most=m.most/\m2.ps=m.ps/\m2.pend=m.pend - 1:=by rw[hm2];exact⟨rfl,rfl,rfl,rfl,rfl,rfl⟩
 clear hm2;refine aG7 (fun F=>aB 0 F= .ptr mb 0/\aB 1 F= .int .i64 (lev:Int)/\aB 2 F=v/\aB 7 F= .int .i64 (m.bw.length:Int)) (by refine⟨?_,?_,?_,?_⟩<;>simp only[↓sU,sD,rE,↓reduceIte,rA]) ?_;rintro F ⟨p0,p1,p2,p7⟩;have f1:=eE (p:=1) hM4.g rfl;have f0:=eE (p:=0) hM4.g rfl;refine fA ?_;by_cases hlv:(lev:Int)=(LV.length:Int)
 ·simp only[↓sU,sD,rE,↓reduceIte,rA,p0,p1,aY,bB,aD,aC,f1,hM4.p.lev.len,Ak,Ac hlv];refine aP (af) ?_;refine bK (c9 p0 p7 ?_);refine aL (ae ?_);refine aF (aG8 H hpre hp1 hM4 k4 E2) ?_;intro r Z hZ;try refine ae ?_
  refine bK (cp p7 ?_);refine aK (ae ?_);exact hZ
 simp only[↓sU,sD,rE,↓reduceIte,rA,p0,p1,aY,bB,aD,aC,f0,f1,hM4.p.lev.len,Ak,Aa hlv];refine aL (ae ?_);refine aF (mJ H hM4.p.dr (n:=8) ay ay) ?_;rintro _ X5 ⟨s5,d5,y,rfl,_,_⟩;have⟨hM5,b5⟩:=hM4.drawn s5 d5;have k5:=k4.trans b5;clear hM4 k4 b5 s5 d5;by_cases hy:y=1
 ·refine cp (Ac hy) ?_;refine aP (af) ?_;refine bK (c9 p0 p7 ?_);refine aL (ae ?_);refine aF (aG8 H hpre hp1 hM5 k5 E2) ?_;intro r Z hZ;try refine ae ?_
  refine bK (cp p7 ?_);refine aK (ae ?_);exact hZ
 refine cp (Aa hy) ?_;refine aO (af) (aJ ?_);try refine ae ?_
 have hlt:lev<LV.length:=by omega
 have hIH:=hIH hlt;obtain⟨pl,mn,sn,hpe⟩:∃pl mn sn,LV[lev]? =some (pl,mn,sn):=⟨_,_,_,Ad hlt⟩;have hmem:(pl,mn,sn)∈LV:=Cm hpe;have⟨q1,q2,q3,q4,q5⟩:=hLV _ hmem;have q6:=hLP _ hmem;simp only at q1 q2 q3 q4 q5 q6;refine aG7 (fun F=>aB 0 F= .ptr mb 0/\aB 1 F= .int .i64 (lev:Int)/\aB 2 F=v/\aB 7 F= .int .i64 (m.bw.length:Int)) (by refine⟨?_,?_,?_,?_⟩<;>simp only[↓sU,sD,rE,↓reduceIte,rA,p0,p1,p2,p7]) ?_;clear p0 p1 p2 p7 F f1 f0;rintro F ⟨p0,p1,p2,p7⟩;have f1:=eE (p:=1) hM5.g rfl;have⟨ep,bl,ql,hial,_,_,hple,hldl,_⟩:=bH.at hM5.p.lev ay hpe;have hple:ep= [.int .i64 pl,.int .i64 mn,.int .i64 sn]:=hple;subst hple;refine bK ?_;simp only[↓stU,aG,rE,↓reduceIte,rA,p0,p1,aY,bB,aD,aC,f1,aW,hial,hldl];refine cM ?_;intro W1 v1 n1 h1;refine dH (b:=X5.nx) (aq) (by refine ap ?_;exact aS _) h1 rfl rfl ?_;intro X6 v2 n2 h2;refine ap ?_;have s56:Same X5 X6:=v2.same v1 (Af _);have hM6:=hM5.same s56;have k6:=k5.trans (fN.same s56);have ltb:X5.nx<X6.nx:=by omega
 have ptb:PB mb db m2 X5.nx:=hM5.p.fresh (Af _);have xtb:X.nx<=X5.nx:=k5.1;have t0:=eE (p:=0) h2 rfl;have t1:=eE (p:=1) h2 rfl;clear v1 v2 n1 n2 h1 W1 s56 hM5 k5 f1 hial hldl;generalize X5.nx=tb at *;refine bK (dh @aD @aC t1 ?_);have⟨E2a,E2b,E2c,E2d,E2e,E2f⟩:=id E2;have hnd2:∀x∈m2.bw,x.kind=2->x.info<(m2.bz.length:Int):=fun x hx hk=>by
  rw[E2a] at hx;rw[E2b];rcases Bs.1 hx with h | h
  ·exact hpre.nd x h hk
  ·rw[Es.1 h] at hk;cases hk
 have hv2:aCT m2:=⟨by rw[E2b,E2c];exact hvl,fun j w hw=>by rw[E2c] at hw;rw[E2b,E2e];exact hpre.vok.at_ j w hw⟩;refine aE (bG (Q:=fun o A' Z=>o= .normal/\A'.inr=false/\∃m3 info many,aPv lev m2 m3 pl info many/\nE P S0 Z mb db m3 LV/\fN mb db m2 X6 m3 Z/\aB 0 A'.F= .ptr mb 0/\aB 1 A'.F= .int .i64 (lev:Int)/\aB 2 A'.F=v/\aB 7 A'.F= .int .i64 (m.bw.length:Int)/\aB 8 A'.F= .ptr tb 0/\aB 9 A'.F= .int .i64 many/\aB 10 A'.F= .int .i64 info) (aE (aM ?_)) ?_)
 ·refine dh @aD @aC t0 ?_;by_cases hpn:0<=pl;rotate_left
  ·refine aO (by simp only[↓sU,sD,rE,↓reduceIte,rA,Aa (show ¬pl≥0 from hpn)]) (aJ ?_);refine di p0 p1 p2 p7 ?_;exact⟨m2,0,mn,⟨rfl,rfl,rfl,rfl,hv2,au,⟨au,q3⟩,.inl ⟨rfl,rfl,.inl ⟨au,rfl⟩⟩⟩,hM6,fN.refl,rfl,rfl⟩
  refine aP (by simp only[↓sU,sD,rE,↓reduceIte,rA,Ac (show pl≥0 from hpn)]) ?_;obtain⟨pn,rfl⟩:∃pn:Nat,pl=(pn:Int):=⟨pl.toNat,au⟩;have hpr:pn<rows.length:=by omega
  have hs6:wG (fun c=>PB mb db m2 c/\P c) X6 v rows:=hseen.move k6.1 fun c hc hp=>⟨(k6.2 c hc hp.1).1,(k6.2 c hc hp.1).2,hp.2⟩;obtain⟨_,br,qr,hia,lbr,_,⟨a,rfl,hrow,hrb⟩,_,hlf⟩:=bH.at hs6.rows ay (aIz hpr);have hld:=hlf 0 a rfl;rw[Bm] at hld;have pbr:=(hs6.out br (aLt hia)).1;have sa:=cH.self hrow;have hrlen:(rows.getD pn []).length<=lev:=hrl _ (by rw[Ae,Ad hpr];exact Cv hpr);have hx6:=k6.1;refine aE (fJ (fun c=>¬PB mb db m2 c) ?_);intro X7 x7;simp only[↓sU,sD,rE,↓reduceIte,rA,p0,p1,p2,aD,aX,aC,t0,aW,hia,hld,sa,ltb,lbr,ptb,pbr,Cr,Am];refine lT rfl ?_;refine ae ?_;refine aF (aMv (l:=rows.getD pn []) H (hM6.same x7) (by have h9:X6.nx<=X7.nx:=x7.1;show S0.nx<=X7.nx;omega) (hrow.same x7) au hrb (by rw[E2c];omega) (by rw[E2b];omega)) ?_;intro r Z hZ;have offw:∀ {m3},fN mb db m2 X7 m3 Z->aJe (fun c=>¬PB mb db m2 c) X6.nx X7 Z:=fun {m3} b=>⟨b.1,fun c hc hn=>(b.2 c (aw x7.1) (Classical.not_not.1 hn)).1⟩;rcases hZ with⟨sZ,i,vw,hvi,e1,e2,rfl⟩ | ⟨va',ia',a',a1,a2,rfl,hMZ,bZ⟩
  ·refine⟨offw (fN.same sZ),?_⟩;have hMZ:=(hM6.same x7).same sZ;have f9:=eE (p:=9) hMZ.g rfl;have⟨ei,_,_,a3,hinf,a31,a32⟩:=hv2.at_ i vw hvi;have hI:bH 2 fO Z m2.ia m2.bz:=hMZ.p.inf.is fun e a h=>h;have⟨ee,bi,qi,hii,_,_,hei,_,hfi⟩:=bH.at hI ay hinf;have hei:ee= [.int .i64 vw.1,.int .i64 a3]:=hei;subst hei;have l1:=hfi 1 _ rfl;have hu:aBV m2 ((i:Nat):Int):=by
    have:=hpre.lv i vw (by rw[<-E2c];exact hvi);rw[ei] at this;rcases this with h | h
    ·omega
    ·exact h.mono E2a
   refine cp ei ?_;refine aM ?_;simp only[↓sU,sD,rE,↓reduceIte,rA,p0,aY,bB,aD,aC,f9,aW,hii,l1,p1,p2,p7];exact⟨m2,(i:Int),a3,⟨rfl,rfl,rfl,rfl,hv2,au,⟨a31,a32⟩,.inl ⟨rfl,rfl,.inr ⟨hpn,by rw[Bd,hinf,e1],hu⟩⟩⟩,hMZ,fN.same (x7.trans sZ),rfl,rfl⟩
  ·refine⟨offw bZ,?_⟩;have f9:=eE (p:=9) hMZ.g rfl;have hinf:(m2.bz++ [(⟨(pn:Int),a'⟩:pN)])[m2.bz.length]? =some ⟨(pn:Int),a'⟩:=by rw[Aq (Af _),Ef];rfl
   have hI:bH 2 fO Z ia' (m2.bz++ [(⟨(pn:Int),a'⟩:pN)]):=hMZ.p.inf.is fun e a h=>h;have⟨ee,bi,qi,hii,_,_,hei,_,hfi⟩:=bH.at hI ay hinf;have hei:ee= [.int .i64 (pn:Int),.int .i64 a']:=hei;subst hei;have l1:=hfi 1 _ rfl;try refine ae ?_
   refine aM ?_;simp only[↓sU,sD,rE,↓reduceIte,rA,p0,aY,bB,aD,aC,f9,aW,hii,l1,p1,p2,p7];refine⟨{m2 with va:=va',ia:=ia',views:=m2.views++ [((pn:Int),(lev:Int),(m2.bz.length:Int))],bz:=m2.bz++ [(⟨(pn:Int),a'⟩:pN)]},(m2.bz.length:Int),a',⟨rfl,rfl,rfl,rfl,⟨by simp [hv2.len],fun j w hw=>?_⟩,au,⟨a1,a2⟩,.inr ⟨hpn,rfl,rfl,rfl⟩⟩,hMZ,(fN.same x7).trans bZ,rfl,rfl⟩;have hw:(m2.views++ [((pn:Int),(lev:Int),(m2.bz.length:Int))])[j]? =some w:=hw;show w.2.2=(j:Int)/\0<=w.1/\w.1<m2.ps/\∃a,(m2.bz++ [(⟨(pn:Int),a'⟩:pN)])[j]? =some ⟨w.1,a⟩/\1<=a/\a<=3;by_cases hj:j<m2.views.length
   ·rw[Ap hj] at hw;have⟨w1,w2,w3,a4,w4,w5⟩:=hv2.at_ j w hw;exact⟨w1,w2,w3,a4,by rw[Ap (by rw[<-hv2.len];exact hj)];exact w4,w5⟩
   ·rw[Aq au] at hw;have h0:j - m2.views.length=0:=by
     rcases An (j - m2.views.length) with h | h
     ·exact h
     ·rw[Bo (by simp;omega)] at hw;cases hw
    rw[h0] at hw;cases hw;have hjl:j=m2.bz.length:=by rw[<-hv2.len];omega
    subst hjl;exact⟨rfl,hpn,by rw[E2e];exact q6,a',hinf,a1,a2⟩
 clear p0 p1 p2 p7 F;rintro o ⟨F,inr⟩ X7 ⟨rfl,q0,m3,info,many,hf,hM7,b7,p0,p1,p2,p7,p8,p9,p10⟩;simp only at q0 p0 p1 p2 p7 p8 p9 p10;subst q0;have k7:=k6.trans b7;have hm1:=hf.many1;have h2':X7.h.get tb=some (.cells [.int .i64 pl,.int .i64 mn,.int .i64 sn] false 0):=(b7.2 tb ltb ptb).1.trans h2;have ptb7:=(b7.2 tb ltb ptb).2;have ltb7:tb<X7.nx:=by have:=b7.1;omega
 have x7:=k7.1;have f3:=eE (p:=3) hM7.g rfl;have f4:=eE (p:=4) hM7.g rfl;have e3:m3.most=m.most:=hf.most.trans E2d;have e4:m3.pend=m.pend - 1:=hf.pend.trans E2f;have e5n:m3.bw.length=m.bw.length+1:=by rw[hf.bw,E2a,Aj];rfl
 have e6n:m3.bz.length<=m.bz.length+1:=by
  rcases hf.cases with⟨b1,_,_⟩ | ⟨_,_,b1,_⟩
  ·rw[b1,E2b];omega
  ·rw[b1,E2b,Aj,Bc];omega
 have wA:IntKind.i64.wrap ((m.bw.length:Int)+1)=(m.bw.length:Int)+1:=wrap_i64 au au;have wB:IntKind.i64.wrap ((m.bw.length:Int)+1+m3.pend)=(m.bw.length:Int)+1+m3.pend:=wrap_i64 au au;have wC:IntKind.i64.wrap ((m.bw.length:Int)+1+m3.pend+many)=(m.bw.length:Int)+1+m3.pend+many:=wrap_i64 au au;try refine ae ?_
 refine aE (aE (jK ?_));simp only[↓sU,sD,rE,↓reduceIte,rA,p0,p7,p9,aY,bT,bB,aD,aX,aC,f3,f4,wA,wB,wC];generalize hX8:(⟨X7.h,X7.nx+_⟩:St)=X8;have s78:Same X7 X8:=by rw[<-hX8];exact Same.nx _ _
 clear hX8;have hM8:=hM7.same s78;have k8:=k7.trans (fN.same s78);have h28:=(s78.2 _ ltb7).trans h2';have ltb8:tb<X8.nx:=Ag ltb7 s78.1;by_cases hbig:(m.bw.length:Int)+1+m3.pend+many>m3.most
 ·refine aP (by simp only[↓sU,sD,rE,↓reduceIte,rA,Ac hbig]) ?_;have t08:=eE (p:=0) h28 rfl;refine bK (dw p0 p8 p10 @aD @aC t08 ?_);refine aL (ae ?_);refine aF (aLM H hM8 hf.info0 hf.vok.len au au) ?_;intro r Z hZ;obtain⟨m4,hM9,k9,E4⟩:∃m4,nE P S0 Z mb db m4 LV/\fN mb db m X m4 Z/\(m4.bw=m.bw++ [aBa]/\m4.bz=m.bz/\m4.views=m.views/\m4.most=m.most/\m4.ps=m.ps/\m4.pend=m.pend - 1):=by
   rcases hZ with⟨ho,hZX⟩ | ⟨z1,z2,z3,va',ia',hMZ,bZ⟩
   ·have⟨w1,w2⟩:=(aFd hf hnd2).1 ho;rw[hZX];exact⟨m3,hM8,k8,hf.bw.trans E2a,w1.trans E2b,w2.trans E2c,e3,hf.ps.trans E2e,e4⟩
   ·have⟨w1,w2⟩:=(aFd hf hnd2).2 ⟨z1,z2,z3⟩;exact⟨_,hMZ,k8.trans bZ,hf.bw.trans E2a,w1.trans E2b,w2.trans E2c,e3,hf.ps.trans E2e,e4⟩
  try refine ae ?_
  refine bK (c9 p0 p7 ?_);refine aL (ae ?_);refine aF (aG8 H hpre hp1 hM9 k9 E4) ?_;intro r Z' hZ';try refine ae ?_
  refine bK (cp p7 ?_);refine aK (ae ?_);exact hZ'
 refine aO (by simp only[↓sU,sD,rE,↓reduceIte,rA,Aa hbig]) (aJ ?_);try refine ae ?_
 refine aG7 (fun F=>aB 0 F= .ptr mb 0/\aB 1 F= .int .i64 (lev:Int)/\aB 2 F=v/\aB 7 F= .int .i64 (m.bw.length:Int)/\aB 8 F= .ptr tb 0/\aB 9 F= .int .i64 many/\aB 10 F= .int .i64 info) (by refine⟨?_,?_,?_,?_,?_,?_,?_⟩<;>simp only[↓sU,sD,rE,↓reduceIte,rA,p0,p1,p2,p7,p8,p9,p10]) ?_;clear p0 p1 p2 p7 p8 p9 p10 F f3 f4;rintro F ⟨p0,p1,p2,p7,p8,p9,p10⟩;have f4:=eE (p:=4) hM8.g rfl;have wD:IntKind.i64.wrap (m3.pend+many)=m3.pend+many:=wrap_i64 au au;refine bK (dy p0 p9 @aY @bB @aD @aC f4 wD ?_);refine fK (v:=.undef) (S1:=⟨X8.h.set mb (some (.cells (eG db {m3 with pend:=m3.pend+many}) false 0)),X8.nx⟩) (fun call=>by refine c9 @dW @cN ?_;exact stc (cs:=eG db m3) (p:=4) (S:=X8) hM8.g (show 4<10 by omega)) ?_;refine ae ?_;obtain⟨X9,hX9⟩:∃Z:St,Z=⟨X8.h.set mb (some (.cells (eG db {m3 with pend:=m3.pend+many}) false 0)),X8.nx⟩:=⟨_,rfl⟩;have hkp:=hM8.p.keep (m':={m3 with pend:=m3.pend+many}) (X':=X8) (Af _) (fun _ _ _ _=>rfl) hM8.p.dr rfl rfl rfl rfl rfl rfl rfl rfl rfl;have hM9:nE P S0 X9 mb db {m3 with pend:=m3.pend+many} LV:=hkp.1.put (by rw[hX9];simp only;rw[dq,if_pos rfl]) (by rw[hX9];exact Af _) fun c _ hne=>by rw[hX9];simp only;rw[dq,if_neg hne]
 have k89:fN mb db m3 X8 {m3 with pend:=m3.pend+many} X9:=hkp.2.trans (by rw[hX9];exact fN.put);rw[<-hX9];clear hX9 hkp f4;obtain⟨m5,hm5⟩:∃m5:Mk,m5= {m3 with pend:=m3.pend+many}:=⟨_,rfl⟩;rw[<-hm5] at hM9 k89;have E5:m5.bw=m3.bw/\m5.bz=m3.bz/\m5.views=m3.views/\m5.most=m3.most/\m5.ps=m3.ps/\m5.pend=m3.pend+many:=by rw[hm5];exact⟨rfl,rfl,rfl,rfl,rfl,rfl⟩
 clear hm5;have k9:=k8.trans k89;have ptb8:PB mb db m3 tb:=ptb7;have h29:=(k89.2 tb ltb8 ptb8).1.trans h28;have ptb9:=(k89.2 tb ltb8 ptb8).2;have ltb9:tb<X9.nx:=Ag ltb8 k89.1;have hb1:=fun(F:Fr) (h:Ev.T AB)=>aS4 (F:=F) (h:=h) (a:=1);refine bK (dz hb1 ?_);refine cM ?_;intro W1 v1 n1 h1;refine dH (b:=X9.nx) (cs':=[.int .i64 1,.int .i64 0,.int .i64 0,.ce,.ce,.ce]) (aq) (by refine ap ?_;exact aS _) h1 rfl rfl ?_;intro X10 v2 n2 h10;refine ap ?_;have s910:Same X9 X10:=v2.same v1 (Af _);have h210:=(s910.2 tb ltb9).trans h29;have t0:=eE (p:=0) h210 rfl;have lxb:X9.nx<X10.nx:=by omega
 clear v1 v2 n1 n2 h1 W1;refine aE (bG (Q:=fun o A' Z=>o= .normal/\A'.inr=false/\X10.nx<=Z.nx/\(∀c,c<X10.nx->c≠X9.nx->Z.h.get c=X10.h.get c)/\Z.h.get X9.nx=some (.cells [.int .i64 (if pl<0 then 1 else 2),.int .i64 (if pl<0 then 0 else pl),.int .i64 (if pl<0 then 0 else info),.ce,.ce,.ce] false 0)/\aB 0 A'.F= .ptr mb 0/\aB 1 A'.F= .int .i64 (lev:Int)/\aB 2 A'.F=v/\aB 7 A'.F= .int .i64 (m.bw.length:Int)/\aB 8 A'.F= .ptr tb 0/\aB 9 A'.F= .int .i64 many/\aB 11 A'.F= .ptr X9.nx 0) (aE (aM ?_)) ?_)
 ·refine di p8 @aD @aC t0 ?_;by_cases hpn:0<=pl
  ·rw[if_neg au,if_neg au,if_neg au];refine aP (by simp only[↓sU,sD,rE,↓reduceIte,rA,Ac (show pl≥0 from hpn)]) ?_;have hbm:=fun(F:Fr) (h:Ev.T AB) (a:aB 128 F= .int .i64 pl) (b:aB 129 F= .int .i64 info)=>aTq (F:=F) (h:=h) a b;refine aM (dw p8 p10 @aD @aC t0 hbm ?_);refine dH (b:=X9.nx) (cs':=[.int .i64 2,.int .i64 pl,.int .i64 info,.ce,.ce,.ce]) (af) (by refine ae ?_;exact aS _) h10 rfl rfl ?_;intro Z z1 z2 z3;refine dw p0 p1 p2 p7 p8 p9 ?_;exact⟨z1.1,z1.2,z3⟩
  ·rw[if_pos au,if_pos au,if_pos au];refine aO (by simp only[↓sU,sD,rE,↓reduceIte,rA,Aa (show ¬pl≥0 from hpn)]) (aJ ?_);refine dw p0 p1 p2 p7 p8 p9 ?_;exact⟨Af _,fun _ _ _=>trivial,h10⟩
 clear p0 p1 p2 p7 p8 p9 p10 F;rintro o ⟨F,inr⟩ X11 ⟨rfl,q0,n11,k11,g11,p0,p1,p2,p7,p8,p9,p11⟩;simp only at q0 p0 p1 p2 p7 p8 p9 p11;subst q0;have pxb:PB mb db m5 X9.nx:=hM9.p.fresh (Af _);have n910:=s910.1;have n9:=k9.1;have hM11:nE (fun c=>((P c/\c<X.nx)\/X.nx<=c)/\c≠X9.nx) S0 X11 mb db m5 LV:=by
  have h1:nE (fun c=>((P c/\c<X.nx)\/X.nx<=c)/\c≠X9.nx) S0 X10 mb db m5 LV:=(hM9.mono fun c hc h=>⟨(Bj c X.nx).elim (fun h'=>.inl ⟨h,h'⟩) fun h'=>.inr h',au⟩).same s910;refine h1.local n11 fun c hc hor=>k11 c hc fun e=>?_;rcases hor with h | h
  ·exact h (by rw[e];exact pxb)
  ·exact h.2 e
 have frm:∀c,c<X.nx->PB mb db m c->X11.h.get c=X.h.get c/\PB mb db m5 c:=fun c hc hp=>⟨(k11 c au au).trans ((s910.2 c au).trans (k9.2 c hc hp).1),(k9.2 c hc hp).2⟩;have hseen11:wG (fun c=>PB mb db m5 c/\(P c/\c<X.nx)) X11 v rows:=hseen.move au fun c hc hp=>⟨(frm c hc hp.1).1,(frm c hc hp.1).2,hp.2,hc⟩;have h211:=(k11 tb au au).trans h210;obtain⟨mn',rfl⟩:∃mn':Nat,many=(mn':Int):=⟨many.toNat,au⟩;have e5ps:m5.ps=m.ps:=E5.2.2.2.2.1.trans (hf.ps.trans E2e);have e5pd:m5.pend=m.pend - 1+(mn':Int):=by rw[E5.2.2.2.2.2,e4]
 try refine ae ?_
 refine fA (ae ?_);refine aJb (P:=fun c=>P c/\c<X.nx) (X:=X) (tb:=tb) (xb:=X9.nx) (m1:=m5) (pl:=pl) (mn:=mn) (sn:=sn) (many:=mn') (lev:=lev) H hIH (fun c h=>h.2) au hM11 hS (aOe hpre hp1 E2 hf E5 au) au au au (fun p hp=>by rw[e5ps];exact hLP p hp) hseen11 (by rw[e5ps];exact hrn) hrl au au au au  ptb9 pxb h211 g11 ⟨q4,q5⟩ (ah p0) (ah p1) (ah p2) (ah p8) (ah p9) (ah p11) (ag) ?_;intro F' Y mi cs C ws xa xw hk hR;have r0:=hk 0 au;have r7:=hk 7 au;have r11:=hk 11 au;simp only[↓sU,sD,rE,↓reduceIte,rA,p0,p7,p11] at r0 r7 r11;try refine ae ?_
 have hMY:nE (fun c=>P c\/X.nx<=c) S0 ⟨Y.h,Y.nx+9⟩ mb db mi LV:=(hR.mkb.same (Same.nx Y 9)).mono fun c _ h=>h.1.elim (fun h=>.inl h.1) .inr;have nY:=hR.nx;have fk:(iR pl info cs ws).kind=if pl<0 then 1 else 2:=by unfold iR;split<;>rfl
 have fp:(iR pl info cs ws).player=if pl<0 then 0 else pl:=by unfold iR;split<;>rfl
 have fi:(iR pl info cs ws).info=if pl<0 then 0 else info:=by unfold iR;split<;>rfl
 have fn:(iR pl info cs ws).next=cs:=by unfold iR;split<;>rfl
 have fw:(iR pl info cs ws).weights=ws:=by unfold iR;split<;>rfl
 have fy:(iR pl info cs ws).pay= []:=by unfold iR;split<;>rfl
 have hlen:m.bw.length<mi.bw.length:=by rw[hR.bld.bw,E5.1,Aj,e5n];omega
 have⟨b,p,Z,z1,z2,z3,z4,z5,z6⟩:=hMY.setN (i:=m.bw.length) (e:=[.int .i64 (if pl<0 then 1 else 2),.int .i64 (if pl<0 then 0 else pl),.int .i64 (if pl<0 then 0 else info),xa,xw,.ce]) (x:=iR pl info cs ws) hlen ⟨xa,xw,.ce,by rw[fk,fp,fi],by rw[fn];exact(hR.ga.step (Same.nx Y 9)).is,by rw[fw];exact(hR.gw.step (Same.nx Y 9)).is,by rw[fy];exact .inl ⟨rfl,.inl rfl⟩,fun c hc=>by
  rcases hc with hc | hc | hc
  ·exact⟨hR.pa c hc,.inr (by have:=(hR.ga.blk hc).1;omega)⟩
  ·exact⟨hR.pw c hc,.inr (by have:=(hR.gw.blk hc).1;omega)⟩
  ·cases hc⟩
 have f8':=eE (p:=8) hR.mkb.g rfl;have lag:=ldN hR.gx;have sna:=hR.mkb.p.nod.self;have sxa:=hR.ga.self;have sxw:=hR.gw.self;have sx:=aA4 (k:=.i64) (x0:=if pl<0 then 1 else 2) (x1:=if pl<0 then 0 else pl) (x2:=if pl<0 then 0 else info) (a:=xa) (b:=xw) (c:=.ce) sxa sxw rfl;have hnb:=aPl (m':={mi with bw:=mi.bw.set m.bw.length (iR pl info cs ws)}) hpre hp1 q6 E2 hf E5 hR.bld rfl hR.len hR.forT hR.wts rfl rfl rfl rfl rfl rfl;rw[show LV.length - (lev+1)+1=LV.length - lev by omega] at hnb;generalize (if pl<0 then(1:Int) else 2)=i0 at *;generalize (if pl<0 then(0:Int) else pl)=i1 at *;generalize (if pl<0 then(0:Int) else info)=i2 at *;refine aE (uC (pre:=aOc) (K:=8) (m:=255) (n:=6) (x:=.t 202) (v:=.t 201) rfl rfl rfl rfl ?_);unfold aOc;simp only[↓sU,sD,rE,↓reduceIte,rA,r0,r7,r11,aY,bT,bB,aD,aX,aC,f8',sna,lag,sx,aW,z1];rw[show(AV.agg [.int .i64 i0,.int .i64 i1,.int .i64 i2,xa,xw,.ce]).cells=some [.int .i64 i0,.int .i64 i1,.int .i64 i2,xa,xw,.ce] from aS _,aH];refine⟨Z,z3,?_⟩;refine bK (cp r7 ?_);refine aK (ae ?_);refine⟨_,_,hnb.1,hnb.2,z5,⟨by rw[z4];show X.nx<=Y.nx+9;omega,fun c hc hp=>?_⟩⟩;have⟨y1,y2⟩:=frm c hc hp;have⟨y3,y4⟩:=hR.frm c au y2;have⟨y5,y6⟩:=z6.2 c (by show c<Y.nx+9;omega) y3;exact⟨y5.trans ((y4 au).trans y1),y6⟩
theorem aHb{S0:St}{mb db:Nat}{LV:List (Int×Int×Int)}(H:Has fns)(hLV:∀p∈LV, -1<=p.1/\2<=p.2.1/\p.2.1<=3/\0<=p.2.2/\p.2.2<=1000)(hLl:LV.length<=700):∀n lev,lev+n=LV.length->aCV fns S0 mb db LV lev
 | 0,lev,h=>aDy H hLV hLl au fun h'=>by omega
 | n+1,lev,h=>aDy H hLV hLl au fun _=>aHb H hLV hLl n (lev+1) au
def PlB(cs:bo)(a:Int×Int×Int):Prop:=cs= [.int .i64 a.1,.int .i64 a.2.1,.int .i64 a.2.2]
theorem aTG{F:Fr}{h:Ev.T AB}{a b c:Int}(h45:aB 45 F= .int .i64 a)(h51:aB 51 F= .int .i64 b)(h56:aB 56 F= .int .i64 c):iT (.build [.int .i64 0,.int .i64 0,.int .i64 0] [(0,1,.t 45),(1,1,.t 51),(2,1,.t 56)]) F h=some (.agg [.int .i64 a,.int .i64 b,.int .i64 c]):=by
 show(aU (eQ _ (fG F [(0,1,.t 45),(1,1,.t 51),(2,1,.t 56)])) fun cs=>some (AV.agg cs))=_;simp only[fG,show(cP.t 45).val F= .int .i64 a from h45,show(cP.t 51).val F= .int .i64 b from h51,show(cP.t 56).val F= .int .i64 c from h56,eQ,cN,aH];rfl
def aUf(X:St)(F:Fr)(mb db:Nat)(lvl lv:AV)(dl:bm)(ps:Int)(F':Fr)(Z:St)(qs:List kB):Prop:=∃a b c:Int, -1<=a/\a<ps/\2<=b/\b<=3/\0<=c/\c<=15/\qs= [⟨25,X.nx+25,.cells [.int .i64 a,.int .i64 b,.int .i64 c] false 0⟩]/\X.nx+30<=Z.nx/\cB db X Z/\rO Z db lv dl/\(∀j,j<11->aB j F'=aB j F)/\aB 33 F'= .ptr mb 0/\aB 37 F'=lvl/\aB 58 F'= .sl (X.nx+25) 0 1 1 false
theorem aPw{ops:List AO}{S X:St}{F:Fr}{inr:Bool}{mb db:Nat}{m:Mk}{LV:List (Int×Int×Int)}{ps:Int}{Q:Out->bN->St->Prop}(H:Has fns)(he:ops=aRz++aRU)(gm:X.h.get mb=some (.cells (eG db m) false 0))(lmb:mb<X.nx)(nmd:mb≠db)(hd:rO X db m.lv m.dl)(ha:uG 3 PlB S X m.lvl LV)(hS:S.nx<=X.nx)(dn:∀c,bP m.lvl=some c->c≠mb/\c≠db/\bP m.lv≠some c)(dm:∀c,bP m.lv=some c->c≠mb)(p9:aB 9 F= .ptr mb 0)(p1:aB 1 F= .int .i64 ps)(hps:1<=ps/\ps<=4)(hl:LV.length<=100)
  (hQ:∀F' Z lvl' a b c,(∀j,j<11->aB j F'=aB j F)-> -1<=a->a<ps->2<=b->b<=3->0<=c->c<=15->Z.h.get mb=some (.cells (eG db {m with lvl:=lvl'}) false 0)->rO Z db m.lv m.dl->uG 3 PlB S Z lvl' (LV++ [(a,b,c)])->X.nx<=Z.nx->(∀k,k<X.nx->k≠mb->k≠db->bP m.lvl≠some k->Z.h.get k=X.h.get k)->(∀k,bP lvl'=some k->bP m.lvl=some k\/X.nx<=k)->Q .normal ⟨F',inr⟩ Z):nD fns (.drw ops) ⟨F,inr⟩ X Q:=by
 have hlen:ops.length=30:=by rw[he];rfl
 have f0:=eE (p:=0) gm rfl;have f1:=eE (p:=1) gm rfl;have slv:=ha.self;have wps:IntKind.i64.wrap (ps+1)=ps+1:=wrap_i64 au au;refine yM 67108862 (W:=fun c=>c=db) (K:=26) (R:=aUf X F mb db m.lvl m.lv m.dl ps) he rfl rfl rfl (fun X1 x1 hh1 nn1=>?_) ?_
 ·have hd1:=hd.move x1.1 (x1.2 _ hd.lt) fun c hc=>x1.2 c (fP hd.il hc);unfold aRz;simp only[↓sU,sD,rE,↓reduceIte,rA,p1,p9,aY,bT,bB,aD,aX,aC,f0,f1,slv,lmb,nmd,Am,wps];refine lT rfl ?_;refine ae ?_;refine aF (mJ H hd1 (n:=ps+1) au au) ?_;rintro _ X2 ⟨x2,d2,a,rfl,a1,a2⟩;refine⟨⟨x2.1,fun c hc hne=>x2.2 c (Ag hc x1.1) hne⟩,?_⟩;have wa:IntKind.i64.wrap (a - 1)=a - 1:=wrap_i64 au au;simp only[↓sU,sD,rE,↓reduceIte,rA,p9,aY,bT,bB,aD,aX,aC,f0,lmb,nmd,Am,wa];refine lT rfl ?_;refine ae ?_;refine aF (mJ H d2 (n:=2) ay ay) ?_;rintro _ X3 ⟨x3,d3,b,rfl,b1,b2⟩;have n12:X1.nx<=X2.nx:=x2.1;refine⟨⟨x3.1,fun c hc hne=>x3.2 c (by have:=x1.1;show c<X2.nx;omega) hne⟩,?_⟩;have wb:IntKind.i64.wrap (2+b)=2+b:=wrap_i64 au au;simp only[↓sU,sD,rE,↓reduceIte,rA,p9,aY,bT,bB,aD,aX,aC,f0,lmb,nmd,Am,wb];refine lT rfl ?_;refine ae ?_;refine aF (mJ H d3 (n:=16) ay ay) ?_;rintro _ X4 ⟨x4,d4,c,rfl,c1,c2⟩;have n23:X2.nx<=X3.nx:=x3.1;have n34:X3.nx<=X4.nx:=x4.1;refine⟨⟨x4.1,fun k hk hne=>x4.2 k (by have:=x1.1;show k<X3.nx;omega) hne⟩,?_⟩;have hbl:=fun(F:Fr) (h:Ev.T AB) (u:aB 45 F= .int .i64 (a - 1)) (v:aB 51 F= .int .i64 (2+b)) (w:aB 56 F= .int .i64 c)=>aTG (F:=F) (h:=h) u v w;have hib:dK (.build [.int .i64 0,.int .i64 0,.int .i64 0] [(0,1,.t 45),(1,1,.t 51),(2,1,.t 56)])=false:=rfl;have he1:=fun(F:Fr) (id:Nat) (h:aB 57 F= .agg [.int .i64 (a - 1),.int .i64 (2+b),.int .i64 c])=>aRi (t:=89) (z0:=.int .i64 0) (z1:=.int .i64 0) (z2:=.int .i64 0) (x:=.t 57) (F:=F) (id:=id) h;refine dh hbl hib he1 ?_;refine⟨a - 1,2+b,c,au,au,au,au,au,au,af,au,⟨aw x1.1,fun k hk hne=>?_⟩,d4,fun j hj=>?_,by refine⟨?_,?_,?_⟩<;>simp only[↓sU,sD,rE,↓reduceIte,rA]⟩
  ·have h1:=x1.1;rw[x4.2 k (by show k<X3.nx;omega) hne,x3.2 k (by show k<X2.nx;omega) hne,x2.2 k (by show k<X1.nx;omega) hne];exact x1.2 k hk
  ·have:j=0\/j=1\/j=2\/j=3\/j=4\/j=5\/j=6\/j=7\/j=8\/j=9\/j=10:=by omega
   rcases this with rfl | rfl | rfl | rfl | rfl | rfl | rfl | rfl | rfl | rfl | rfl<;>simp only[↓sU,sD,rE,↓reduceIte,rA]
 rintro F' S' qs hs' ls ⟨a,b,c,a1,a2,b1,b2,c1,c2,rfl,nZ,sZ,dZ,hk,pA,pB,pC⟩ hlast hld;obtain⟨U,hU⟩:∃U:St,U=⟨S'.h.set (X.nx+25) (some (.cells [.int .i64 a,.int .i64 b,.int .i64 c] false 0)),S'.nx⟩:=⟨_,rfl⟩;have nU:U.nx=S'.nx:=by rw[hU]
 have kU:∀k,k≠X.nx+25->U.h.get k=S'.h.get k:=fun k hk=>by rw[hU];simp only;rw[dq,if_neg hk]
 have gU:U.h.get (X.nx+25)=some (.cells [.int .i64 a,.int .i64 b,.int .i64 c] false 0):=by rw[hU];simp only;rw[dq,if_pos rfl]
 have kX:∀k,k<X.nx->k≠db->U.h.get k=X.h.get k:=fun k hk hne=>(kU k au).trans (sZ.2 k hk hne);have lowl:∀ {k},bP m.lvl=some k->k<X.nx:=fun hc=>(ha.blk hc).2;have haU:uG 3 PlB S U m.lvl LV:=ha.move au (fun k hk=>kX k (lowl hk) (dn k hk).2.1) fun _ _ h=>h;have⟨v',V,eA,aV,nV,kV,bV⟩:=haU.push (bytes:=24) (x:=.sl (X.nx+25) 0 1 1 false) (a:=(a,b,c)) ay au rfl (aQv gU rfl) rfl (show PlB [.int .i64 a,.int .i64 b,.int .i64 c] (a,b,c) from rfl) ax ax;have gmV:V.h.get mb=some (.cells (eG db m) false 0):=(kV mb au fun e=>(dn mb e).1 rfl).trans ((kX mb lmb nmd).trans gm);unfold aRU;refine oN (v:=v') (S1:=V) hlast (fun call=>?_) ?_
 ·rw[gQ (show Nat.testBit 67108862 25=true by decide),jJ];simp only[fB,pB,pC];rw[<-hU];exact eA
 rw[gQ (show Nat.testBit 67108862 25=true by decide)];simp only[sR,cI,aY,bT,bB,aD,aC,aX,aR,fB,dF,bF,pA,rE,↓reduceIte,rA];have gAc:v'.cells=some [v']:=aV.cells;refine oN (v:=.undef) (S1:=⟨V.h.set mb (some (.cells (eG db {m with lvl:=v'}) false 0)),V.nx⟩) (show Nat.testBit 536870911 26=true by decide) (fun call=>?_) ?_
 ·rw[dW];simp only[fB,bF,rE,↓reduceIte,dF,gAc,aH];exact stc (cs:=eG db m) (p:=1) (S:=V) gmV (show 1<10 by omega)
 rw[nF];refine⟨?_,?_⟩
 ·simp only[Dz,Be,Ee,Cu,Ck];exact hld _ _
 ·simp only[dF,fQ];have kF:∀k,k<S'.nx->k≠X.nx+25->k≠mb->bP m.lvl≠some k->(V.h.set mb (some (.cells (eG db {m with lvl:=v'}) false 0))).get k=S'.h.get k:=fun k h1 h2 h3 h4=>by
   rw[dq,if_neg h3,kV k au h4,kU k h2]
  have hlvb:=fun {k} (hk:bP m.lv=some k)=>fP hd.il hk;refine hQ _ _ v' a b c (fun j hj=>?_) a1 a2 b1 b2 c1 c2 fh (dZ.move (by show S'.nx<=V.nx;omega) (kF db dZ.lt (aw hd.lt) nmd.symm fun e=>(dn db e).2.1 rfl) fun k hk=>kF k (by have:=hlvb hk;omega) (by have:=hlvb hk;omega) (dm k hk) fun e=>(dn k e).2.2 hk) (aV.move (Af _) (fun k hk=>?_) fun _ _ h=>h) (by show X.nx<=V.nx;omega) (fun k h1 h2 h3 h4=>?_) (fun k hk=>?_)
  ·rw[bF,if_neg au,bF,if_neg au,bF,if_neg au];exact hk j hj
  ·simp only;rw[dq,if_neg];rcases bV k hk with h | h
   ·exact(dn k h).1
   ·omega
  ·simp only;rw[kF k au au  h2 h4];exact sZ.2 k h1 h3
  ·rcases bV k hk with h | h
   ·exact .inl h
   ·exact .inr au
theorem aUg{F:Fr}{h:Ev.T AB}{lv:AV}(h11:aB 11 F=lv)(hc:lv.cells=some [lv]):iT (.build [.ce,.int .i64 0] [(0,1,.t 11)]) F h=some (.agg [lv,.int .i64 0]):=by
 show(aU (eQ _ (fG F [(0,1,.t 11)])) fun cs=>some (AV.agg cs))=_;simp only[fG,show(cP.t 11).val F=lv from h11,eQ,hc,aH];rfl
theorem aTk{F:Fr}{h:Ev.T AB}{db:Nat}{most:Int}{zero:Bool}(h13:aB 13 F= .ptr db 0)(h14:aB 14 F= .int .i64 most)(h15:aB 15 F= .bool zero):iT (.build [.nilp,.ce,.ce,.int .i64 0,.int .i64 0,.bool false,.bool false,.int .i64 0,.ce,.ce] [(0,1,.t 13),(3,1,.t 14),(4,1,.c (.int .i64 1)),(5,1,.t 15)]) F h=some (.agg [.ptr db 0,.ce,.ce,.int .i64 most,.int .i64 1,.bool zero,.bool false,.int .i64 0,.ce,.ce]):=by
 show(aU (eQ _ (fG F [(0,1,.t 13),(3,1,.t 14),(4,1,.c (.int .i64 1)),(5,1,.t 15)])) fun cs=>some (AV.agg cs))=_;simp only[fG,show(cP.t 13).val F= .ptr db 0 from h13,show(cP.t 14).val F= .int .i64 most from h14,show(cP.t 15).val F= .bool zero from h15,mX,eQ,cN,aAr,show(AV.ptr db 0).cells=some [.ptr db 0] from rfl,aH];rfl
theorem aQC{h:Ev.T AB}{b:Nat}{a0 a1 a2 a3 a4 a5 a6 x y z:AV}{o:Bool}{s:Nat}(hb:h.get b=some (.cells [a0,a1,a2,a3,a4,a5,a6,x,y,z] o s)):dJ (.ptr b 7) true 3 h=some (.agg [x,y,z]):=by
 simp only[dJ,iQ,aN,oM,cA,hb,aH];rfl
def mk0(lv lvl:AV)(dl:bm)(ps most:Int)(zero:Bool):Mk:=⟨lvl,.ce,.ce,.ce,lv,most,1,ps,zero,false,dl,[],[],[]⟩
def aTS(ps:Int)(LV:List (Int×Int×Int)):Prop:=∀p∈LV,(-1<=p.1/\p.1<ps)/\(2<=p.2.1/\p.2.1<=3)/\0<=p.2.2/\p.2.2<=1000
def GmI(S:St)(gb db mb:Nat)(lv:AV)(dl:bm)(ps most:Int)(zero:Bool)(k:Nat)(A:bN)(X:St):Prop:=A.inr=false/\mb<X.nx/\Same S X/\X.h.get gb=some (.cells [.int .i64 0,.ce,.ce] false 0)/\∃ (lvl:AV) (LV:List (Int×Int×Int)),X.h.get mb=some (.cells (eG db (mk0 lv lvl dl ps most zero)) false 0)/\rO X db lv dl/\uG 3 PlB S X lvl LV/\(∀c,bP lvl=some c->c≠gb/\c≠mb/\c≠db/\bP lv≠some c)/\aTS ps LV/\LV.length+k<=5/\aB 1 A.F= .int .i64 ps/\aB 8 A.F= .ptr gb 0/\aB 9 A.F= .ptr mb 0/\aB 10 A.F= .int .i64 (k:Int)
theorem aGp{S:St}{lv:AV}{dl:bm}{ps most:Int}{zero:Bool}(H:Has fns)(hl:cH .i64 S lv dl)(hbd:dl.length<=140737488355328)(hps:1<=ps/\ps<=4)(hm:1<=most/\most<=200):
  eT fns (.fn 22 [] []) [lv,.int .i64 ps,.int .i64 most,.bool zero] S fun r Z=>Same S Z/\∃ (g:bD) (nv iv:AV),r= .agg [.int .i64 g.b9,nv,iv]/\g.b9=ps/\eO g=0/\(g.bw.length:Int)<=most/\(∀x∈g.bw,mS g.b9 g.bz x)/\((∃k,k<=5/\aAk k 0 g.bw)/\pL (g.bw.map lbl) g.bz.length)/\bH 6 dC Z nv g.bw/\bH 2 fO Z iv g.bz/\∀X':St,Z.nx<=X'.nx->(∀c,c<Z.nx->(S.nx<=c\/bP lv=some c)->X'.h.get c=Z.h.get c)->bH 6 dC X' nv g.bw/\bH 2 fO X' iv g.bz:=by
 have hlc:=cH.cells hl;refine bL H.f22 (by simp) ?_;refine ae ?_;refine bK ?_;refine cM ?_;intro S1 s1 n1 g1;refine ap ?_;have hbd1:=fun(F:Fr) (h:Ev.T AB) (a:aB 11 F=lv)=>aUg (F:=F) (h:=h) a hlc;have hbd2:=fun(F:Fr) (h:Ev.T AB) (a:aB 13 F= .ptr S1.nx 0) (b:aB 14 F= .int .i64 most) (c:aB 15 F= .bool zero)=>aTk (F:=F) (h:=h) a b c;refine bK (dz hbd1 ?_);refine cD (cs:=[lv,.int .i64 0]) (by refine ap ?_;exact aS _) ?_;intro S2 s2 n2 g2;refine dz hbd2 ?_;refine cD (cs:=[.ptr S1.nx 0,.ce,.ce,.int .i64 most,.int .i64 1,.bool zero,.bool false,.int .i64 0,.ce,.ce]) (by refine ap ?_;exact aS _) ?_;intro S3 s3 n3 g3;refine ap ?_;refine bK (di @aY @bB @aD @aC ?_);refine fK (v:=.undef) (S1:=⟨S3.h.set S2.nx (some (.cells (eG S1.nx (mk0 lv .ce dl ps most zero)) false 0)),S3.nx⟩) (fun call=>by refine c9 @dW @cN ?_;exact stc (cs:=[.ptr S1.nx 0,.ce,.ce,.int .i64 most,.int .i64 1,.bool zero,.bool false,.int .i64 0,.ce,.ce]) (p:=7) (S:=S3) g3 (show 7<10 by omega)) ?_;refine ae ?_;obtain⟨S4,hS4⟩:∃Z:St,Z=⟨S3.h.set S2.nx (some (.cells (eG S1.nx (mk0 lv .ce dl ps most zero)) false 0)),S3.nx⟩:=⟨_,rfl⟩;have n4:S4.nx=S3.nx:=by rw[hS4]
 have k4:∀c,c≠S2.nx->S4.h.get c=S3.h.get c:=fun c hc=>by rw[hS4];simp only;rw[dq,if_neg hc]
 have gm4:S4.h.get S2.nx=some (.cells (eG S1.nx (mk0 lv .ce dl ps most zero)) false 0):=by rw[hS4];simp only;rw[dq,if_pos rfl]
 rw[<-hS4];clear hS4 g3;have sS4:Same S S4:=⟨au,fun c hc=>by rw[k4 c au,s3.2 c au,s2.2 c au];exact s1.2 c hc⟩;have gg4:S4.h.get S.nx=some (.cells [.int .i64 0,.ce,.ce] false 0):=by rw[k4 _ au,s3.2 _ au,s2.2 _ au];exact g1
 have gd4:S4.h.get S1.nx=some (.cells [lv,.int .i64 ((0:Nat):Int)] false 0):=by rw[k4 _ au,s3.2 _ au];exact g2
 have hlow:=fun {c} (hc:bP lv=some c)=>fP hl hc;have hd4:rO S4 S1.nx lv dl:=⟨au,⟨0,gd4,Dt _⟩,hl.same sS4,fun e=>by have:=hlow e;omega,hbd⟩;have f0:=eE (p:=0) gm4 rfl;refine fA (du @aY @bB @aD @aC f0 ?_);refine aL (ae ?_);refine aF (mJ H hd4 (n:=5) ay ay) ?_;rintro _ S5 ⟨x5,hd5,y,rfl,y1,y2⟩;have wy:IntKind.i64.wrap (1+y)=((1+y.toNat:Nat):Int):=by rw[wrap_i64 au au];omega
 refine cp wy ?_;have n5:=x5.1;have k5:∀c,c<S4.nx->c≠S1.nx->S5.h.get c=S4.h.get c:=x5.2;refine bG (Q:=fun o A' X=>o= .normal/\GmI S S.nx S1.nx S2.nx lv dl ps most zero 0 A' X) (aQ (bX (GmI S S.nx S1.nx S2.nx lv dl ps most zero) ?_ (1+y.toNat) _ _ ⟨rfl,au,⟨au,fun c hc=>(k5 c au au).trans (sS4.2 c hc)⟩,(k5 _ au au).trans gg4,.ce,[],(k5 _ au au).trans gm4,hd5,uG.none,fun c hc=>(by cases hc),fun p hp=>(by cases hp),by show 0+(1+y.toNat)<=5;omega,by refine⟨?_,?_,?_,?_⟩<;>simp only[↓sU,sD,rE,↓reduceIte,rA]⟩)) ?_
 ·clear f0 hd4 gd4 gg4 gm4 k4 hd5 x5 k5 sS4 g1 g2 s1 s2 s3;rintro k ⟨F,inr⟩ X ⟨q0,lmb,sX,gX,lvl,LV,gm,hd,ha,hdj,hok,hlen,p1,p8,p9,p10⟩;simp only at q0 p1 p8 p9 p10;subst q0;refine fA (cp p10 ?_);rcases An k with hk0 | hkp
  ·subst hk0;refine aO (by simp only[↓sU,sD,rE,↓reduceIte,rA];rfl) (bS ?_);refine ae ?_;exact⟨rfl,lmb,sX,gX,lvl,LV,gm,hd,ha,hdj,hok,hlen,by refine⟨?_,?_,?_,?_⟩<;>simp only[↓sU,sD,rE,↓reduceIte,rA,p1,p8,p9,p10]⟩
  refine aP (by simp only[↓sU,sD,rE,↓reduceIte,rA,Ac (show(k:Int)>0 by omega)]) (aJ ?_);try refine ae ?_
  have wk:IntKind.i64.wrap ((k:Int) - 1)=((k - 1:Nat):Int):=by rw[wrap_i64 au au];omega
  refine aE (aQ ?_);refine aPw (S:=S) (mb:=S2.nx) (db:=S1.nx) (m:=mk0 lv lvl dl ps most zero) (LV:=LV) (ps:=ps) H rfl gm lmb au hd ha sX.1 (fun c hc=>⟨(hdj c hc).2.1,(hdj c hc).2.2.1,(hdj c hc).2.2.2⟩) (fun c hc=>by have:=hlow hc;omega) (ah p9) (ah p1) hps au ?_;intro F' Z lvl' a b c hk a1 a2 b1 b2 c1 c2 gmZ dZ aZ nZ kZ bZ;have r1:=hk 1 au;have r8:=hk 8 au;have r9:=hk 9 au;have r10:=hk 10 au;simp only[↓sU,sD,rE,↓reduceIte,rA,p1,p8,p9,p10] at r1 r8 r9 r10;try refine ae ?_
  refine aM (c9 r10 wk ?_);have nX:=sX.1;refine⟨k - 1,au,rfl,au,⟨au,fun j hj=>(kZ j au au au (fun e=>by have:=(ha.blk e).1;omega)).trans (sX.2 j hj)⟩,(kZ _ au au au (fun e=>(hdj _ e).1 rfl)).trans gX,lvl',LV++ [(a,b,c)],gmZ,dZ,aZ,fun j hj=>?_,fun p hp=>?_,by rw[Aj,Bc];omega,by refine⟨?_,?_,?_,?_⟩<;>simp only[↓sU,sD,rE,↓reduceIte,rA,r1,r8,r9]⟩
  ·rcases bZ j hj with h | h
   ·exact hdj j h
   ·exact⟨au,au,au,fun e=>by have:=hlow e;omega⟩
  ·rcases Bs.1 hp with h | h
   ·exact hok p h
   ·rw[Es.1 h];exact⟨⟨a1,a2⟩,⟨b1,b2⟩,c1,by show c<=1000;omega⟩
 clear f0 hd4 gd4 gg4 gm4 k4 hd5 x5 k5 sS4 g1 g2 s1 s2 s3;rintro o ⟨F,inr⟩ X ⟨rfl,q0,lmb,sX,gX,lvl,LV,gm,hd,ha,hdj,hok,hlen,p1,p8,p9,_⟩;simp only at q0 p1 p8 p9;subst q0;have nX:=sX.1;obtain⟨pn,rfl⟩:∃pn:Nat,ps=(pn:Int):=⟨ps.toNat,au⟩;try refine ae ?_
 refine bK (d7 p1 p9 ?_);refine oR (oJ (n:=pn) (by simp only[↓stU,aG,rE,↓reduceIte,rA,aW]) (by simp only[↓stU,aG,rE,↓reduceIte,rA,aW]) ax ax) ?_;intro X1 x1 m1 g1;rw[repeatL_one] at g1;try refine ap ?_
 refine aL (ae ?_);have hlv:bH 3 PlE X lvl LV:=ha.is fun e a h=>h;have hMX:nE (fun c=>c≠S.nx/\(S.nx<=c\/bP lv=some c)) S X S2.nx S1.nx (mk0 lv lvl dl (pn:Int) most zero) LV:=by
  have pbl:∀c,c≠S2.nx->c≠S1.nx->PB S2.nx S1.nx (mk0 lv lvl dl (pn:Int) most zero) c:=fun c h1 h2=>⟨h1,h2,(by intro e;cases e),(by intro e;cases e),(by intro e;cases e)⟩;exact⟨⟨lmb,au,au,au,hd,fun c hc=>⟨pbl c (by have:=hlow hc;omega) (by have:=hlow hc;omega),(by have:=hlow hc;omega),.inr hc⟩,hlv,fun c hc=>⟨pbl c (hdj c hc).2.1 (hdj c hc).2.2.1,(hdj c hc).1,.inl (ha.blk hc).1⟩,uG.none,uG.none,uG.none,fun c hc=>(by cases hc),fun c hc=>(by cases hc),fun c hc=>(by cases hc)⟩,gm⟩
 have hM1:=hMX.same x1;have hgb1:X1.h.get S.nx=some (.cells [.int .i64 0,.ce,.ce] false 0):=(x1.2 _ au).trans gX;have hseen:wG (fun c=>PB S2.nx S1.nx (mk0 lv lvl dl (pn:Int) most zero) c/\c≠S.nx/\(S.nx<=c\/bP lv=some c)) X1 (.sl X.nx 0 pn pn false) (List.replicate pn []):=by
  refine⟨.inr ⟨X.nx,0,pn,false,List.replicate pn .ce,by rw[Bp],by rw[Bp];exact Af _,au,by unfold cA;rw[g1];rfl,fun i a hi=>?_⟩,fun c hc=>by cases hc;exact⟨hMX.p.fresh (Af _),au,.inl au⟩⟩;have hlt:=(Ai.1 hi).1;rw[Bp] at hlt;rw[Fz,if_pos hlt] at hi;cases hi;refine⟨[.ce],rfl,fun j x hj=>?_,.ce,rfl,.inl ⟨rfl,.inl rfl⟩,fun c hc=>by cases hc⟩;cases j with
  | zero=>
   cases hj;rw[Ao,Bt,Fz,if_pos au]
  | succ j=>simp at hj
 have hb:=aHb (S0:=S) (mb:=S2.nx) (db:=S1.nx) (LV:=LV) H (fun p hp=>by
  have⟨⟨a1,_⟩,⟨b1,b2⟩,c1,c2⟩:=hok p hp;exact⟨a1,b1,b2,c1,c2⟩) au LV.length 0 au X1 (fun c=>c≠S.nx/\(S.nx<=c\/bP lv=some c)) (mk0 lv lvl dl (pn:Int) most zero) (.sl X.nx 0 pn pn false) (List.replicate pn []) hM1 au ⟨⟨rfl,fun j v hv=>(by cases hv)⟩,fun j v hv=>(by cases hv),fun x hx=>(by cases hx),by show(0:Int)+1<=most;omega,by show(0:Int)<=1;omega,by show most<=1000;omega,Af _,hps⟩ (by show(1:Int)<=1;omega) hseen (by rw[Bp];rfl) (fun l hl=>by rw[List.eq_of_mem_replicate hl];exact Af _) (fun p hp=>(hok p hp).1.2)
 refine aF hb ?_;rintro _ Y ⟨rfl,m',B,hB,hT,hY,bY⟩;try refine ae ?_
 have e0:m'.bw=B:=by have:=hB.bw;rw[this];rfl
 have ep:m'.ps=(pn:Int):=hB.ps;have hfit:=hB.fit;have hpd:m'.pend=0:=by rw[hB.pend];rfl
 have hmo:m'.most=most:=hB.most;have hil:=hB.il;have pgb:=(bY.2 S.nx au ⟨au,au,(by intro e;cases e),(by intro e;cases e),(by intro e;cases e)⟩);have gbY:=pgb.1.trans hgb1;have lgm:=aQC hY.g;have nY:=bY.1;refine bK (dx p9 p8 @aY @bB @aD @aC lgm ?_);refine dH (b:=S.nx) (cs':=[.int .i64 m'.ps,m'.na,m'.ia]) (ah p8) (by refine ae ?_;exact aS _) gbY rfl rfl ?_;intro Z z1 z2 z3;have lag:=jT z3;refine ae ?_;refine aK (dh @bR p8 lag ?_);have hZ:nE (fun c=>(c≠S.nx/\(S.nx<=c\/bP lv=some c))\/X1.nx<=c) S Z S2.nx S1.nx m' LV:=hY.local z1.1 fun c hc hor=>z1.2 c hc fun e=>by
  rcases hor with h | h | h
  ·exact h (by rw[e];exact pgb.2)
  ·exact h.1 e
  ·omega
 have sX1:Same S X1:=sX.trans x1;have sY:Same S Y:=⟨au,fun c hc=>((bY.2 c au ⟨au,au,(by intro e;cases e),(by intro e;cases e),(by intro e;cases e)⟩).1).trans (sX1.2 c hc)⟩;refine⟨z1.same sY (Af _),⟨m'.ps,m'.bw,m'.bz⟩,m'.na,m'.ia,rfl,ep,?_,?_,?_,⟨⟨LV.length,au,by show aAk LV.length 0 m'.bw;rw[e0];exact hT⟩,by
  show pL (m'.bw.map lbl) m'.bz.length;rw[e0];have:=hB.ord [] .nil
  rwa [Ck] at this⟩,hZ.p.nod.is fun e a ⟨xa,xw,xp,h1,h2,h3,h4,_⟩=>⟨xa,xw,xp,h1,h2,h3,h4⟩,hZ.p.inf.is fun e a h=>h,fun X' hn hk=>?_⟩
 rotate_right
 ·have hkp:∀c,c<Z.nx->(PB S2.nx S1.nx m' c/\((c≠S.nx/\(S.nx<=c\/bP lv=some c))\/X1.nx<=c))->X'.h.get c=Z.h.get c/\True:=fun c hc hp=>⟨hk c hc (by
   rcases hp.2 with h | h
   ·exact h.2
   ·exact .inl au),trivial⟩
  have a1:=hZ.p.nod.move (E':=aGA X' fun _=>True) hn (fun c hc=>hk c (hZ.p.nod.blk hc).2 (.inl (hZ.p.nod.blk hc).1)) fun e a hE=>aGA.move hE hn hkp;have a2:=hZ.p.inf.move (E':=aOt) hn (fun c hc=>hk c (hZ.p.inf.blk hc).2 (.inl (hZ.p.inf.blk hc).1)) fun e a hE=>hE;exact⟨a1.is fun e a ⟨xa,xw,xp,h1,h2,h3,h4,_⟩=>⟨xa,xw,xp,h1,h2,h3,h4⟩,a2.is fun e a h=>h⟩
 rotate_right
 ·intro x hx;have hx:x∈m'.bw:=hx;rw[e0] at hx;show mS m'.ps m'.bz x;rw[ep];exact hB.ok x hx
 ·have hBl:=hT.1;refine aOp (k:=LV.length) (by show 1<=m'.ps/\m'.ps<=4;rw[ep];exact hps) (by show 1<=m'.bw.length/\m'.bw.length<=2000;rw[e0] at hfit ⊢;omega) (by show m'.bz.length<=200;omega) (fun x hx=>?_) ?_ au ?_
  ·have hx:x∈m'.bw:=hx;rw[e0] at hx;show mS m'.ps m'.bz x;rw[ep];exact hB.ok x hx
  ·show aAk LV.length 0 m'.bw;rw[e0];exact hT
  ·show pL (m'.bw.map lbl) m'.bz.length;rw[e0];have:=hB.ord [] .nil
   rwa [Ck] at this
 ·show(m'.bw.length:Int)<=most;omega
theorem aIo{S:St}{lv:AV}{dl:bm}{ps most:Int}{zero:Bool}(H:Has fns)(hl:cH .i64 S lv dl)(hbd:dl.length<=140737488355328)(hps:1<=ps/\ps<=4)(hm:1<=most/\most<=200):
  eT fns (.fn 22 [] []) [lv,.int .i64 ps,.int .i64 most,.bool zero] S fun r Z=>Same S Z/\∃ (g:bD) (nv iv:AV),r= .agg [.int .i64 g.b9,nv,iv]/\g.b9=ps/\eO g=0/\(g.bw.length:Int)<=most/\(∀x∈g.bw,mS g.b9 g.bz x)/\bH 6 dC Z nv g.bw/\bH 2 fO Z iv g.bz/\∀X':St,Z.nx<=X'.nx->(∀c,c<Z.nx->(S.nx<=c\/bP lv=some c)->X'.h.get c=Z.h.get c)->bH 6 dC X' nv g.bw/\bH 2 fO X' iv g.bz:=
 aF (aGp H hl hbd hps hm) fun _ _ h=>by
  have⟨a,g,nv,iv,b,c,d,e,f,_,i,j,k⟩:=h;exact⟨a,g,nv,iv,b,c,d,e,f,i,j,k⟩
def gP:Nat->(Nat->Nat)->Nat
 | 0,_=>0
 | n+1,f=>gP n f+f n
theorem gG:∀ {n:Nat} {f g:Nat->Nat},(∀i,i<n->f i=g i)->gP n f=gP n g
 | 0,_,_,_=>rfl
 | n+1,f,g,h=>by
  show gP n f+f n=gP n g+g n;rw[gG fun i hi=>h i au,h n au]
theorem aIh{f g:Nat->Nat}:∀ {n:Nat},gP n (fun i=>f i+g i)=gP n f+gP n g
 | 0=>rfl
 | n+1=>by
  show gP n (fun i=>f i+g i)+(f n+g n)=(gP n f+f n)+(gP n g+g n);rw[aIh (n:=n)];omega
theorem aBP:∀ {n:Nat},gP n (fun _=>0)=0
 | 0=>rfl
 | n+1=>by show gP n (fun _=>0)+0=0;rw[aBP (n:=n)]
theorem aEl{a:Nat}{f:Nat->Nat}:∀ {n:Nat},gP n (fun i=>f i * a)=gP n f * a
 | 0=>by show 0=0 * a;rw[Fu]
 | n+1=>by
  show gP n (fun i=>f i * a)+f n * a=(gP n f+f n) * a;rw[aEl (n:=n),Ch]
theorem aDa:∀ {n:Nat},gP n (fun _=>1)=n
 | 0=>rfl
 | n+1=>by show gP n (fun _=>1)+1=n+1;rw[aDa (n:=n)]
theorem aAc{f:Nat->Nat}{a:Nat}:∀ {b:Nat},gP (a+b) f=gP a f+gP b (fun i=>f (a+i))
 | 0=>rfl
 | b+1=>by
  show gP (a+b) f+f (a+b)=gP a f+(gP b (fun i=>f (a+i))+f (a+b));rw[aAc (b:=b)];omega
theorem aCx{f:Nat->Nat}{R:Nat}:∀ {m:Nat},gP (m * R) f=gP m (fun u=>gP R (fun d=>f (u * R+d)))
 | 0=>by rw[Fu];rfl
 | m+1=>by
  rw[Gg,aAc,aCx (m:=m)];rfl
theorem aC5:∀ {l:bm} {k:Nat},(∀x∈l,0<=x)->gP l.sum.toNat (fun d=>if jD l (d:Int)=k/\k<l.length then 1 else 0)=(l.getD k 0).toNat
 | [],k,_=>rfl
 | w::l,k,h=>by
  have hw:=h w (Bn ..);have hl:=fun x hx=>h x (Bf _ hx);have hs:0<=l.sum:=by
   clear h
   induction l with
   | nil=>simp
   | cons x l ih=>
    rw[Ea];have:=hl x (Bn ..);have:=ih fun y hy=>hl y (Bf _ hy);omega
  have e:(w::l).sum.toNat=w.toNat+l.sum.toNat:=by rw[Ea];omega
  rw[e,aAc];have p1:∀d,d<w.toNat->jD (w::l) (d:Int)=0:=fun d hd=>by
   show(if(d:Int)<w then 0 else jD l ((d:Int) - w)+1)=0;rw[if_pos au]
  have p2:∀d,jD (w::l) ((w.toNat+d:Nat):Int)=jD l (d:Int)+1:=fun d=>by
   show(if((w.toNat+d:Nat):Int)<w then 0 else jD l (((w.toNat+d:Nat):Int) - w)+1)=_;rw[if_neg au,show((w.toNat+d:Nat):Int) - w=(d:Int) by omega]
  cases k with
  | zero=>
   have a1:gP w.toNat (fun d=>if jD (w::l) (d:Int)=0/\0<(w::l).length then 1 else 0)=w.toNat:=by
    rw[gG (g:=fun _=>1) fun d hd=>by rw[if_pos ⟨p1 d hd,by simp⟩],aDa]
   have a2:gP l.sum.toNat (fun d=>if jD (w::l) ((w.toNat+d:Nat):Int)=0/\0<(w::l).length then 1 else 0)=0:=by
    rw[gG (g:=fun _=>0) fun d hd=>by rw[if_neg (by rw[p2 d];omega)],aBP]
   rw[a1,a2];rfl
  | succ k=>
   have a1:gP w.toNat (fun d=>if jD (w::l) (d:Int)=k+1/\k+1<(w::l).length then 1 else 0)=0:=by
    rw[gG (g:=fun _=>0) fun d hd=>by rw[if_neg (by rw[p1 d hd];omega)],aBP]
   have a2:gP l.sum.toNat (fun d=>if jD (w::l) ((w.toNat+d:Nat):Int)=k+1/\k+1<(w::l).length then 1 else 0)=(l.getD k 0).toNat:=by
    rw[<-aC5 (l:=l) (k:=k) hl];refine gG fun d hd=>?_;rw[p2 d,Av];by_cases hh:jD l (d:Int)=k/\k<l.length
    ·rw[if_pos au,if_pos hh]
    ·rw[if_neg au,if_neg hh]
   rw[a1,a2,Ao];rfl
def trL(g:bD)(D:Dec):Nat->Nat->Nat->List (Nat×Nat)
 | 0,_,_=>[]
 | f+1,i,s=>if(cj g i).kind=3 then [(i,s)] else(i,s)::trL g D f ((cj g i).next.getD ((eM D (cj g i)).chs (cj g i) (s % (eM D (cj g i)).rad (cj g i))) 0).toNat (s / (eM D (cj g i)).rad (cj g i))
def aFW(φ:Nat->Nat)(j:Nat)(l:List (Nat×Nat)):Nat:=(l.map fun x=>if x.1=j then φ x.2 else 0).sum
theorem mI{φ:Nat->Nat}{j:Nat}{x:Nat×Nat}{l:List (Nat×Nat)}:aFW φ j (x::l)=(if x.1=j then φ x.2 else 0)+aFW φ j l:=by
 unfold aFW;rw[Fa,Ea]
theorem aKQ{g:bD}{D:Dec}:∀ {f i s:Nat},iE g D f i s=(trL g D f i s).map fun x=>(x.1:Int)
 | 0,_,_=>rfl
 | f+1,i,s=>by
  simp only[iE,trL];split
  ·rfl
  ·rw[Fa,aKQ (f:=f)]
theorem aHI{g:bD}{D:Dec}(G:fH g){q k:Nat}(hq:q<g.bw.length)(hk:k<(cj g q).next.length)(hlt:∀i,i<g.bw.length->(cj g i).kind≠3->∀d,d<(eM D (cj g i)).rad (cj g i)->(eM D (cj g i)).chs (cj g i) d<(cj g i).next.length)(hrad:∀i,i<g.bw.length->(cj g i).kind≠3->0<(eM D (cj g i)).rad (cj g i))(φ:Nat->Nat):
  ∀ {f i s:Nat},i<g.bw.length->g.bw.length<=f+i->aFW φ ((cj g q).next.getD k 0).toNat (trL g D f i s)=aFW (fun r=>if(eM D (cj g q)).chs (cj g q) (r % (eM D (cj g q)).rad (cj g q))=k then φ (r / (eM D (cj g q)).rad (cj g q)) else 0) q (trL g D f i s)+(if i=((cj g q).next.getD k 0).toNat then φ s else 0)
 | 0,i,s,hi,hf=>by omega
 | f+1,i,s,hi,hf=>by
  have hkq:(cj g q).kind≠3:=fun h=>by rw[G.fin q hq h] at hk;exact absurd hk (Dc _)
  have⟨c1,c2⟩:=G.good.kids q hq k hk;simp only[trL];by_cases h3:(cj g i).kind=3
  ·rw[if_pos h3,mI,mI];have hiq:i≠q:=fun e=>hkq (by rw[<-e];exact h3);rw[if_neg (show ¬ (i,s).1=q from hiq)];show(if i=_ then φ s else 0)+0=0+0+_;omega
  ·rw[if_neg h3,mI,mI];have hR:=hrad i hi h3;have hd:=Dj s hR;have hch:=hlt i hi h3 _ hd;have⟨b1,b2⟩:=G.good.kids i hi _ hch;have ih:=aHI G hq hk hlt hrad φ (f:=f) (i:=((cj g i).next.getD ((eM D (cj g i)).chs (cj g i) (s % (eM D (cj g i)).rad (cj g i))) 0).toNat) (s:=s / (eM D (cj g i)).rad (cj g i)) au au;rw[ih];have key:(if((cj g i).next.getD ((eM D (cj g i)).chs (cj g i) (s % (eM D (cj g i)).rad (cj g i))) 0).toNat=((cj g q).next.getD k 0).toNat then φ (s / (eM D (cj g i)).rad (cj g i)) else 0)=(if(i,s).1=q then(if(eM D (cj g q)).chs (cj g q) ((i,s).2 % (eM D (cj g q)).rad (cj g q))=k then φ ((i,s).2 / (eM D (cj g q)).rad (cj g q)) else 0) else 0):=by
    by_cases he:((cj g i).next.getD ((eM D (cj g i)).chs (cj g i) (s % (eM D (cj g i)).rad (cj g i))) 0).toNat=((cj g q).next.getD k 0).toNat
    ·obtain⟨rfl,hkk⟩:=G.good.only hi hch hq hk au;rw[if_pos he,if_pos (show(i,s).1=i from rfl),if_pos hkk]
    ·rw[if_neg he];by_cases hiq:i=q
     ·subst hiq;rw[if_pos (show(i,s).1=i from rfl),if_neg (fun e=>he (by rw[show(eM D (cj g i)).chs (cj g i) (s % (eM D (cj g i)).rad (cj g i))=k from e]))]
     ·rw[if_neg (show ¬ (i,s).1=q from hiq)]
   rw[key];show(if i=_ then φ s else 0)+_=_;omega
section
variable {g:bD}{b:Int}{L:List (bm)}{v:AV}
theorem aHx{g:bD}(G:jI g)(F:Nat->Nat->Nat->Nat):∃W:Nat->Nat,W 0=1/\∀i,i<g.bw.length->∀k,k<(cj g i).next.length->W ((cj g i).next.getD k 0).toNat=F i k (W i):=by
 have key:∀n:Nat,∃W:Nat->Nat,W 0=1/\∀i,i<g.bw.length->∀k,k<(cj g i).next.length->(cj g i).next.getD k 0<(n:Int)->W ((cj g i).next.getD k 0).toNat=F i k (W i):=by
  intro n
  induction n with
  | zero=>exact⟨fun _=>1,rfl,fun i hi k hk h=>by have:=(G.kids i hi k hk).1;omega⟩
  | succ n ih=>
   have⟨W,h0,h1⟩:=ih;by_cases hn:0<n/\n<g.bw.length
   ·have⟨q,k0,hq,hk0,he⟩:=gB G hn.1 hn.2;refine⟨fun j=>if j=n then F q k0 (W q) else W j,by simp only;rw[if_neg au];exact h0,fun i hi k hk h=>?_⟩;have hb:=G.kids i hi k hk;simp only;by_cases e:(cj g i).next.getD k 0=(n:Int)
    ·obtain⟨rfl,rfl⟩:=G.only hi hk au hk0 (by rw[e,he]);rw[e,Bd,if_pos rfl,if_neg au]
    ·rw[if_neg au,if_neg au];exact h1 i hi k hk au
   ·refine⟨W,h0,fun i hi k hk h=>h1 i hi k hk ?_⟩;have hb:=G.kids i hi k hk;omega
 have⟨W,h0,h1⟩:=key g.bw.length;exact⟨W,h0,fun i hi k hk=>h1 i hi k hk (G.kids i hi k hk).2⟩
theorem aNP{φ:Nat->Nat}{D:Dec}(G:fH g)(hlt:∀i,i<g.bw.length->(cj g i).kind≠3->∀d,d<(eM D (cj g i)).rad (cj g i)->(eM D (cj g i)).chs (cj g i) d<(cj g i).next.length)(hrad:∀i,i<g.bw.length->(cj g i).kind≠3->0<(eM D (cj g i)).rad (cj g i)){j:Nat}:∀ {f i s:Nat},i<g.bw.length->j<i->aFW φ j (trL g D f i s)=0
 | 0,_,_,_,_=>rfl
 | f+1,i,s,hi,hj=>by
  simp only[trL];by_cases h3:(cj g i).kind=3
  ·rw[if_pos h3,mI];have:¬ (i,s).1=j:=by show ¬i=j;omega
   rw[if_neg this];rfl
  ·rw[if_neg h3,mI];have:¬ (i,s).1=j:=by show ¬i=j;omega
   rw[if_neg this];have⟨b1,b2⟩:=G.good.kids i hi _ (hlt i hi h3 _ (Dj s (hrad i hi h3)));rw[aNP G hlt hrad (f:=f) au au]
theorem aN1{φ:Nat->Nat}{D:Dec}(G:fH g)(hlt:∀i,i<g.bw.length->(cj g i).kind≠3->∀d,d<(eM D (cj g i)).rad (cj g i)->(eM D (cj g i)).chs (cj g i) d<(cj g i).next.length)(hrad:∀i,i<g.bw.length->(cj g i).kind≠3->0<(eM D (cj g i)).rad (cj g i)){f s:Nat}(hN:0<g.bw.length):aFW φ 0 (trL g D (f+1) 0 s)=φ s:=by
 simp only[trL];by_cases h3:(cj g 0).kind=3
 ·rw[if_pos h3,mI,if_pos rfl];rfl
 ·rw[if_neg h3,mI,if_pos rfl];have⟨b1,b2⟩:=G.good.kids 0 hN _ (hlt 0 hN h3 _ (Dj s (hrad 0 hN h3)));rw[aNP G hlt hrad (f:=f) au au];rfl
end
def lK(j:Nat):bm->Nat
 | []=>0
 | x::l=>(if x=(j:Int) then 1 else 0)+lK j l
theorem aEx{j:Nat}:∀ {l m:bm},lK j (l++m)=lK j l+lK j m
 | [],m=>by show _=0+_;rw[Ao];rfl
 | x::l,m=>by
  show _+lK j (l++m)=_+lK j l+lK j m;rw[aEx (l:=l),Cx]
theorem aKG{j:Nat}:∀ {l:List (Nat×Nat)},lK j (l.map fun x=>(x.1:Int))=aFW (fun _=>1) j l
 | []=>rfl
 | x::l=>by
  rw[mI,Fa,<-aKG (l:=l)];show(if(x.1:Int)=(j:Int) then 1 else 0)+_=_;by_cases e:x.1=j
  ·rw[if_pos e,if_pos au]
  ·rw[if_neg e,if_neg au]
section
variable {g:bD}{b:Int}{L:List (bm)}{pr W:Nat->Nat}{M:Nat}
theorem aKC(P:zO M g pr)(hM:1<=M/\M<=1073741824)(G:fH g):∀ {n z:Nat},n<=g.bw.length->spF M g pr n=some z->∀j,j<n->(cj g j).kind=3->pr j ∣ z
 | 0,_,_,_,j,hj,_=>absurd hj (Dc _)
 | n+1,z,hn,h,j,hj,hk=>by
  rw[aA9] at h;cases h1:spF M g pr n with
  | none=>rw[h1] at h;cases h
  | some y=>
   have ih:=aKC P hM G (n:=n) (z:=y) au h1;rw[h1] at h;have h:(if(cj g n).kind=3 then zJ y (pr n) else if 1000000000000000<pr n * wM M g n then none else some y)=some z:=h;split at h
   ·unfold zJ at h;split at h
    ·cases h
    ·cases h;have hgy:=Cw y (pr n);have hgp:=Eg y (pr n);by_cases e:j=n
     ·subst e;exact Nat.dvd_mul_left _ _
     ·refine Gh (ih j au hk) ?_;have⟨c,hc⟩:=hgp;refine⟨c,?_⟩;generalize hG:Nat.gcd y (pr n)=d at *;rw[hc,<-Bl,Dk hgy]
   ·split at h
    ·cases h
    ·cases h;rename_i h3 _;by_cases e:j=n
     ·subst e;exact absurd hk h3
     ·exact ih j au hk
theorem aKO(P:zO M g pr)(G:fH g){z:Nat}(h:∀j,j<g.bw.length->(cj g j).kind=3->pr j ∣ z):∀ {n j:Nat},j<g.bw.length->g.bw.length<=n+j->pr j ∣ z/\((cj g j).kind≠3->pr j * wM M g j ∣ z)
 | 0,j,hj,hn=>by omega
 | n+1,j,hj,hn=>by
  by_cases h3:(cj g j).kind=3
  ·exact⟨h j hj h3,fun e=>absurd h3 e⟩
  ·have hk:0<(cj g j).next.length:=by
    rcases G.knd j hj with hk | hk | hk
    ·exact(G.chn j hj hk).2.1
    ·exact(G.mov j hj hk).1
    ·exact absurd hk h3
   have⟨b1,b2⟩:=G.good.kids j hj 0 hk;have:=(aKO P G h (n:=n) (j:=((cj g j).next.getD 0 0).toNat) au au).1;rw[P.kid j hj 0 hk] at this;exact⟨Gh (Nat.dvd_mul_right _ _) this,fun _=>this⟩
def aGq(M:Nat)(g:bD):Nat->Nat
 | 0=>1
 | n+1=>aGq M g n * wM M g n
theorem zD{n:Nat}:∀ {m:Nat},n<=m->aGq M g n ∣ aGq M g m
 | 0,h=>by
  obtain rfl:n=0:=by omega
  exact Nat.dvd_refl _
 | m+1,h=>by
  by_cases e:n=m+1
  ·rw[e];exact Nat.dvd_refl _
  ·exact Gh (zD (n:=n) (m:=m) au) (Nat.dvd_mul_right _ _)
theorem aKZ(P:zO M g pr)(G:fH g):∀ {j:Nat},j<g.bw.length->pr j ∣ aGq M g j:=by
 intro j
 induction j using Nat.strongRecOn with
 | ind j ih=>
  intro hj;rcases An j with h0 | h0
  ·subst h0;rw[P.zero];exact Nat.one_dvd _
  ·have⟨q,k,hq,hk,he⟩:=gB G.good h0 hj;have:=P.kid q au k hk;rw[he,Bd] at this;rw[this];exact Gh (Nat.mul_dvd_mul_right (ih q hq au) _) (zD (n:=q+1) hq)
theorem aMW{z p Q:Nat}(h1:z ∣ Q)(h2:p ∣ Q):z / Nat.gcd z p * p ∣ Q:=by
 have h:=Nat.lcm_dvd h1 h2;unfold Nat.lcm at h
 rwa [Nat.div_mul_right_comm (Cw z p)]
theorem aHd(P:zO M g pr)(hM:1<=M/\M<=1073741824)(G:fH g){Q:Nat}(hQ:aGq M g g.bw.length ∣ Q)(h0:0<Q)(hle:Q<=1000000000000000):∀ {n:Nat},n<=g.bw.length->∃z,spF M g pr n=some z/\z ∣ Q
 | 0,_=>⟨1,rfl,Nat.one_dvd _⟩
 | n+1,hn=>by
  have⟨y,h1,h2⟩:=aHd P hM G hQ h0 hle (n:=n) au;have hd:pr n ∣ Q:=Gh (aKZ P G au) (Gh (zD au) hQ);have hd2:pr n * wM M g n ∣ Q:=Gh (Nat.mul_dvd_mul_right (aKZ P G au) _) (Gh (zD (n:=n+1) au) hQ);rw[aA9,h1];show ∃z,(if(cj g n).kind=3 then zJ y (pr n) else if 1000000000000000<pr n * wM M g n then none else some y)=some z/\z ∣ Q;split
  ·have hl:=aMW h2 hd;have:=Hj h0 hl;refine⟨y / Nat.gcd y (pr n) * pr n,?_,hl⟩;unfold zJ;rw[if_neg au]
  ·have:=Hj h0 hd2;rw[if_neg au];exact⟨y,rfl,h2⟩
theorem aHy(hM:1<=M/\M<=1073741824)(G:fH g):∀ {n:Nat},n<=g.bw.length->0<aGq M g n
 | 0,_=>Nat.one_pos
 | n+1,hn=>Ew (aHy hM G (n:=n) au) (aQM hM G au).1
end
theorem aKA:∀ {l:bm},(∀w∈l,1<=w/\w<=3)->l.sum<=3 * (l.length:Int)
 | [],_=>by simp
 | x::l,h=>by
  have h1:=h x (Bn ..);have h2:=aKA fun y hy=>h y (Bf _ hy);rw[Ea,Av];omega
theorem aLk{l:List dI}{i:Nat}:∀ {s:Nat},mP l s i≠0->∃x∈l,x.kind=2/\x.info=(i:Int):=by
 induction l with
 | nil=>intro s h;exact absurd rfl h
 | cons x l ih=>
  intro s h;unfold mP at h;by_cases e:x.kind=2/\x.info=(i:Int)
  ·exact⟨x,Bn ..,e⟩
  ·rw[if_neg e] at h;have⟨y,hy,hh⟩:=ih h;exact⟨y,Bf _ hy,hh⟩
theorem aMO{g:bD}(h:eO g=0){i:Nat}(hi:i<g.bz.length):∃x∈g.bw,x.kind=2/\x.info=(i:Int):=by
 unfold eO at h;split at h
 ·cases h
 split at h
 ·rename_i h1;exact absurd h h1
 split at h
 ·cases h
 split at h
 ·cases h
 split at h
 ·cases h
 unfold aBA at h;split at h
 ·cases h
 split at h
 ·cases h
 rename_i h0;refine aLk (s:=0) fun e=>h0 ?_;unfold lD;exact He.2 ⟨i,List.mem_range.2 hi,by rw[e];rfl⟩
theorem aPq{g:bD}(h:eO g=0)(hN:∀x∈g.bw,mS g.b9 g.bz x){i:Nat}(hi:i<g.bz.length):1<=(ck g (i:Int)).cd/\(ck g (i:Int)).cd<=3:=by
 have⟨x,hx,hk,he⟩:=aMO h hi;rcases hN x hx with h1 | h1 | h1
 ·have:=h1.kind;omega
 ·have:=h1.kind;omega
 ·have h2:=h1.at_;rw[he,Bd] at h2;have h3:ck g (i:Int)=⟨x.player,(x.next.length:Int)⟩:=by
   unfold ck;rw[Bd,Ae,h2];rfl
  rw[h3];have:=h1.n1;have:=h1.n2;exact⟨by show 1<=(x.next.length:Int);omega,by show(x.next.length:Int)<=3;omega⟩
theorem aIg{g:bD}(h:eO g=0):g.bz.length<=200:=by
 unfold eO at h;split at h
 ·cases h
 rename_i hb;unfold uI at hb;omega
section
variable {g:bD}{b:Int}{L:List (bm)}{pr W:Nat->Nat}{z:Nat}
end
theorem aLQ{j t:Nat}{p:bm}(h:t<p.length):lK j (p.take (t+1))=lK j (p.take t)+if p.getD t 0=(j:Int) then 1 else 0:=by
 have e:p.take (t+1)=p.take t++ [p.getD t 0]:=by
  rw[Dh,Ad h,Ae,Ad h];rfl
 rw[e,aEx];show _+((if _ then 1 else 0)+0)=_;rfl
theorem aS3{t:Nat}{F:Fr}{h:Ev.T AB}{lv:AV}(ht:aB t F=lv)(hc:lv.cells=some [lv]):iT (.build [.ce,.int .i64 0] [(0,1,.t t)]) F h=some (.agg [lv,.int .i64 0]):=by
 show(aU (eQ _ (fG F [(0,1,.t t)])) fun cs=>some (AV.agg cs))=_;simp only[fG,show(cP.t t).val F=lv from ht,eQ,hc,aH];rfl
theorem aB6{n j:Nat}(h:j<n):(List.replicate n (0:Int)).getD j 0=0:=by
 rw[Ae,Fz,if_pos h];rfl
theorem aMk{l m:bm}(h:l.length=m.length)(hg:∀j,j<l.length->l.getD j 0=m.getD j 0):l=m:=by
 refine List.ext_getElem h fun j h1 h2=>?_;have:=hg j h1;rw[Ae,Ae,Ad h1,Ad h2] at this;exact this
end Go.Ev.Gl
