import Derived.Test.YtbmodoaceepfoaaGl15
set_option linter.all false
open Nat renaming reduceEqDiff -> rE, reduceAdd -> rA
set_option maxHeartbeats 0
namespace Go.Ev.Gl
variable {fns:T fD}
variable {P:Nat->Prop}{S0 X X' S Y X1:St}{mb db n at_ b xb lev tb:Nat}{LV:List (Int×Int×Int)}{pl ps d sn i:Int}{l cs:bt}{C B:List cD}{x:cD}{I:List jL}{v xa xw xp:AV}{F:Fr}{Q:Out->bO->St->Prop}{m' m1:Mk}
noncomputable def aQ3:List AO:=[mt 64 0,
mt 65 0,
om 66 2 (.cw (.t 65)),
om 67 6 (.dd 2 (.t 66)),
om 68 14 (ld 67),
mt 69 0,
om 70 32 (.cw (.t 69)),
om 71 96 (.dd 2 (.t 70)),
om 72 224 (ld 71),
om 73 480 (.dc (.t 72)),
om 74 992 (bi .sub (.t 73) (ci 1)),
om 75 2046 (.slc (.slice 4) (.t 68) none (some (.t 74)) none),
om 76 4095 (.cw (.t 64)),
om 77 8191 (.dd 2 (.t 76))]
def aCb(m:Mk)(jj:Int):Prop:=∃x∈m.ce,x.jk=2/\x.jj=jj
def DpI(mb:Nat)(X:St)(m:Mk)(jj:Int)(k:Nat)(A:bO)(Y:St):Prop:=A.inr=false/\Y=X/\∃i:Nat,i+k=m.ce.length/\(∀j x,j<i->m.ce[j]? =some x->¬ (x.jk=2/\x.jj=jj))/\aA 0 A.F= .ptr mb 0/\aA 1 A.F=jr jj/\aA 6 A.F=jr (i:Int)
def aLY{m:Mk}{jj:Int}(H:Has fns)(u:nS P S0 X mb db m LV)(h0:0<=jj)(aZ:m.views.length=m.cg.length)(hi:m.cg.length<=100000)(a2:m.ce.length<=100000):
  iK fns (.fn 74 [] []) [.ptr mb 0,jr jj,jr pl] X fun _ Z=>((pl<0\/jj≠(m.cg.length:Int) - 1\/aCb m jj)/\Z=X)\/(0<=pl/\jj=(m.cg.length:Int) - 1/\¬aCb m jj/\∃q b,nS P S0 Z mb db {m with va:=q,ia:=b,views:=m.views.dropLast,cg:=m.cg.dropLast} LV/\gK mb db m X {m with va:=q,ia:=b,views:=m.views.dropLast,cg:=m.cg.dropLast} Z):=by
 have f9:=cM (p:=9) u.g rfl;have f8:=cM (p:=8) u.g rfl;have C:=u.p.inf.len;have wI:IntKind.i64.wrap ((m.cg.length:Int) - 1)=(m.cg.length:Int) - 1:=wrap_i64 au au;refine cJ H.f74 (by simp) ?_;refine ae ?_;apply fZ;by_cases N:pl<0
 .refine c8 (Ac N) ?_;refine aM (af) (aS ?_);refine ae ?_;exact .inl (.inl N)
 by_cases T:jj=(m.cg.length:Int) - 1;rotate_left
 .refine ec (Aa N) f9 C wI ?_;refine aM (ja (Ac (show jj≠(m.cg.length:Int) - 1 from T))) (aS ?_);refine ae ?_;exact .inl (.inr (.inl T))
 refine ec (Aa N) f9 C wI ?_;refine aK (ja (Aa (show ¬jj≠(m.cg.length:Int) - 1 from fun h=>h T))) (aG ?_);refine ae ?_
 obtain⟨n,rfl⟩:∃n:Nat,jj=(n:Int):=⟨jj.toNat,au⟩;have U:m.cg.length=n+1:=by omega
 have V:m.views.length=n+1:=by omega
 refine aB (aX (Q:=fun o W Z=>(o= .normal/\W.inr=false/\Z=X/\¬aCb m (n:Int)/\aA 0 W.F= .ptr mb 0/\aA 1 W.F=jr (n:Int))\/(o= .ret/\Z=X/\aCb m (n:Int))) (aB (aF ?_)) ?_)
 .refine ae ?_;refine aJ (bL (DpI mb X m (n:Int)) ?_ m.ce.length _ _ ⟨rfl,rfl,0,au,fun j x D=>absurd D (Bo j),af,af,ag⟩);rintro k ⟨F,inr⟩ Y ⟨rfl,E,i,a4,r,d,w,B⟩;simp only at d w B;rw[E];refine fZ (ec d B f8 u.p.nod.len ?_);by_cases G:i<m.ce.length;rotate_left
  .refine aK i7 (bH ?_);refine ae ?_;refine .inl ⟨?_,d,w⟩;rintro⟨x,I,hk⟩;have⟨j,D⟩:=List.mem_iff_getElem?.1 I;exact r j x (by have:=(Aj.1 D).1;omega) D hk
  refine aM i7 (aG ?_);refine ae ?_
  have J:m.ce[i]? =some m.ce[i]:=Ab G;have hN:aE 6 bT X m.na m.ce:=u.p.nod.is fun e a ⟨xa,xw,xp,h1,h2,h3,h4,_⟩=>⟨xa,xw,xp,h1,h2,h3,h4⟩;obtain⟨_,bx,qx,y,a5,_,⟨xa,xw,xp,rfl,ba,bb,bd⟩,aw,L⟩:=aE.at hN az J;have l0:=L 0 _ rfl;have l2:=L 2 _ rfl;have w1:=du i
  have f:¬ ((m.ce[i]).jk=2/\(m.ce[i]).jj=(n:Int))->∀ {F':Fr},aA 0 F'= .ptr mb 0->aA 1 F'=jr (n:Int)->aA 6 F'=jr (((i+1:Nat)):Int)->∃x<k,DpI mb X m (n:Int) x ⟨F',false⟩ X:=fun g {F'} a0 a1 a6=>⟨k - 1,au,rfl,rfl,i+1,au,fun j x D I=>by
   by_cases e:j=i
   .subst e;rw[J] at I;cases I;exact g
   .exact r j x au I,a0,a1,a6⟩
  refine aB (aJ (aB (aF ?_)));by_cases O:(m.ce[i]).jk=2;rotate_left
  .refine eu d B f8 y l0 (Aa O) ?_;refine aK (af) (aG ?_);refine ae ?_
   refine aF (dz B w1 ?_);exact f (fun h=>O h.1) (ah d) (ah w) (af)
  refine ez d w B f8 y l0 l2 (Ac O) ?_;by_cases R:(m.ce[i]).jj=(n:Int)
  .refine aM (ja (Ac R)) (aS ?_);refine ae ?_;exact .inr ⟨_,Bl G,O,R⟩
  .refine aK (ja (Aa R)) (aG ?_);refine ae ?_
   refine aF (dz B w1 ?_);exact f (fun h=>R h.2) (ah d) (ah w) (af)
 rintro o ⟨F,inr⟩ Z (⟨rfl,q0,s,r,d,w⟩|⟨rfl,s,hu⟩);rotate_left
 .refine ae ?_;exact .inl ⟨.inr (.inr hu),s⟩
 simp only at q0 d w;subst q0;rw[s];refine ae ?_
 have⟨b,e1,aI,bI⟩:=u.p.inf.shrink U;have⟨kP,kM⟩:=u.p.pushI (X':=X) (Af _) (fun _ _ _=>rfl) (fun c hc=>.inl (by rw[<-bI];exact hc)) aI;have aa:=fun(F:Fr) (h:aA 59 F=jr (n:Int))=>e1 F (.t 59) (by show gL (aA 59 F)=_;rw[h];exact aY _ _);refine bS (ec d w f9 aa ?_);refine eK (v:=.undef) (S1:=⟨X.h.set mb (js (fE db {m with ia:=b,cg:=m.cg.dropLast})),X.nx⟩) (fun call=>by refine dz @dE aI.cells ?_;exact xY (cs:=fE db m) (p:=9) (S:=X) u.g (au:9<10)) ?_;refine ae ?_;obtain⟨Z,M⟩:∃Z:St,Z=⟨X.h.set mb (js (fE db {m with ia:=b,cg:=m.cg.dropLast})),X.nx⟩:=⟨_,rfl⟩;have t:nS P S0 Z mb db {m with ia:=b,cg:=m.cg.dropLast} LV:=kP.put (by rw[M];simp only;rw[dx,if_pos rfl]) (by rw[M];exact Af _) fun c _ g=>by rw[M];simp only;rw[dx,if_neg g]
 have kZ:gK mb db m X {m with ia:=b,cg:=m.cg.dropLast} Z:=kM.trans (by rw[M];exact gK.put);rw[<-M];have f2:=cM (p:=2) t.g rfl;have z:(({m with ia:=b,cg:=m.cg.dropLast}:Mk).views).length=n+1:=V;have l:=t.p.vw.len;have ab:=t.p.vw.self;rw[z] at l;have wV:IntKind.i64.wrap (((n+1:Nat):Int) - 1)=(n:Int):=by rw[wrap_i64 au au];omega
 have A:nS P S0 ⟨Z.h,Z.nx+15⟩ mb db {m with ia:=b,cg:=m.cg.dropLast} LV:=t.jo (jq.nx Z 15);have⟨q,e2,aV,bV⟩:=A.p.vw.shrink z;have⟨ac,an⟩:=A.p.pushV (X':=⟨Z.h,Z.nx+15⟩) (Af _) (fun _ _ _=>rfl) (fun c hc=>.inl (by rw[<-bV];exact hc)) aV;have ao:=fun(F:Fr) (h:aA 74 F=jr (n:Int))=>e2 F (.t 74) (by show gL (aA 74 F)=_;rw[h];exact aY _ _);refine qL (pre:=aQ3) (K:=14) (m:=16383) (n:=1) (x:=.t 77) (v:=.t 75) rfl rfl rfl rfl ?_;unfold aQ3;refine eu d f2 ab l wV ao ?_;rw[aV.cells,aH];refine⟨_,xY (cs:=fE db {m with ia:=b,cg:=m.cg.dropLast}) (p:=2) (S:=⟨Z.h,Z.nx+15⟩) A.g (au:2<10),_,rfl,.inr ⟨au,au,r,q,b,ac.put (by simp only;rw[dx,if_pos rfl];rfl) (Af _) fun c _ g=>by simp only;rw[dx,if_neg g],?_⟩⟩;exact((kZ.trans (gK.jo (jq.nx Z 15))).trans an).trans gK.put
inductive fM:List (Option Nat)->Nat->Prop
 | nil:fM [] 0
 | none {l:List (Option Nat)} {n:Nat}:fM l n->fM (l++ [Option.none]) n
 | old {l:List (Option Nat)} {n i:Nat}:fM l n->i<n->fM (l++ [some i]) n
 | new {l:List (Option Nat)} {n:Nat}:fM l n->fM (l++ [some n]) (n+1)
def yI:List (Option Nat)->Nat->Nat->Nat
 | [],_,_=>0
 | b::l,s,i=>if b=some i then s+1 else yI l (s+1) i
def aKB:∀ {l:List (Option Nat)} {s i:Nat},yI l s i<=s+l.length
 | [],s,i=>Ct _
 | b::l,s,i=>by
  unfold yI;split
  .simp
  .have:=aKB (l:=l) (s:=s+1) (i:=i);rw[Aw];omega
def iB:∀ {l:List (Option Nat)} {s i:Nat} {b:Option Nat},yI (l++ [b]) s i=if yI l s i≠0 then yI l s i else if b=some i then s+l.length+1 else 0
 | [],s,i,b=>by simp [yI]
 | c::l,s,i,b=>by
  show yI (c::(l++ [b])) s i=_;unfold yI;by_cases h:c=some i
  .rw[if_pos h,if_pos h,if_pos au]
  .rw[if_neg h,if_neg h,iB (l:=l) (s:=s+1),Aw];split
   .rfl
   .split
    .omega
    .rfl
def aNY{l:List (Option Nat)}(h:fM l n):∀i,n<=i->yI l 0 i=0:=by
 induction h with
 | nil=>intro i _;rfl
 | none _ a=>intro i hi;rw[iB,a i hi];simp
 | old _ b a=>intro i hi;rw[iB,a i hi];simp;omega
 | new _ a=>intro i hi;rw[iB,a i au];simp;omega
def aLQ{l:List (Option Nat)}(h:fM l n):(∀i,i<n->yI l 0 i≠0)/\∀i,i+1<n->yI l 0 i<yI l 0 (i+1):=by
 induction h with
 | nil=>exact⟨fun i hi=>absurd hi (Bo i),fun i hi=>absurd hi au⟩
 | none _ a=>exact⟨fun i hi=>by rw[iB,if_pos (a.1 i hi)];exact a.1 i hi,fun i hi=>by rw[iB,iB,if_pos (a.1 i au),if_pos (a.1 (i+1) hi)];exact a.2 i hi⟩
 | old _ _ a=>exact⟨fun i hi=>by rw[iB,if_pos (a.1 i hi)];exact a.1 i hi,fun i hi=>by rw[iB,iB,if_pos (a.1 i au),if_pos (a.1 (i+1) hi)];exact a.2 i hi⟩
 | @new l n b a=>
  refine⟨fun i hi=>?_,fun i hi=>?_⟩
  .by_cases e:i<n
   .rw[iB,if_pos (a.1 i e)];exact a.1 i e
   .obtain rfl:i=n:=by omega
    rw[iB,aNY b i (Af _),if_neg (fun h=>h rfl),if_pos rfl];omega
  .by_cases e:i+1<n
   .rw[iB,iB,if_pos (a.1 i au),if_pos (a.1 (i+1) e)];exact a.2 i e
   .obtain rfl:n=i+1:=by omega
    rw[iB,iB,if_pos (a.1 i au),aNY b (i+1) (Af _),if_neg (fun h=>h rfl),if_pos rfl];have:=aKB (l:=l) (s:=0) (i:=i);omega
def xA(x:cD):Option Nat:=if x.jk=2 then some x.jj.toNat else Option.none
def aEi:∀ {l:List cD} {s i:Nat},(∀x∈l,x.jk=2->0<=x.jj)->yI (l.map xA) s i=kQ l s i
 | [],_,_,_=>rfl
 | x::l,s,i,h=>by
  have d:=aEi (l:=l) (s:=s+1) (i:=i) fun y f=>h y (Az _ f);show(if xA x=some i then s+1 else yI (l.map xA) (s+1) i)=if x.jk=2/\x.jj=(i:Int) then s+1 else kQ l (s+1) i;rw[d];have c:=h x (Be ..);by_cases b:x.jk=2
  .have c:=c b;have e:(xA x=some i)↔(x.jk=2/\x.jj=(i:Int)):=by
    unfold xA;rw[if_pos b,Ay];constructor
    .intro e;exact⟨b,au⟩
    .rintro⟨_,e⟩;omega
   by_cases a:xA x=some i
   .rw[if_pos a,if_pos (e.1 a)]
   .rw[if_neg a,if_neg (fun h=>a (e.2 h))]
  .have a:xA x≠some i:=by unfold xA;rw[if_neg b];intro h;cases h
   rw[if_neg a,if_neg (fun h=>b h.1)]
def qS(k at_:Nat)(B:List cD):Prop:=0<B.length/\∀ (N:Nat) (nx:Nat->bt),at_+B.length<=N->(∀i x,B[i]? =some x->nx (at_+i)=x.ji)->∀f p d,B.length<=f->∃L,eT N nx f at_ p d=some L/\L.length=B.length/\∀t∈L,t.2.1<=d+(k:Int)
def yW(k at_:Nat)(cs:bt)(C:List cD):Prop:=∀ (N:Nat) (nx:Nat->bt),at_+C.length<=N->(∀i x,C[i]? =some x->nx (at_+i)=x.ji)->∀f p d,C.length<=f->∃L,fU (fun r=>eT N nx f r p d) cs at_=some L/\L.length=C.length/\∀t∈L,t.2.1<=d+(k:Int)
def yW.nil{k:Nat}:yW k at_ [] []:=fun N nx _ _ f p d _=>⟨[],rfl,rfl,fun t a=>by cases a⟩
def aEV{rec:Nat->Option (List cL)}{c:Int}:∀ {cs:bt} {r:Nat} {L M:List cL},fU rec cs r=some L->c=((r+L.length:Nat):Int)->rec (r+L.length)=some M->fU rec (cs++ [c]) r=some (L++M)
 | [],r,L,M,h,d,e=>by
  cases h;have d:c=(r:Int):=d;have e:rec r=some M:=e;show(if c=(r:Int) then(rec r).bind fun a=>(fU rec [] (r+a.length)).map (a++ ·) else Option.none)=_;rw[if_pos d,e];show some (M++ [])=some ([]++M);rw[Bs,Bu]
 | b::cs,r,L,M,h,d,e=>by
  have h:(if b=(r:Int) then(rec r).bind fun a=>(fU rec cs (r+a.length)).map (a++ ·) else Option.none)=some L:=h;show(if b=(r:Int) then(rec r).bind fun a=>(fU rec (cs++ [c]) (r+a.length)).map (a++ ·) else Option.none)=_;by_cases g:b=(r:Int)
  .rw[if_pos g] at h ⊢;cases i:rec r with
   | none=>rw[i] at h;cases h
   | some a=>
    rw[i] at h;have h:(fU rec cs (r+a.length)).map (a++ ·)=some L:=h;cases f:fU rec cs (r+a.length) with
    | none=>rw[f] at h;cases h
    | some j=>
     rw[f] at h;have h:some (a++j)=some L:=h;cases h;rw[Ai] at d e;have:=aEV (rec:=rec) (c:=c) (M:=M) f (by rw[d];congr 1;omega) (by rw[<-e];congr 1;omega);show((fU rec (cs++ [c]) (r+a.length)).map (a++ ·))=_;rw[this];show some (a++(j++M))=_;rw[Bg]
  .rw[if_neg g] at h;cases h
def yW.snoc{k:Nat}(h:yW k at_ cs C)(c:qS k (at_+C.length) B):yW k at_ (cs++ [((at_+C.length:Nat):Int)]) (C++B):=by
 intro N nx e a f p d g;rw[Ai] at e g;have⟨L,j,b,l⟩:=h N nx au (fun i x hi=>a i x (by rw[Ak (Aj.1 hi).1];exact hi)) f p d au;have⟨M,m,n,o⟩:=c.2 N nx au (fun i x hi=>by
  have:=a (C.length+i) x (by rw[Ao au,Dw];exact hi);rw[<-this];congr 1;omega) f p d au
 refine⟨L++M,aEV j (by rw[b]) (by rw[b];exact m),by rw[Ai,Ai,b,n],fun t q=>?_⟩;rcases Bi.1 q with h|h
 .exact l t h
 .exact o t h
def qS.node{k:Nat}(h:yW k (at_+1) x.ji C):qS (k+1) at_ (x::C):=by
 refine⟨by simp,fun N nx b a f p d c=>?_⟩;rw[Aw] at b c;cases f with
 | zero=>omega
 | succ f=>
  have⟨L,e,g,j⟩:=h N nx au (fun i y hi=>by
   have:=a (i+1) y hi;rw[<-this];congr 1;omega) f (at_:Int) (d+1) au
  have l:nx at_=x.ji:=a 0 x rfl;refine⟨(p,d,((at_+L.length:Nat):Int))::L,?_,by rw[Aw,Aw,g],fun t m=>?_⟩
  .show(if at_<N then(fU (fun r=>eT N nx f r at_ (d+1)) (nx at_) (at_+1)).map fun L=>(p,d,((at_+L.length:Nat):Int))::L else Option.none)=_;rw[if_pos au,l,e];rfl
  .rcases Bm.1 m with rfl|h
   .show d<=_;omega
   .have:=j t h;omega
def qS.end_{k:Nat}(h:x.ji= []):qS k at_ [x]:=by
 refine⟨by simp,fun N nx b a f p d c=>?_⟩;cases f with
 | zero=>simp at c
 | succ f=>
  have e:nx at_=x.ji:=a 0 x rfl;refine⟨[(p,d,((at_+0:Nat):Int))],?_,rfl,fun t g=>?_⟩
  .show(if at_<N then(fU (fun r=>eT N nx f r at_ (d+1)) (nx at_) (at_+1)).map fun L=>(p,d,((at_+L.length:Nat):Int))::L else Option.none)=_;rw[if_pos (by simp at b;omega),e,h];rfl
  .rw[Bz.1 g];show d<=_;omega
structure aTa(x:cD):Prop where
 jk:x.jk=1
 jl:x.jl=0
 jj:x.jj=0
 jn:x.jn= []
 n1:1<=x.ji.length
 n2:x.ji.length<=3
 len:x.jm.length=x.ji.length
 wts:∀w∈x.jm,1<=w/\w<=3
structure aVQ(ps:Int)(I:List jL)(x:cD):Prop where
 jk:x.jk=2
 wts:x.jm= []
 jn:x.jn= []
 n1:1<=x.ji.length
 n2:x.ji.length<=3
 pl:0<=x.jl/\x.jl<ps
 inf:0<=x.jj
 at_:I[x.jj.toNat]? =some ⟨x.jl,(x.ji.length:Int)⟩
def gN(ps:Int)(I:List jL)(x:cD):Prop:=aP7 ps x\/aTa x\/aVQ ps I x
def gN.app{J:List jL}(h:gN ps I x):gN ps (I++J) x:=by
 rcases h with h|h|h
 .exact .inl h
 .exact .inr (.inl h)
 .exact .inr (.inr ⟨h.jk,h.wts,h.jn,h.n1,h.n2,h.pl,h.inf,by rw[Ak (Aj.1 h.at_).1];exact h.at_⟩)
def aNf(h:gN ps I x):gS ps I.length x=0:=by
 unfold gS;rcases h with h|h|h
 .rw[if_neg (by rw[h.jk];decide),if_neg (by rw[h.jk];decide),if_pos h.jk,if_neg (by unfold oT;rw[h.jl,h.jj,h.ji,h.wts,h.len];simp),if_neg];rintro⟨w,a,b⟩;have:=h.jn w a;omega
 .rw[if_pos h.jk,if_neg (by unfold oS;rw[h.jl,h.jj,h.jn,h.len];have:=h.n1;have:=h.n2;simp;omega),if_neg];rintro⟨w,a,b⟩;have:=h.wts w a;omega
 .have c:=(Aj.1 h.at_).1;have:=h.pl;have:=h.inf;rw[if_neg (by rw[h.jk];decide),if_pos h.jk,if_neg (by unfold uV;rw[h.wts,h.jn];have:=h.n1;have:=h.n2;simp;omega),if_neg au]
def aGj{ps:Int}{I:List jL}:∀ {l:List cD},(∀x∈l,gN ps I x)->kR ps I.length l=0
 | [],_=>rfl
 | x::l,h=>by
  have a:=aNf (h x (Be ..));show(if gS ps I.length x≠0 then gS ps I.length x else kR ps I.length l)=0;rw[if_neg (fun h=>h a)];exact aGj fun y b=>h y (Az _ b)
def aKA{b:Int}:∀ {L:List cL} {m:Int},m<=b->(∀t∈L,t.2.1<=b)->vT m L<=b
 | [],m,a,_=>a
 | t::L,m,a,h=>by
  rw[aGc];refine aKA ?_ fun y c=>h y (Az _ c);have:=h t (Be ..);unfold mx;split<;>omega
def aEt{g:aP}{k:Nat}(B:1<=g.ch/\g.ch<=4)(C:1<=g.ce.length/\g.ce.length<=2000)(hi:g.cg.length<=200)(l:∀x∈g.ce,gN g.ch g.cg x)(p:qS k 0 g.ce)(c:k<=40)(q:fM (g.ce.map xA) g.cg.length):cR g=0:=by
 have⟨L,r,s,u⟩:=p.2 g.ce.length (dP g) au (fun i x hi=>by rw[An];exact vX hi) (g.ce.length+1) (-1) 0 au;have v:fY g=some L:=r;unfold cR;rw[if_neg (by unfold nO;omega),if_neg (by rw[aGj l];exact fun h=>h rfl),v];show(if L.length≠g.ce.length then 9 else if 40<vT 0 L then 5 else wU g)=0;have D:vT 0 L<=40:=aKA az fun t w=>by have:=u t w;omega
 rw[if_neg (fun h=>h s),if_neg au];have a:(gH g).length=g.cg.length:=by unfold gH;simp
 have f:∀x∈g.ce,x.jk=2->0<=x.jj:=fun x m c=>by
  rcases l x m with h|h|h
  .rw[h.jk] at c;cases c
  .rw[h.jk] at c;cases c
  .exact h.inf
 have b:∀j,j<g.cg.length->(gH g).getD j 0=((yI (g.ce.map xA) 0 j:Nat):Int):=fun j d=>by rw[yS d,aEi f]
 have⟨y,z⟩:=aLQ q;unfold wU;rw[if_neg,if_neg,if_pos]
 .intro i o hi;rw[a] at hi;rw[b i hi,b (i - 1) au];have:=z (i - 1) au;rw[show i - 1+1=i by omega] at this;omega
 .intro o;have⟨j,d,A⟩:=Dj.1 o;rw[a] at d;have:=b j d;rw[Ad,Ab (by rw[a];exact d)] at this;have e:(gH g)[j]=((yI (g.ce.map xA) 0 j:Nat):Int):=this;rw[A] at e;have:=y j d;omega
 .rintro⟨x,m,c,n⟩;rcases l x m with h|h|h
  .rw[h.jk] at c;cases c
  .rw[h.jk] at c;cases c
  .apply n;have e:cu g x.jj=⟨x.jl,(x.ji.length:Int)⟩:=by
    unfold cu;rw[Ad,h.at_];rfl
   rw[e];exact⟨rfl,rfl⟩
def aPT(b:Nat->Prop)(X:St)(cs:bu)(l:bt):Prop:=∃a,cs= [a]/\bN .i64 X a l/\∀c,aN a=some c->b c
structure wO(Pp:Nat->Prop)(X:St)(v:AV)(rows:bo):Prop where
 rows:aE 1 (aPT Pp) X v rows
 out:∀c,aN v=some c->Pp c
def aPT.move{f b:Nat->Prop}{cs:bu}(h:aPT f X cs l)(j:X.nx<=X'.nx)(g:∀c,c<X.nx->f c->X'.h.get c=X.h.get c/\b c):aPT b X' cs l:=by
 obtain⟨a,rfl,e,i⟩:=h;exact⟨a,rfl,eH e j fun c d=>(g c (dK e d) (i c d)).1,fun c d=>(g c (dK e d) (i c d)).2⟩
def wO.move{g d:Nat->Prop}{rows:bo}(h:wO g X v rows)(j:X.nx<=X'.nx)(f:∀c,c<X.nx->g c->X'.h.get c=X.h.get c/\d c):wO d X' v rows:=by
 refine⟨?_,fun c k=>(f c (aDr h.rows k) (h.out c k)).2⟩;rcases h.rows with h'|⟨b,off,cap,o,cs,rfl,n,l,m,p⟩
 .exact .inl h'
 .refine .inr ⟨b,off,cap,o,cs,rfl,n,Ae l j,?_,fun i a hi=>?_⟩
  .unfold cG at m ⊢;rw[(f b l (h.out b rfl)).1];exact m
  .have⟨e,q,r,s⟩:=p i a hi;exact⟨e,q,r,s.move j f⟩
def aTI(h:bN .i64 S v l):mY v=some l.length/\eS v S.h 1 l.length=some (aQ l):=by
 rcases h with⟨rfl,rfl|rfl⟩|⟨b,off,cap,o,cs,rfl,f,g,e,d⟩
 .exact⟨rfl,rfl⟩
 .exact⟨rfl,rfl⟩
 .refine⟨rfl,?_⟩;show bD (cG S.h b) (fun c=>cut c off (l.length * 1))=_;rw[e];show cut cs off (l.length * 1)=_;have a:l.length<=(cs.drop off).length:=by
   rw[Cz];rcases Cb l.length with j|k
   .omega
   .have:=d (l.length - 1) l[l.length - 1] (Ab au);have:=(Aj.1 this).1;omega
  unfold cut;rw[iA,iG,Ec,if_pos a];congr 1;refine List.ext_getElem? fun i=>?_;by_cases hi:i<l.length
  .rw[Eq hi,Fp,d i l[i] (Ab hi)];unfold aQ;rw[Ba,Ab hi];rfl
  .rw[Bv (by rw[Bx];omega),Bv (by unfold aQ;rw[Av];omega)]
def aBj(f:S.h.get b=js [])(h:bN .i64 S v l)(o:l.length<=100000):
  ∃r S',gQ 8 1 (.sl b 0 0 0 false) v S=some (r,S')/\jq S S'/\((l= []/\r= .sl b 0 0 0 false/\S'=S)\/(fC 1 S S' r l.length (aQ l)/\l≠ [])):=by
 have⟨g,i⟩:=aTI h;have p:l.length<=room:=by unfold room;omega
 have a:l.length * 8<=room:=by unfold room;omega
 unfold gQ;rw[g,aH,i,aH];show ∃r S',lP 8 1 b 0 0 0 false l.length (aQ l) S=some (r,S')/\_;unfold lP;rcases Cb l.length with j|d
 .have k:l= []:=Bj.1 j;subst k;exact⟨.sl b 0 0 0 false,S,rfl,dy S,.inl ⟨rfl,rfl,rfl⟩⟩
 .have m:Nat.ble (0+l.length) 0=false:=by
   rw[Ck];intro e;have:=Bd e;omega
  rw[m,aR,Al au,aL,Al (by rw[An];exact a),aL,f,aH];have n:cut ([]:bu) 0 (0 * 1)=some []:=by
   unfold cut;rw[iA,iG,Dz,if_pos (Ct _)];rfl
  have c:xJ (.cells [] false 0) 1 b 0 0 0 false l.length (aQ l) S=some (.sl S.nx 0 (0+l.length) (0+l.length) true,⟨S.h.set S.nx (some (.cells (aQ l) true 1)),Nat.succ S.nx⟩):=by
   simp only[xJ,n,aH,aR,grown,fT,Bu]
  rw[c,An];exact⟨.sl S.nx 0 l.length l.length true,⟨S.h.set S.nx (some (.cells (aQ l) true 1)),S.nx+1⟩,rfl,jq.alloc S _,.inr ⟨.inr ⟨S.nx,rfl,Af _,by simp,jh,by simp [aQ]⟩,fun e=>by rw[e] at d;exact absurd d (Nat.lt_irrefl 0)⟩⟩
def aKN{t:Nat}{r:AV}{w:Int}(h:(l= []/\r= .sl b 0 0 0 false/\X.h.get b=js [])\/(fC 1 Y X r l.length (aQ l)/\l≠ []))(q:Y.nx<=X.nx)(o:X.h.get t=js [jr w])(j:t<X.nx)(y:l.length<=100000):
  ∃a X',gQ 8 1 r (.sl t 0 1 1 false) X=some (a,X')/\bN .i64 X' a (l++ [w])/\X.nx<=X'.nx/\(∀c,c<X.nx->aN r≠some c->X'.h.get c=X.h.get c)/\∀c,aN a=some c->X.nx<=c:=by
 rcases h with⟨rfl,rfl,s⟩|⟨u,_⟩
 .have v:bN .i64 X (.sl t 0 1 1 false) [w]:=.inr ⟨t,0,1,false,[jr w],rfl,Af _,j,by unfold cG;rw[o];rfl,fun i x hi=>by
   cases i with
   | zero=>cases hi;rfl
   | succ i=>simp at hi⟩
  obtain⟨a,X',f,d,g|⟨g,_⟩⟩:=aBj s v (by simp)
  .exact absurd g.1 (by simp)
  .exact⟨a,X',f,g.is,d.1,fun c e _=>d.2 c e,fun c e=>(g.blk e).1⟩
 .have k:fC 1 ⟨X.h,Y.nx⟩ X r l.length (aQ l):=by
   rcases u with h|⟨c,f,d,m,p,n⟩
   .exact .inl h
   .exact .inr ⟨c,f,d,m,p,n⟩
  have⟨a,X',f,d,m,p,n⟩:=fC.push (bytes:=8) (t:=t) (w:=w) k ⟨q,fun _ _=>rfl⟩ o ay ay;exact⟨a,X',f,d.is,au,n,fun c e=>by rw[m] at e;cases e;exact Af _⟩
noncomputable def aNb:List AO:=[oq 185 (.dd 3 (.t 11)),
om 186 1 (ld 185),
mt 187 0,
mt 188 1,
om 189 8 (bi .add (.t 188) (ci 1)),
mt 190 13,
oc 191 63 [(.t 187),(.t 189),(.t 190)] 60,
⟨(some 192),(.a (.c7 3 1 1 [(.int .i64 (.ofNat 0))] [(0,(.t 191))])),none,124⟩]
noncomputable def aM7:List AO:=[⟨(some 193),(.x (.app 3 1 8 (.t 186) (.t 192))),none,255⟩,
om 194 511 (.dd 3 (.t 11)),
⟨none,(.x (.st 1 (.t 194) (.t 193))),none,1023⟩]
def aSf(P:Nat->Prop)(S0 X:St)(F:Fr)(mb db:Nat)(m:Mk)(LV:List (Int×Int×Int))(xa:AV)(G:Int->Mk->Prop)(F':Fr)(Z:St)(ps:List jD):Prop:=∃ (c:Int) (m':Mk),G c m'/\ps= [⟨7,X.nx+7,.cells [jr c] false 0⟩]/\X.nx+11<=Z.nx/\nS (fun k=>P k\/X.nx+11<=k) S0 Z mb db m' LV/\(∀k,k<X.nx+11->PB mb db m k->PB mb db m' k)/\(∀k,k<X.nx->PB mb db m k->Z.h.get k=X.h.get k)/\(∀j,j<16->aA j F'=aA j F)/\aA 186 F'=xa/\aA 192 F'= .sl (X.nx+7) 0 1 1 false
def aQg{q:List AO}{Y0:St}{inr:Bool}{m:Mk}{k p f nv:AV}{lev:Int}{G:Int->Mk->Prop}(he:q=aNb++aM7)(hM:nS P S0 X mb db m LV)(E:∀c,P c->c<X.nx)(p0:aA 0 F= .ptr mb 0)(p1:aA 1 F=jr lev)(bb:0<=lev/\lev<=1000)(H:aA 11 F= .ptr xb 0)(ab:aA 13 F=nv)(gx:X.h.get xb=js [k,p,f,xa,xw,xp])(I:PB mb db m xb/\¬P xb)(lx:xb<Y0.nx)(hY:Y0.nx<=X.nx)(hg:fC 1 Y0 X xa l.length (aQ l))(J:∀c,aN xa=some c->PB mb db m c/\¬P c)(hl:l.length<=1000)
  (s:∀X1,jq X X1->iK fns (.fn 63 [] []) [.ptr mb 0,jr (lev+1),nv] X1 fun r Z=>∃ (c:Int) (m':Mk),r=jr c/\G c m'/\nS (fun k=>P k\/X1.nx<=k) S0 Z mb db m' LV/\gK mb db m X1 m' Z)
  (hQ:∀F' Z a c m',(∀j,j<16->aA j F'=aA j F)->G c m'->nS (fun k=>(P k\/X.nx<=k)/\aN a≠some k) S0 Z mb db m' LV->X.nx<=Z.nx->(∀k,k<X.nx->PB mb db m k->PB mb db m' k)->(∀k,k<X.nx->PB mb db m k->k≠xb->aN xa≠some k->Z.h.get k=X.h.get k)->Z.h.get xb=js [k,p,f,a,xw,xp]->fC 1 Y0 Z a (l++ [c]).length (aQ (l++ [c]))->(∀k,aN a=some k->X.nx<=k/\PB mb db m' k)->Q .normal ⟨F',inr⟩ Z):jN fns (.drw q) ⟨F,inr⟩ X Q:=by
 have L:q.length=11:=by rw[he];rfl
 have M:xb<X.nx:=Ae lx hY;have sp:=hg.self;have wl:IntKind.i64.wrap (lev+1)=lev+1:=wrap_i64 au au;refine qA (W:=fun c=>c≠xb) (K:=8) (R:=aSf P S0 X F mb db m LV xa G) he rfl rfl (fun X1 x1 bd ac=>?_) ?_
 .have an:=cM (p:=3) gx rfl;have ao:¬ (xb≠xb):=fun h=>h rfl;unfold aNb;refine ff p0 p1 H ab an sp M ao @Ap wl ?_;refine jH rfl ?_;refine ae ?_;refine aW (s X1 x1) ?_;rintro _ X2 ⟨c,m',rfl,hG,aw,N⟩;have n1:X1.nx=X.nx+11:=by rw[ac,L]
  have aI:∀k,k<X.nx->PB mb db m k->X2.h.get k=X.h.get k:=fun k O u=>((N.2 k au u).1).trans (x1.2 k O);refine⟨⟨N.1,fun c D aV=>?_⟩,?_⟩
  .have e:c=xb:=Decidable.byContradiction aV;rw[e];exact(N.2 xb au I.1).1
  have aZ:=fun(F:Fr) (id:Nat) (h:aA 191 F=jr c)=>lD (t:=3) (z:=jr 0) (x:=.t 191) (F:=F) (id:=id) (k:=.i64) (n:=c) h;refine c8 aZ ?_;refine⟨c,m',hG,af,by rw[<-n1];exact N.1,by rw[<-n1];exact aw,fun k O u=>(N.2 k au u).2,aI,fun j b=>?_,af,af⟩;have:j=0\/j=1\/j=2\/j=3\/j=4\/j=5\/j=6\/j=7\/j=8\/j=9\/j=10\/j=11\/j=12\/j=13\/j=14\/j=15:=by omega
  rcases this with rfl|rfl|rfl|rfl|rfl|rfl|rfl|rfl|rfl|rfl|rfl|rfl|rfl|rfl|rfl|rfl<;>simp only[↓sU,sD,rE,↓reduceIte,rA]
 rintro F' S' ps hs ls ⟨c,m',hG,rfl,nZ,y,o,A,O,pA,pB⟩ B a0;have T:aA 11 F'= .ptr xb 0:=(O 11 au).trans H;have m1:∀i,i<8->Nat.testBit 255 i=true:=by decide
 obtain⟨U,hU⟩:∃U:St,U=⟨S'.h.set (X.nx+7) (js [jr c]),S'.nx⟩:=⟨_,rfl⟩;have nU:U.nx=S'.nx:=by rw[hU]
 have kU:∀j,j≠X.nx+7->U.h.get j=S'.h.get j:=fun j b=>by rw[hU];simp only;rw[dx,if_neg b]
 have gU:U.h.get (X.nx+7)=js [jr c]:=by rw[hU];simp only;rw[dx,if_pos rfl]
 have d:∀ {j},aN xa=some j->Y0.nx<=j/\j<X.nx:=fun D=>⟨(hg.blk D).1,(hg.blk D).2.1⟩;have a1:fC 1 ⟨U.h,Y0.nx⟩ U xa l.length (aQ l):=hg.move au fun j b=>by
  rw[kU j (by have:=(d b).2;omega)];exact A j (d b).2 (J j b).1
 have⟨a,V,eA,gA,bA,nA,rA⟩:=fC.push (bytes:=8) (t:=X.nx+7) (w:=c) a1 ⟨by show Y0.nx<=U.nx;omega,fun _ _=>rfl⟩ gU ay ay;have a2:V.h.get xb=js [k,p,f,xa,xw,xp]:=by
  rw[rA xb au (fun e=>by have:=(d e).1;omega),kU xb au];exact(A xb M I.1).trans gx
 have C:∀ {j},aN a=some j->j=U.nx:=fun D=>by rw[bA] at D;exact(Bk D).symm
 unfold aM7;refine iS (v:=a) (S1:=V) (B _ m1) (fun call=>?_) ?_
 .rw[cK (az:Nat.testBit 255 7=true),fB];simp only[fO,pA,pB];rw[<-hU];exact eA
 rw[cK (az:Nat.testBit 255 7=true)];simp only[iT,dJ,aU,aT,cP,aR,fO,bK,bE,T,rE,↓reduceIte,rA];have a4:a.cells=some [a]:=fC.cells gA;refine iS (v:=.undef) (S1:=⟨V.h.set xb (js [k,p,f,a,xw,xp]),V.nx⟩) (az:Nat.testBit 1023 8=true) (fun call=>?_) ?_
 .rw[dE];simp only[fO,bE,rE,↓reduceIte,bK,a4,aH];exact xY (cs:=[k,p,f,xa,xw,xp]) (p:=3) (S:=V) a2 (by simp)
 rw[iL];refine⟨?_,?_⟩
 .simp only[Cg,Bg,Cr,Ci,Bu];exact a0 _ _ _ m1
 .simp only[bK,fK];have kV:∀j,j<S'.nx->j≠X.nx+7->j≠xb->aN xa≠some j->(V.h.set xb (js [k,p,f,a,xw,xp])).get j=S'.h.get j:=fun j b Y h2 h3=>by
   rw[dx,if_neg h2,rA j au h3,kU j Y]
  have aa:PB mb db m' xb:=o xb au I.1;have be:nS (fun k=>P k\/X.nx+11<=k) S0 ⟨V.h.set xb (js [k,p,f,a,xw,xp]),V.nx⟩ mb db m' LV:=y.local (by show S'.nx<=V.nx;omega) fun j b g=>by
   refine kV j b (fun e=>?_) (fun e=>?_) (fun e=>?_)
   .rcases g with h|h|h
    .exact h (o j au (by rw[e];exact hM.p.fresh au))
    .have:=E j h;omega
    .omega
   .rcases g with h|h|h
    .exact h (by rw[e];exact aa)
    .exact I.2 (by rw[<-e];exact h)
    .omega
   .have a5:=(d e).2;rcases g with h|h|h
    .exact h (o j au (J j e).1)
    .exact(J j e).2 h
    .omega
  have ba:nS (fun k=>(P k\/X.nx<=k)/\aN a≠some k) S0 ⟨V.h.set xb (js [k,p,f,a,xw,xp]),V.nx⟩ mb db m' LV:=by
   have Y:nS (fun k=>(P k\/X.nx+11<=k)/\k<S'.nx) S0 ⟨V.h.set xb (js [k,p,f,a,xw,xp]),V.nx⟩ mb db m' LV:=(y.mono fun j b h=>⟨h,b⟩).local (by show S'.nx<=V.nx;omega) fun j b g=>by
    refine kV j b (fun e=>?_) (fun e=>?_) (fun e=>?_)
    .rcases g with h|⟨h|h,_⟩
     .exact h (o j au (by rw[e];exact hM.p.fresh au))
     .have:=E j h;omega
     .omega
    .rcases g with h|⟨h|h,_⟩
     .exact h (by rw[e];exact aa)
     .exact I.2 (by rw[<-e];exact h)
     .omega
    .have a5:=(d e).2;rcases g with h|⟨h|h,_⟩
     .exact h (o j au (J j e).1)
     .exact(J j e).2 h
     .omega
   refine Y.mono fun j _ h=>⟨h.1.elim .inl fun h=>.inr au,fun e=>?_⟩;have:=C e;have:=h.2;omega
  refine hQ _ _ a c m' (fun j b=>?_) hG ba (by show X.nx<=V.nx;omega) (fun j b u=>o j au u) (fun j b u Y h2=>?_) jh ?_ (fun j b=>?_)
  .rw[bE,if_neg au,bE,if_neg au];exact O j b
  .simp only;rw[kV j au au  Y h2];exact A j b u
  .refine fC.move (S:=V) (by exact gA) (Af _) fun j b=>?_;have:=C b;simp only;rw[dx,if_neg au]
  .have:=C b;exact⟨au,y.p.fresh au⟩
def aNN{a q:Nat}(b:a<=1000)(c:q<=64):∃z y:Nat,mL .shr (.p .int) (jr (a:Int)) (jr (q:Int))=some (jr (z:Int))/\mL .and (.p .int) (jr (z:Int)) (jr 1)=some (jr (y:Int)):=by
 refine⟨a / 2 ^ q,Nat.land (a / 2 ^ q) 1,?_,?_⟩
 .show fL .shr .i64 (Int.ofNat a) .i64 (Int.ofNat q)=_;unfold fL;rw[show iE .shr=true from rfl,aL];show aGz .shr .i64 (Int.ofNat a) q=_;unfold aGz;rw[show Nat.ble q IntKind.i64.bits=true from Al c,aL];show some (AV.int .i64 (Int.fdiv (a:Int) ((2 ^ q:Nat):Int)))=_;rw[Int.fdiv_eq_ediv_of_nonneg _ (Int.natCast_nonneg _)];rfl
 .have d:a / 2 ^ q<=1000:=Aq (Nat.div_le_self _ _) b;generalize a / 2 ^ q=z at *;show fL .and .i64 (Int.ofNat z) .i64 (Int.ofNat 1)=_;unfold fL;rw[show iE .and=false from rfl,aR,fH,aL];show bX (zO .i64 z) (bX (zO .i64 1) (some (AV.int .i64 (.ofNat (Nat.land z 1)))) none) none=_;rw[show zO .i64 z=true from Al (by show z<=9223372036854775807;omega),aL,show zO .i64 1=true from rfl,aL];rfl
noncomputable def aQW:AC:=aTi
def RoI(Y:St)(b:Fr)(n lev:Nat)(k:Nat)(A:bO)(X:St):Prop:=A.inr=false/\jq Y X/\(∀j,j<13->aA j A.F=aA j b)/\∃ (q:Nat) (nv:AV) (cs:bu) (a:bo),q+k=n/\a.length=q/\(∀l∈a,l.length<=lev+1)/\fC 1 Y X nv q cs/\qJ Y X nv cs a/\aA 13 A.F=nv/\aA 14 A.F=jr (q:Int)
def aJq{Pp:Nat->Prop}{rows:bo}{many:Int}(hv:wO Pp Y v rows)(a1:∀l∈rows,l.length<=lev)(bA:lev<=900)(hn:rows.length<=64)(p2:aA 2 F=v)(p8:aA 8 F= .ptr tb 0)(gt:Y.h.get tb=js [jr pl,jr many,jr sn])(W:tb<Y.nx)(bM:0<=sn/\sn<=1000)(a2:aA 12 F=jr i)(a4:aA 13 F= .cr)(a5:aA 14 F=jr 0)
  (hQ:∀F' Z nv E,(∀j,j<13->aA j F'=aA j F)->aA 13 F'=nv->jq Y Z->E.length=rows.length->(∀l∈E,l.length<=lev+1)->wO (fun c=>Y.nx<=c/\c<Z.nx) Z nv E->Q .normal ⟨F',false⟩ Z):jN fns aQW ⟨F,false⟩ Y Q:=by
 unfold aQW;refine aX (Q:=fun o E Z=>o= .normal/\RoI Y F rows.length lev 0 E Z) (aJ (bL (RoI Y F rows.length lev) ?_ rows.length _ _ ⟨rfl,dy _,fun _ _=>rfl,0,.cr,[],[],au,rfl,fun l hl=>(by cases hl),.inl ⟨rfl,rfl,rfl⟩,⟨rfl,fun j s=>absurd s (Bo j)⟩,a4,a5⟩)) ?_;rotate_left
 .rintro o ⟨F',inr⟩ Z ⟨rfl,rfl,hZ,L,q,nv,cs,E,hq,hl,M,O,hR,f,_⟩;simp only at L f;obtain rfl:q=rows.length:=by omega
  refine hQ F' Z nv E L f hZ hl M ⟨?_,fun c d=>⟨(O.blk d).1,(O.blk d).2.1⟩⟩;rcases O with⟨rfl,h0,_⟩|⟨b,rfl,_,h2,h3,_⟩
  .exact .inl ⟨Bj.1 au,.inl rfl⟩
  .refine .inr ⟨b,0,rows.length,true,cs,by rw[hl],au,h2,by unfold cG;rw[h3];rfl,fun j l s=>?_⟩;have H:=(Aj.1 s).1;have e:E.getD j []=l:=by rw[Ad,s];rfl
   have⟨r,h4,h5,h6⟩:=hR.2 j H;rw[e] at h5;refine⟨[r],rfl,fun x y hx=>?_,r,rfl,h5,fun c d=>⟨(h6 c d).1,dK h5 d⟩⟩;cases x with
   | zero=>
    cases hx;rw[An,Ec];exact h4
   | succ x=>simp at hx
 rintro k ⟨G,inr⟩ X ⟨rfl,C,L,q,nv,cs,E,ba,aa,M,O,hR,f,g⟩;simp only at L f g;have g2:aA 2 G=v:=(L 2 au).trans p2;have g8:aA 8 G= .ptr tb 0:=(L 8 au).trans p8;have bb:aA 12 G=jr i:=(L 12 au).trans a2;have ab:wO Pp X v rows:=hv.move C.1 fun c d hp=>⟨C.2 c d,hp⟩;have bP:=(C.2 _ W).trans gt;refine fZ (ec g2 g ab.rows.len @Ag ?_);by_cases H:q<rows.length;rotate_left
 .refine aK i7 (bH ?_);refine ae ?_;have bd:k=0:=by omega
  subst bd;refine⟨rfl,C,fun j s=>?_,q,nv,cs,E,ba,aa,M,O,hR,ah f,ah g⟩;rw[<-L j s];have:j=0\/j=1\/j=2\/j=3\/j=4\/j=5\/j=6\/j=7\/j=8\/j=9\/j=10\/j=11\/j=12:=by omega
  rcases this with rfl|rfl|rfl|rfl|rfl|rfl|rfl|rfl|rfl|rfl|rfl|rfl|rfl<;>simp only[↓sU,sD,rE,↓reduceIte,rA]
 refine aM i7 (aG ?_);refine ae ?_
 have w1:=du q
 obtain⟨_,br,qr,be,bj,_,⟨a,rfl,ac,_⟩,_,bk⟩:=aE.at ab.rows az (uZ H);have an:=bk 0 a rfl;rw[Bw] at an;have bI:(rows.getD q []).length<=lev:=a1 _ (by rw[Ad,Ab H];exact Bl H);generalize rows.getD q []=l at *;refine aB (aJ (aB (aF ?_)));refine am ?_;refine fQ sO ?_;intro X1 x1 n1 b1;have P:=an;rw[<-eM x1 bj] at P;refine gy g2 g @aY be P ?_;have⟨r,K,eA,x2,hr⟩:=aBj b1 (ac.jo x1) au;refine eK (fun call=>by refine fx @fB ?_;exact eA) ?_;refine am ?_;have ao:=x1.trans x2;have bm:=C.trans ao;have aw:=(bm.2 _ W).trans gt;have t0:=cM (p:=0) aw rfl;have t2:=cM (p:=2) aw rfl;have bp:X.nx<K.nx:=by have:=x2.1;omega
 have aI:(l= []/\r= .sl X.nx 0 0 0 false/\K.h.get X.nx=js [])\/(fC 1 X1 K r l.length (aQ l)/\l≠ []):=by
  rcases hr with⟨e1,e2,e3⟩|h
  .exact .inl ⟨e1,e2,by rw[e3];exact b1⟩
  .exact .inr h
 have bq:∀c,aN r=some c->X.nx<=c:=fun c d=>by
  rcases aI with⟨_,rfl,_⟩|⟨h,_⟩
  .cases d;exact Af _
  .have:=(h.blk d).1;omega
 obtain⟨s0,rfl⟩:∃s0:Nat,sn=(s0:Int):=⟨sn.toNat,au⟩;have⟨z,y,hz,hy⟩:=aNN (a:=s0) (q:=q) au au;refine aB (aX (Q:=fun o U Z=>o= .normal/\U.inr=false/\(∀j,j<13->aA j U.F=aA j G)/\aA 13 U.F=nv/\aA 14 U.F=jr (q:Int)/\K.nx<=Z.nx/\(∀c,c<X.nx->Z.h.get c=X.h.get c)/\∃w,bN .i64 Z (aA 15 U.F) (l++ [w])/\∀c,aN (aA 15 U.F)=some c->X.nx<=c) (aB (aX (Q:=fun o V Z=>o= .normal/\V.inr=false/\Z=K/\(∀j,j<13->aA j V.F=aA j G)/\aA 13 V.F=nv/\aA 14 V.F=jr (q:Int)/\aA 15 V.F=r/\∃t,aA 173 V.F= .bool t) (aF ?_) ?_)) ?_)
 .by_cases aV:(q:Int)=pl
  .refine ef f g g8 t0 (Ac aV) ?_;exact⟨fun j s=>by
    have:j=0\/j=1\/j=2\/j=3\/j=4\/j=5\/j=6\/j=7\/j=8\/j=9\/j=10\/j=11\/j=12:=by omega
    rcases this with rfl|rfl|rfl|rfl|rfl|rfl|rfl|rfl|rfl|rfl|rfl|rfl|rfl<;>simp only[↓sU,sD,rE,↓reduceIte,rA],true,rfl⟩
  .refine ez f g g8 t0 t2 (Aa aV) hz hy ?_;exact⟨fun j s=>by
    have:j=0\/j=1\/j=2\/j=3\/j=4\/j=5\/j=6\/j=7\/j=8\/j=9\/j=10\/j=11\/j=12:=by omega
    rcases this with rfl|rfl|rfl|rfl|rfl|rfl|rfl|rfl|rfl|rfl|rfl|rfl|rfl<;>simp only[↓sU,sD,rE,↓reduceIte,rA],_,rfl⟩
 .rintro o ⟨F1,inr⟩ Z ⟨rfl,rfl,hZ,k1,u,A,T,t,ht⟩;simp only at k1 u A T ht;rw[hZ];refine ae ?_
  have f12:aA 12 F1=jr i:=(k1 12 au).trans bb;have I:∀ {F':Fr} {D N:St} {B:AV} {w:Int},jq K D->D.nx<=N.nx->(∀c,c<D.nx->aN r≠some c->N.h.get c=D.h.get c)->bN .i64 N B (l++ [w])->(∀c,aN B=some c->D.nx<=c)->K.nx<=N.nx/\(∀c,c<X.nx->N.h.get c=X.h.get c)/\∃w,bN .i64 N B (l++ [w])/\∀c,aN B=some c->X.nx<=c:=fun {F' D N B w} s3 n4 k4 i4 b4=>
   ⟨Aq s3.1 n4,fun c d=>by
    rw[k4 c (ax s3.1) (fun e=>by have:=bq c e;omega),s3.2 c au];exact ao.2 c d,w,i4,fun c d=>by have:=b4 c d;have:=s3.1;omega⟩
  have R:∀ {D:St},jq K D->((l= []/\r= .sl X.nx 0 0 0 false/\D.h.get X.nx=js [])\/(fC 1 X1 D r l.length (aQ l)/\l≠ [])):=fun s3=>aI.elim (fun h=>.inl ⟨h.1,h.2.1,(s3.2 _ bp).trans h.2.2⟩) fun h=>.inr ⟨h.1.step s3,h.2⟩;have bR:=x2.1;cases t with
  | true=>
   refine aM (ah ht) (aF ?_);refine gh T f12 ?_;refine fQ (lD (n:=i) (k:=.i64) (aq)) ?_;intro D x3 n3 b3;have⟨B,N,eB,i4,n4,k4,b4⟩:=aKN (t:=K.nx) (w:=i) (R x3) au b3 au au;refine eK (fun call=>by refine fx @fB ?_;exact eB) ?_;refine gh u A ?_;exact⟨fun j s=>by rw[<-k1 j s];exact(by
    have:j=0\/j=1\/j=2\/j=3\/j=4\/j=5\/j=6\/j=7\/j=8\/j=9\/j=10\/j=11\/j=12:=by omega
    rcases this with rfl|rfl|rfl|rfl|rfl|rfl|rfl|rfl|rfl|rfl|rfl|rfl|rfl<;>simp only[↓sU,sD,rE,↓reduceIte,rA]),I (F':=F1) x3 n4 k4 i4 b4⟩
  | false=>
   have aZ:∀ (F:Fr) (id:Nat),uI (.c7 3 1 1 [jr 0] [(0,.c (jr (.negSucc 0)))]) F id=some (.sl id 0 1 1 false,.cells [jr (-1)] false 0):=fun F id=>lD rfl;refine aK (ah ht) (aF ?_);refine fx T ?_;refine fQ (aZ _ _) ?_;intro D x3 n3 b3;have⟨B,N,eB,i4,n4,k4,b4⟩:=aKN (t:=K.nx) (w:= -1) (R x3) au b3 au au;refine eK (fun call=>by refine fx @fB ?_;exact eB) ?_;refine gh u A ?_;exact⟨fun j s=>by rw[<-k1 j s];exact(by
    have:j=0\/j=1\/j=2\/j=3\/j=4\/j=5\/j=6\/j=7\/j=8\/j=9\/j=10\/j=11\/j=12:=by omega
    rcases this with rfl|rfl|rfl|rfl|rfl|rfl|rfl|rfl|rfl|rfl|rfl|rfl|rfl<;>simp only[↓sU,sD,rE,↓reduceIte,rA]),I (F':=F1) x3 n4 k4 i4 b4⟩
 rintro o ⟨F2,inr⟩ Z ⟨rfl,rfl,k2,u,A,nZ,kZ,w,iZ,bZ⟩;simp only at k2 u A iZ bZ;generalize bs:aA 15 F2=B at iZ bZ;refine ae ?_
 have bv:X.nx<=Z.nx:=by omega
 have bw:jq X Z:=⟨bv,kZ⟩;refine aF (gh u bs ?_);refine fQ (aBD (S:=Z) iZ (aq)) ?_;intro X5 x5 n5 b5;have bx:fC 1 ⟨X5.h,Y.nx⟩ X5 nv q cs:=O.step (bw.trans x5);have⟨a0,X6,eC,gC,bC,n6,k6⟩:=fC.push1 (bytes:=24) (x:=B) bx ⟨by have:=C.1;show Y.nx<=X5.nx;omega,fun _ _=>rfl⟩ b5 ay ay;refine eK (fun call=>by refine fx @fB ?_;exact eC) ?_;refine am ?_;have J:∀ {c},aN nv=some c->Y.nx<=c/\c<X.nx:=fun d=>⟨(O.blk d).1,(O.blk d).2.1⟩;have i5:bN .i64 X5 B (l++ [w]):=iZ.jo x5;have i6:bN .i64 X6 B (l++ [w]):=eH i5 au fun c d=>k6 c (dK i5 d) fun e=>by have:=bZ c d;have:=(J e).2;omega
 have bz:=hR.push (Z:=X6) (pv':=a0) (r:=B) (l:=l++ [w]) (ax C.1) au (fun c h1 h2 h3=>by rw[k6 c au h3,x5.2 c au];exact kZ c h1) i6 (fun c d=>⟨bZ c d,fun e=>by rw[bC] at e;cases e;have:=dK i5 d;omega⟩) (fun c d=>by rw[bC] at d;cases d;omega);refine aF (dz A w1 ?_);refine⟨k - 1,au,rfl,⟨ax C.1,fun c d=>?_⟩,fun j s=>?_,q+1,a0,cs++ [B],E++ [l++ [w]],au,by rw[Ai,Ax,aa],fun m hm=>?_,?_,bz,af,af⟩
 .rw[k6 c (ax C.1) (fun e=>by have:=(J e).1;omega),x5.2 c (ax C.1),kZ c (ax C.1)];exact C.2 c d
 .rw[<-L j s,<-k2 j s];have:j=0\/j=1\/j=2\/j=3\/j=4\/j=5\/j=6\/j=7\/j=8\/j=9\/j=10\/j=11\/j=12:=by omega
  rcases this with rfl|rfl|rfl|rfl|rfl|rfl|rfl|rfl|rfl|rfl|rfl|rfl|rfl<;>simp only[↓sU,sD,rE,↓reduceIte,rA]
 .rcases Bi.1 hm with h|h
  .exact M m h
  .rw[Bz.1 h,Ai,Ax];omega
 .rcases gC with h|⟨b,e1,e2,e3,e4,e5⟩
  .exact .inl h
  .exact .inr ⟨b,e1,e2,e3,e4,e5⟩
structure aDz(m:Mk):Prop where
 len:m.views.length=m.cg.length
 at_:∀ (j:Nat) (v:Int×Int×Int),m.views[j]? =some v->v.2.2=(j:Int)/\0<=v.1/\v.1<m.ps/\∃a,m.cg[j]? =some ⟨v.1,a⟩/\1<=a/\a<=3
structure aFy(lev:Nat)(m:Mk):Prop where
 vok:aDz m
 lv:∀ (j:Nat) (v:Int×Int×Int),m.views[j]? =some v->v.2.1<(lev:Int)\/aCb m v.2.2
 nd:∀x∈m.ce,x.jk=2->x.jj<(m.cg.length:Int)
 fit:(m.ce.length:Int)+m.pend<=m.most
 pnd:0<=m.pend
 most:m.most<=1000
 il:m.cg.length<=m.ce.length
 ps:1<=m.ps/\m.ps<=4
structure aAa(m m':Mk)(B:List cD)(d:Int):Prop where
 ce:m'.ce=m.ce++B
 ok:∀x∈B,gN m.ps m'.cg x
 ord:∀lab,fM lab m.cg.length->fM (lab++B.map xA) m'.cg.length
 inf:∃I,m'.cg=m.cg++I
 vws:∃V,m'.views=m.views++V
 vok:aDz m'
 used:∀j,m.cg.length<=j->j<m'.cg.length->∃x∈B,x.jk=2/\x.jj=(j:Int)
 most:m'.most=m.most
 ps:m'.ps=m.ps
 pend:m'.pend=m.pend - d
 fit:(m'.ce.length:Int)+m'.pend<=m'.most
 il:m'.cg.length<=m'.ce.length
def aAa.refl{m:Mk}(h:aFy lev m):aAa m m [] 0 where
 ce:=(Bs _).symm
 ok:=fun x a=>by cases a
 ord:=fun b h=>by simpa using h
 inf:=⟨[],(Bs _).symm⟩
 vws:=⟨[],(Bs _).symm⟩
 vok:=h.vok
 used:=fun j c d=>by omega
 most:=rfl
 ps:=rfl
 pend:=(Int.sub_zero _).symm
 fit:=h.fit
 il:=h.il
def aAa.trans{m a:Mk}{l:List cD}{n:Int}(h:aAa m m' B d)(h':aAa m' a l n):aAa m a (B++l) (d+n) where
 ce:=by rw[h'.ce,h.ce,Bg]
 ok:=fun x b=>by
  rcases Bi.1 b with c|c
  .have⟨I,e⟩:=h'.inf;rw[e];exact(h.ok x c).app
  .rw[<-h.ps];exact h'.ok x c
 ord:=fun f o=>by
  rw[Cf,<-Bg];exact h'.ord _ (h.ord f o)
 inf:=by
  have⟨I,e⟩:=h.inf;have⟨g,i⟩:=h'.inf;exact⟨I++g,by rw[i,e,Bg]⟩
 vws:=by
  have⟨I,e⟩:=h.vws;have⟨g,i⟩:=h'.vws;exact⟨I++g,by rw[i,e,Bg]⟩
 vok:=h'.vok
 used:=fun j c p=>by
  by_cases q:j<m'.cg.length
  .have⟨x,b,k⟩:=h.used j c q;exact⟨x,Dc _ b,k⟩
  .have⟨x,b,k⟩:=h'.used j au p;exact⟨x,Cq _ b,k⟩
 most:=h'.most.trans h.most
 ps:=h'.ps.trans h.ps
 pend:=by rw[h'.pend,h.pend];omega
 fit:=h'.fit
 il:=h'.il
def aCb.mono{m:Mk}(h:aCb m i)(a:m'.ce=m.ce++B):aCb m' i:=by
 have⟨x,b,c⟩:=h;exact⟨x,by rw[a];exact Dc _ b,c⟩
def aAa.pre{m:Mk}(h:aAa m m' B d)(f:aFy lev m)(k:0<=m'.pend):aFy lev m' where
 vok:=h.vok
 lv:=fun j v g=>by
  have⟨V,e⟩:=h.vws;by_cases l:j<m.views.length
  .rw[e,Ak l] at g;rcases f.lv j v g with b|b
   .exact .inl b
   .exact .inr (b.mono h.ce)
  .have n:=(Aj.1 g).1;have o:=(h.vok.at_ j v g).1;have⟨x,i,a⟩:=h.used j (ax f.vok.len) (ax h.vok.len);exact .inr ⟨x,by rw[h.ce];exact Cq _ i,a.1,by rw[a.2,o]⟩
 nd:=fun x i a=>by
  have⟨I,e⟩:=h.inf;have p:m.cg.length<=m'.cg.length:=by rw[e,Ai];omega
  rw[h.ce] at i;rcases Bi.1 i with b|b
  .have:=f.nd x b a;omega
  .rcases h.ok x b with c|c|c
   .rw[c.jk] at a;cases a
   .rw[c.jk] at a;cases a
   .have:=(Aj.1 c.at_).1;have:=c.inf;omega
 fit:=h.fit
 pnd:=k
 most:=by rw[h.most];exact f.most
 il:=h.il
 ps:=by rw[h.ps];exact f.ps
def aDC(fns:T fD)(S0:St)(mb db:Nat)(LV:List (Int×Int×Int))(lev:Nat):Prop:=∀ (X:St) (P:Nat->Prop) (m:Mk) (v:AV) (rows:bo),nS P S0 X mb db m LV->S0.nx<=X.nx->aFy lev m->1<=m.pend->wO (fun c=>PB mb db m c/\P c) X v rows->rows.length=m.ps.toNat->(∀l∈rows,l.length<=lev)->(∀p∈LV,p.1<m.ps)->
 iK fns (.fn 63 [] []) [.ptr mb 0,jr (lev:Int),v] X fun r Z=>r=jr (m.ce.length:Int)/\∃m' B,aAa m m' B 1/\qS (LV.length - lev) m.ce.length B/\nS (fun c=>P c\/X.nx<=c) S0 Z mb db m' LV/\gK mb db m X m' Z
noncomputable def aQP:AC:=aTE
def Pin(P:Nat->Prop)(X:St)(xb:Nat)(xa xw:AV)(c:Nat):Prop:=(P c\/X.nx<=c)/\c≠xb/\aN xa≠some c/\aN xw≠some c
structure KdR(P:Nat->Prop)(S0 X X1:St)(mb db xb:Nat)(LV:List (Int×Int×Int))(K:Nat)(m1:Mk)(xk xp xf:AV)(pl:Int)(Y:St)(i iw:Nat)(mi:Mk)(cs:bt)(C:List cD)(ws:bt)(xa xw:AV):Prop where
 mkb:nS (Pin P X xb xa xw) S0 Y mb db mi LV
 bld:aAa m1 mi C (i:Int)
 forT:yW K m1.ce.length cs C
 len:cs.length=i
 wts:(pl<0->ws.length=iw/\∀w∈ws,1<=w/\w<=3)/\(¬pl<0->ws= [])
 nx:X1.nx<=Y.nx
 frm:∀c,c<X1.nx->PB mb db m1 c->PB mb db mi c/\(c≠xb->Y.h.get c=X1.h.get c)
 gx:Y.h.get xb=some (.cells [xk,xp,xf,xa,xw,.cr] false 0)
 ga:fC 1 X1 Y xa cs.length (aQ cs)
 gw:fC 1 X1 Y xw ws.length (aQ ws)
 pa:∀c,aN xa=some c->PB mb db mi c
 pw:∀c,aN xw=some c->PB mb db mi c
 ne:∀c,aN xa=some c->aN xw≠some c
def KdR.jo{K:Nat}{e f:AV}{Z:St}{i g:Nat}{j:Mk}{k:bt}(h:KdR P S0 X X1 mb db xb LV K m1 e xp f pl Y i g j cs C k xa xw)(m:xb<X1.nx)(a:jq Y Z):KdR P S0 X X1 mb db xb LV K m1 e xp f pl Z i g j cs C k xa xw where
 mkb:=h.mkb.jo a
 bld:=h.bld
 forT:=h.forT
 len:=h.len
 wts:=h.wts
 nx:=Aq h.nx a.1
 frm:=fun c b l=>⟨(h.frm c b l).1,fun d=>(a.2 c (Ae b h.nx)).trans ((h.frm c b l).2 d)⟩
 gx:=(a.2 xb (Ae m h.nx)).trans h.gx
 ga:=h.ga.step a
 gw:=h.gw.step a
 pa:=h.pa
 pw:=h.pw
 ne:=h.ne
def KdI(P:Nat->Prop)(S0 X X1:St)(mb db xb:Nat)(LV:List (Int×Int×Int))(K:Nat)(m1:Mk)(a xp b:AV)(pl:Int)(many:Nat)(c:Fr)(k:Nat)(A:bO)(Y:St):Prop:=A.inr=false/\(∀j,j<12->aA j A.F=aA j c)/\∃i d cs C e xa xw,i+k=many/\KdR P S0 X X1 mb db xb LV K m1 a xp b pl Y i i d cs C e xa xw/\aA 12 A.F=jr (i:Int)
def aJy{U V:AV}{mn:Int}{many:Nat}{rows:bo}(H:Has fns)(bj:aDC fns S0 mb db LV (lev+1))(hP:∀c,P c->c<X.nx)(hX:X.nx<=X1.nx)(hM:nS (fun c=>(P c\/X.nx<=c)/\c≠xb) S0 X1 mb db m1 LV)(hS:S0.nx<=X.nx)(z:aFy (lev+1) m1)(bk:(many:Int)<=m1.pend)(bm:many<=3)(ca:lev<=800)
  (bp:∀p∈LV,p.1<m1.ps) (L:wO (fun c=>PB mb db m1 c/\P c) X1 v rows) (bq:rows.length=m1.ps.toNat) (bs:∀l∈rows,l.length<=lev) (aa:tb<X1.nx) (A:xb<X1.nx) (cc:X.nx<=xb) (ab:tb≠xb) (ac:PB mb db m1 tb) (an:PB mb db m1 xb) (ao:X1.h.get tb=js [jr pl,jr mn,jr sn]) (bv:X1.h.get xb=js [U,xp,V,.cr,.cr,.cr]) (bw:0<=sn/\sn<=1000)
  (p0:aA 0 F= .ptr mb 0) (p1:aA 1 F=jr (lev:Int)) (p2:aA 2 F=v) (p8:aA 8 F= .ptr tb 0) (p9:aA 9 F=jr (many:Int)) (bx:aA 11 F= .ptr xb 0) (bz:aA 12 F=jr 0)
  (hQ:∀F' Y q cs C J xa xw,(∀j,j<12->aA j F'=aA j F)->KdR P S0 X X1 mb db xb LV (LV.length - (lev+1)) m1 U xp V pl Y many many q cs C J xa xw->Q .normal ⟨F',false⟩ Y):jN fns aQP ⟨F,false⟩ X1 Q:=by
 unfold aQP;refine aX (Q:=fun o S Z=>o= .normal/\KdI P S0 X X1 mb db xb LV (LV.length - (lev+1)) m1 U xp V pl many F 0 S Z) (aJ (bL (KdI P S0 X X1 mb db xb LV (LV.length - (lev+1)) m1 U xp V pl many F) ?_ many _ _ ⟨rfl,fun _ _=>rfl,0,m1,[],[],[],.cr,.cr,au,⟨hM.mono fun c _ h=>⟨h.1,h.2,(by intro e;cases e),(by intro e;cases e)⟩,aAa.refl z,yW.nil,rfl,⟨fun _=>⟨rfl,fun w hw=>by cases hw⟩,fun _=>rfl⟩,Af _,fun c _ n=>⟨n,fun _=>rfl⟩,bv,.inl ⟨rfl,rfl,rfl⟩,.inl ⟨rfl,rfl,rfl⟩,fun c a=>(by cases a),fun c a=>(by cases a),fun c a=>(by cases a)⟩,bz⟩)) ?_;rotate_left
 .rintro o ⟨F',inr⟩ Z ⟨rfl,rfl,y,i,q,cs,C,J,xa,xw,aw,d,_⟩;simp only at y;obtain rfl:i=many:=by omega
  exact hQ F' Z q cs C J xa xw y d
 rintro k ⟨G,inr⟩ Y ⟨rfl,y,i,q,cs,C,J,xa,xw,aw,d,E⟩;simp only at y E;have g0:aA 0 G= .ptr mb 0:=(y 0 au).trans p0;have g1:aA 1 G=jr (lev:Int):=(y 1 au).trans p1;have g2:aA 2 G=v:=(y 2 au).trans p2;have g8:aA 8 G= .ptr tb 0:=(y 8 au).trans p8;have g9:aA 9 G=jr (many:Int):=(y 9 au).trans p9;have aI:aA 11 G= .ptr xb 0:=(y 11 au).trans bx;refine fZ (dz g9 E ?_);by_cases cf:i<many;rotate_left
 .refine aK i7 (bH ?_);refine ae ?_;have bA:k=0:=by omega
  subst bA;refine⟨rfl,fun j hj=>?_,i,q,cs,C,J,xa,xw,aw,d,ah E⟩;rw[<-y j hj];have:j=0\/j=1\/j=2\/j=3\/j=4\/j=5\/j=6\/j=7\/j=8\/j=9\/j=10\/j=11:=by omega
  rcases this with rfl|rfl|rfl|rfl|rfl|rfl|rfl|rfl|rfl|rfl|rfl|rfl<;>simp only[↓sU,sD,rE,↓reduceIte,rA]
 refine aM i7 (aG ?_);refine ae ?_
 have w1:=du i
 have aV:=((d.frm tb aa ac).2 ab).trans ao;have t0:=cM (p:=0) aV rfl;refine aB (aJ (aB (aX (Q:=fun o S Z=>o= .normal/\S.inr=false/\(∀j,j<13->aA j S.F=aA j G)/\∃M s,KdR P S0 X X1 mb db xb LV (LV.length - (lev+1)) m1 U xp V pl Z i (i+1) q cs C M xa s) (aB (aF ?_)) ?_)))
 .refine dz g8 t0 ?_;by_cases x:pl<0
  .refine aM (ja (Ac x)) ?_;have bC:nS (fun c=>Pin P X xb xa xw c/\c<Y.nx) S0 Y mb db q LV:=d.mkb.mono fun c a h=>⟨h,a⟩;have bI:=(d.wts.1 x).1;refine aOd (Y0:=X1) (mb:=mb) (db:=db) (xb:=xb) (m:=q) (LV:=LV) (pv:=xw) (l:=J) H rfl bC (ah g0) (ah aI) d.gx ⟨(d.frm xb A an).1,fun h=>h.1.2.1 rfl⟩ A d.nx d.gw (fun c a=>⟨d.pw c a,fun h=>h.1.2.2.2 a⟩) (fun c a h=>ax h.2) au ?_;intro F' Z s w bM t nZ kZ gZ bP N w2 w3;have f:∀ {c},aN xa=some c->X1.nx<=c/\c<Y.nx:=fun a=>⟨(d.ga.blk a).1,(d.ga.blk a).2.1⟩;refine⟨rfl,rfl,fun j hj=>?_,J++ [w],s,t.mono fun c a h=>⟨h.1.1,h.1.2.1,h.1.2.2.1,fun e=>by have:=N c e;have:=h.2;omega⟩,d.bld,d.forT,d.len,⟨fun _=>⟨by rw[Ai,Ax,bI],fun u hu=>?_⟩,fun h=>absurd x h⟩,Aq d.nx nZ,fun c a n=>⟨(d.frm c a n).1,fun D=>(kZ c (Ae a d.nx) (d.frm c a n).1 D (fun e=>by have:=(d.gw.blk e).1;omega)).trans ((d.frm c a n).2 D)⟩,gZ,d.ga.move nZ fun c a=>kZ c (f a).2 (d.pa c a) (by have:=(f a).1;omega) (d.ne c a),bP,d.pa,fun c a=>d.mkb.p.fresh (N c a),fun c a e=>by have:=N c e;have:=(f a).2;omega⟩
   .have aZ:=bM j au;rw[aZ];have:j=0\/j=1\/j=2\/j=3\/j=4\/j=5\/j=6\/j=7\/j=8\/j=9\/j=10\/j=11\/j=12:=by omega
    rcases this with rfl|rfl|rfl|rfl|rfl|rfl|rfl|rfl|rfl|rfl|rfl|rfl|rfl<;>simp only[↓sU,sD,rE,↓reduceIte,rA]
   .rcases Bi.1 hu with h|h
    .exact(d.wts.1 x).2 u h
    .rw[Bz.1 h];exact⟨w2,w3⟩
  .refine aK (ja (Aa x)) (aG ?_);refine ae ?_;refine⟨fun j hj=>?_,J,xw,⟨d.mkb,d.bld,d.forT,d.len,⟨fun h=>absurd h x,d.wts.2⟩,d.nx,d.frm,d.gx,d.ga,d.gw,d.pa,d.pw,d.ne⟩⟩;have:j=0\/j=1\/j=2\/j=3\/j=4\/j=5\/j=6\/j=7\/j=8\/j=9\/j=10\/j=11\/j=12:=by omega
   rcases this with rfl|rfl|rfl|rfl|rfl|rfl|rfl|rfl|rfl|rfl|rfl|rfl|rfl<;>simp only[↓sU,sD,rE,↓reduceIte,rA]
 rintro o ⟨T,inr⟩ Z ⟨rfl,rfl,K,M,s,t⟩;simp only at K;have b0:aA 0 T= .ptr mb 0:=(K 0 au).trans g0;have b1:aA 1 T=jr (lev:Int):=(K 1 au).trans g1;have b2:aA 2 T=v:=(K 2 au).trans g2;have b8:aA 8 T= .ptr tb 0:=(K 8 au).trans g8;have bR:aA 11 T= .ptr xb 0:=(K 11 au).trans aI;have b12:aA 12 T=jr (i:Int):=(K 12 au).trans E;have bU:=((t.frm tb aa ac).2 ab).trans ao;have ch:=z.ps;have I:wO (fun c=>PB mb db q c/\P c) Z v rows:=L.move t.nx fun c a n=>⟨(t.frm c a n.1).2 (by have:=hP c n.2;omega),(t.frm c a n.1).1,n.2⟩;refine ae ?_
 refine bS (ae ?_);refine fZ (ae ?_);refine aJq (tb:=tb) (lev:=lev) (pl:=pl) (many:=mn) (sn:=sn) (i:=(i:Int)) I bs au au  (ah b2) (ah b8) bU (ax t.nx) bw (ah b12) (af) (ag) ?_;intro F3 Z3 nv S k3 bV s3 bY O bZ;have c0:=k3 0 au;have c1:=k3 1 au;have a0:=k3 11 au;have a1:=k3 12 au;simp only[↓sU,sD,rE,↓reduceIte,rA,b0,b1,bR,b12] at c0 c1 a0 a1;refine ae ?_
 have b:=t.jo A s3;have a2:nS (fun c=>Pin P X xb xa s c/\c<Z3.nx) S0 Z3 mb db q LV:=b.mkb.mono fun c a h=>⟨h,a⟩;have a4:q.ce.length=m1.ce.length+C.length:=by rw[b.bld.ce,Ai]
 have cj:=b.bld.pend;have f:∀ {c},aN xa=some c->X1.nx<=c/\c<Z.nx:=fun a=>⟨(t.ga.blk a).1,(t.ga.blk a).2.1⟩;have g:∀ {c},aN s=some c->X1.nx<=c/\c<Z.nx:=fun a=>⟨(t.gw.blk a).1,(t.gw.blk a).2.1⟩;have ck:=b.nx;have b3:=b.len;refine aQg (Y0:=X1) (mb:=mb) (db:=db) (xb:=xb) (m:=q) (LV:=LV) (xa:=xa) (l:=cs) (nv:=nv) (lev:=(lev:Int)) (G:=fun c m'=>c=(q.ce.length:Int)/\∃B,aAa q m' B 1/\qS (LV.length - (lev+1)) q.ce.length B) rfl a2 (fun c h=>h.2) c0 c1 au a0 bV b.gx ⟨(b.frm xb A an).1,fun h=>h.1.2.1 rfl⟩ A b.nx b.ga (fun c a=>⟨b.pa c a,fun h=>h.1.2.2.1 a⟩) au ?_ ?_
 .intro X4 x4;have R:=bj X4 (fun c=>Pin P X xb xa s c/\c<Z3.nx) q nv S (a2.jo x4) (ax x4.1) (b.bld.pre z au) au (bZ.move x4.1 fun c a n=>⟨x4.2 c a,t.mkb.p.fresh n.1,⟨.inr (ax t.nx),ax t.nx,fun e=>by have:=(f e).2;omega,fun e=>by have:=(g e).2;omega⟩,n.2⟩) (by rw[bY,bq,b.bld.ps]) O (fun p n=>by rw[b.bld.ps];exact bp p n);rw[show((lev:Int)+1)=((lev+1:Nat):Int) by omega];refine aW R ?_;rintro r W ⟨rfl,m',B,hB,hT,hW,bW⟩;exact⟨_,m',rfl,⟨rfl,B,hB,hT⟩,hW,bW⟩
 .rintro F5 W a5 c m' k5 ⟨rfl,B,hB,hT⟩ hW nW pW kW b6 b' ba;have d12:=k5 12 au;rw[a1] at d12;refine ae ?_
  refine aF (dz d12 w1 ?_);have bb:=b.bld.trans hB;rw[show((i:Int)+1)=((i+1:Nat):Int) by omega] at bb;have bd:=b.forT.snoc (B:=B) (by rw[<-a4];exact hT);rw[<-a4] at bd;have be:∀ {c},aN a5=some c->Z3.nx<=c:=fun a=>(ba _ a).1;refine⟨k - 1,au,rfl,fun j hj=>?_,i+1,m',cs++ [(q.ce.length:Int)],C++B,M,a5,s,au,⟨hW.mono fun c a h=>?_,bb,bd,by rw[Ai,Ax,b3],b.wts,au,fun c a n=>⟨pW c au (b.frm c a n).1,fun D=>(kW c au (b.frm c a n).1 D (fun e=>by have:=(f e).1;omega)).trans ((b.frm c a n).2 D)⟩,b6,b',b.gw.move nW fun c a=>kW c (by have:=(g a).2;have:=s3.1;omega) (b.pw c a) (by have:=(g a).1;omega) (fun e=>b.ne c e a),fun c a=>(ba c a).2,fun c a=>pW c (by have:=(g a).2;have:=s3.1;omega) (b.pw c a),fun c a e=>by have:=be a;have:=(g e).2;have:=s3.1;omega⟩,af⟩
  .have e5:=k5 j au;have e3:=k3 j au;rw[<-y j hj,<-K j au];have:j=0\/j=1\/j=2\/j=3\/j=4\/j=5\/j=6\/j=7\/j=8\/j=9\/j=10\/j=11:=by omega
   rcases this with rfl|rfl|rfl|rfl|rfl|rfl|rfl|rfl|rfl|rfl|rfl|rfl<;>(simp only[↓sU,sD,rE,↓reduceIte,rA] at e3;simp only[↓sU,sD,rE,↓reduceIte,rA,e5,e3])
  .rcases h.1 with h1|h1
   .exact⟨h1.1.1,h1.1.2.1,h.2,h1.1.2.2.2⟩
   .exact⟨.inr au,au,h.2,fun e=>by have:=(g e).2;have:=s3.1;omega⟩
end Go.Ev.Gl
