import Derived.Test.YtbmodoaceepfoaaGl15
set_option linter.all false
open Nat renaming reduceEqDiff -> rE, reduceAdd -> rA
set_option maxHeartbeats 0
namespace Go.Ev.Gl
variable {fns:T eY}
variable {P:Nat->Prop}{S0 X X' S Y X1:St}{mb db n at_ b xb lev tb:Nat}{LV:List (Int×Int×Int)}{pl ps d sn i:Int}{l cs:bu}{C B:List cJ}{x:cJ}{I:List fU}{v xa xw xp:AV}{F:Fr}{Q:Out->bO->St->Prop}{m' m1:Mk}
noncomputable def aQK:List AO:=[mt 64 0,
mt 65 0,
om 66 2 (.cw (.t 65)),
om 67 6 (.dk 2 (.t 66)),
om 68 14 (ld 67),
mt 69 0,
om 70 32 (.cw (.t 69)),
om 71 96 (.dk 2 (.t 70)),
om 72 224 (ld 71),
om 73 480 (.dh (.t 72)),
om 74 992 (bi .sub (.t 73) (ci 1)),
om 75 2046 (.slc (.slice 4) (.t 68) none (some (.t 74)) none),
om 76 4095 (.cw (.t 64)),
om 77 8191 (.dk 2 (.t 76))]
def aCc(m:Mk)(info:Int):Prop:=∃x∈m.cg,x.kind=2/\x.info=info
def DpI(mb:Nat)(X:St)(m:Mk)(info:Int)(k:Nat)(A:bO)(Y:St):Prop:=A.inr=false/\Y=X/\∃i:Nat,i+k=m.cg.length/\(∀j x,j<i->m.cg[j]? =some x->¬ (x.kind=2/\x.info=info))/\aC 0 A.F= .ptr mb 0/\aC 1 A.F=je info/\aC 6 A.F=je (i:Int)
def aLG{m:Mk}{info:Int}(H:Has fns)(u:nO P S0 X mb db m LV)(h0:0<=info)(aZ:m.views.length=m.ch.length)(hi:m.ch.length<=100000)(a2:m.cg.length<=100000):
  iI fns (.fn 74 [] []) [.ptr mb 0,je info,je pl] X fun _ Z=>((pl<0\/info≠(m.ch.length:Int) - 1\/aCc m info)/\Z=X)\/(0<=pl/\info=(m.ch.length:Int) - 1/\¬aCc m info/\∃q b,nO P S0 Z mb db {m with va:=q,ia:=b,views:=m.views.dropLast,ch:=m.ch.dropLast} LV/\gI mb db m X {m with va:=q,ia:=b,views:=m.views.dropLast,ch:=m.ch.dropLast} Z):=by
 have f9:=cH (p:=9) u.g rfl;have f8:=cH (p:=8) u.g rfl;have C:=u.p.inf.len;have wI:IntKind.i64.wrap ((m.ch.length:Int) - 1)=(m.ch.length:Int) - 1:=wrap_i64 au au;refine cK H.f74 (by simp) ?_;refine ae ?_;refine gH ?_;by_cases O:pl<0
 .refine de (Ac O) ?_;refine aS (af) (aT ?_);refine ae ?_;exact .inl (.inl O)
 by_cases U:info=(m.ch.length:Int) - 1;rotate_left
 .refine fj (Aa O) @bE @bF @aB @aA f9 C wI ?_;refine aS (iu (Ac (show info≠(m.ch.length:Int) - 1 from U))) (aT ?_);refine ae ?_;exact .inl (.inr (.inl U))
 refine fj (Aa O) @bE @bF @aB @aA f9 C wI ?_;refine aQ (iu (Aa (show ¬info≠(m.ch.length:Int) - 1 from fun h=>h U))) (aK ?_);refine ae ?_
 obtain⟨n,rfl⟩:∃n:Nat,info=(n:Int):=⟨info.toNat,au⟩;have V:m.ch.length=n+1:=by omega
 have W:m.views.length=n+1:=by omega
 refine aD (bB (Q:=fun o A' Z=>(o= .normal/\A'.inr=false/\Z=X/\¬aCc m (n:Int)/\aC 0 A'.F= .ptr mb 0/\aC 1 A'.F=je (n:Int))\/(o= .ret/\Z=X/\aCc m (n:Int))) (aD (aL ?_)) ?_)
 .refine ae ?_;refine aO (bX (DpI mb X m (n:Int)) ?_ m.cg.length _ _ ⟨rfl,rfl,0,au,fun j x D=>absurd D (Ca j),af,af,ag⟩);rintro k ⟨F,inr⟩ Y ⟨E,G,i,a3,r,d,w,B⟩;simp only at E d w B;subst E;rw[G];clear G Y;refine gH (fj d B @bE @bF @aB @aA f8 u.p.nod.len ?_);by_cases I:i<m.cg.length;rotate_left
  .refine aQ im (bT ?_);refine ae ?_;refine .inl ⟨?_,d,w⟩;rintro⟨x,J,hk⟩;have⟨j,D⟩:=Ez.1 J;exact r j x (by have:=(Ai.1 D).1;omega) D hk
  refine aS im (aK ?_);refine ae ?_
  have L:m.cg[i]? =some m.cg[i]:=Ab I;have hN:aG 6 cF X m.na m.cg:=u.p.nod.is fun e a ⟨xa,xw,xp,h1,h2,h3,h4,_⟩=>⟨xa,xw,xp,h1,h2,h3,h4⟩;obtain⟨_,bx,qx,y,a5,_,⟨xa,xw,xp,rfl,a8,ba,bb⟩,aw,M⟩:=aG.at hN az L;have l0:=M 0 _ rfl;have l2:=M 2 _ rfl;have w1:=ed i
  have f:¬ ((m.cg[i]).kind=2/\(m.cg[i]).info=(n:Int))->∀ {F':Fr},aC 0 F'= .ptr mb 0->aC 1 F'=je (n:Int)->aC 6 F'=je (((i+1:Nat)):Int)->∃x<k,DpI mb X m (n:Int) x ⟨F',false⟩ X:=fun g {F'} a0 a1 a6=>⟨k - 1,au,rfl,rfl,i+1,au,fun j x D J=>by
   by_cases e:j=i
   .subst e;rw[L] at J;cases J;exact g
   .exact r j x au J,a0,a1,a6⟩
  refine aD (aO (aD (aL ?_)));by_cases R:(m.cg[i]).kind=2;rotate_left
  .simp only[↓sU,sD,rE,↓reduceIte,rA,d,B,bE,bF,aB,aA,f8,aJ,y,l0,Aa R];refine aQ (af) (aK ?_);refine ae ?_
   refine aL (ew B w1 ?_);exact f (fun h=>R h.1) (ah d) (ah w) (af)
  simp only[↓sU,sD,rE,↓reduceIte,rA,d,w,B,bE,bF,aB,aA,f8,aJ,y,l0,l2,Ac R];by_cases T:(m.cg[i]).info=(n:Int)
  .refine aS (iu (Ac T)) (aT ?_);refine ae ?_;exact .inr ⟨_,Bt I,R,T⟩
  .refine aQ (iu (Aa T)) (aK ?_);refine ae ?_
   refine aL (ew B w1 ?_);exact f (fun h=>T h.2) (ah d) (ah w) (af)
 rintro o ⟨F,inr⟩ Z (⟨rfl,E,s,r,d,w⟩|⟨rfl,s,hu⟩);rotate_left
 .refine ae ?_;exact .inl ⟨.inr (.inr hu),s⟩
 simp only at E d w;subst E;rw[s];clear s Z;refine ae ?_
 have⟨b,e1,aI,bI⟩:=u.p.inf.shrink V;have⟨kP,kM⟩:=u.p.pushI (X':=X) (Af _) (fun _ _ _=>rfl) (fun c hc=>.inl (by rw[<-bI];exact hc)) aI;have aa:=fun(F:Fr) (h:aC 59 F=je (n:Int))=>e1 F (.t 59) (by show gN (aC 59 F)=_;rw[h];exact aJ _ _);refine cA (fj d w @bE @bF @aB @aA f9 aa ?_);refine fN (v:=.undef) (S1:=⟨X.h.set mb (jf (fD db {m with ia:=b,ch:=m.ch.dropLast})),X.nx⟩) (fun call=>by refine ew @dL aI.cells ?_;exact xO (cs:=fD db m) (p:=9) (S:=X) u.g (au:9<10)) ?_;refine ae ?_;obtain⟨Z,N⟩:∃Z:St,Z=⟨X.h.set mb (jf (fD db {m with ia:=b,ch:=m.ch.dropLast})),X.nx⟩:=⟨_,rfl⟩;have t:nO P S0 Z mb db {m with ia:=b,ch:=m.ch.dropLast} LV:=kP.put (by rw[N];simp only;rw[ef,if_pos rfl]) (by rw[N];exact Af _) fun c _ g=>by rw[N];simp only;rw[ef,if_neg g]
 have kZ:gI mb db m X {m with ia:=b,ch:=m.ch.dropLast} Z:=kM.trans (by rw[N];exact gI.put);rw[<-N];have f2:=cH (p:=2) t.g rfl;have z:(({m with ia:=b,ch:=m.ch.dropLast}:Mk).views).length=n+1:=W;have l:=t.p.vw.len;have ab:=t.p.vw.self;rw[z] at l;have wV:IntKind.i64.wrap (((n+1:Nat):Int) - 1)=(n:Int):=by rw[wrap_i64 au au];omega
 have A:nO P S0 ⟨Z.h,Z.nx+15⟩ mb db {m with ia:=b,ch:=m.ch.dropLast} LV:=t.same (Same.nx Z 15);have⟨q,e2,aV,bV⟩:=A.p.vw.shrink z;have⟨ac,an⟩:=A.p.pushV (X':=⟨Z.h,Z.nx+15⟩) (Af _) (fun _ _ _=>rfl) (fun c hc=>.inl (by rw[<-bV];exact hc)) aV;have ao:=fun(F:Fr) (h:aC 74 F=je (n:Int))=>e2 F (.t 74) (by show gN (aC 74 F)=_;rw[h];exact aJ _ _);refine sI (pre:=aQK) (K:=14) (m:=16383) (n:=1) (x:=.t 77) (v:=.t 75) rfl rfl rfl rfl ?_;unfold aQK;simp only[↓sU,sD,rE,↓reduceIte,rA,d,bE,bP,bF,aB,aP,aA,f2,ab,l,wV,ao];rw[aV.cells,aH];refine⟨_,xO (cs:=fD db {m with ia:=b,ch:=m.ch.dropLast}) (p:=2) (S:=⟨Z.h,Z.nx+15⟩) A.g (au:2<10),_,rfl,.inr ⟨au,au,r,q,b,ac.put (by simp only;rw[ef,if_pos rfl];rfl) (Af _) fun c _ g=>by simp only;rw[ef,if_neg g],?_⟩⟩;exact((kZ.trans (gI.same (Same.nx Z 15))).trans an).trans gI.put
inductive gJ:List (Option Nat)->Nat->Prop
 | nil:gJ [] 0
 | none {l:List (Option Nat)} {n:Nat}:gJ l n->gJ (l++ [Option.none]) n
 | old {l:List (Option Nat)} {n i:Nat}:gJ l n->i<n->gJ (l++ [some i]) n
 | new {l:List (Option Nat)} {n:Nat}:gJ l n->gJ (l++ [some n]) (n+1)
def yR:List (Option Nat)->Nat->Nat->Nat
 | [],_,_=>0
 | b::l,s,i=>if b=some i then s+1 else yR l (s+1) i
theorem aKl:∀ {l:List (Option Nat)} {s i:Nat},yR l s i<=s+l.length
 | [],s,i=>Ck _
 | b::l,s,i=>by
  unfold yR;split
  .simp
  .have:=aKl (l:=l) (s:=s+1) (i:=i);rw[Ax];omega
theorem gS:∀ {l:List (Option Nat)} {s i:Nat} {b:Option Nat},yR (l++ [b]) s i=if yR l s i≠0 then yR l s i else if b=some i then s+l.length+1 else 0
 | [],s,i,b=>by simp [yR]
 | c::l,s,i,b=>by
  show yR (c::(l++ [b])) s i=_;unfold yR;by_cases h:c=some i
  .rw[if_pos h,if_pos h,if_pos au]
  .rw[if_neg h,if_neg h,gS (l:=l) (s:=s+1),Ax];split
   .rfl
   .split
    .omega
    .rfl
theorem aNC{l:List (Option Nat)}(h:gJ l n):∀i,n<=i->yR l 0 i=0:=by
 induction h with
 | nil=>intro i _;rfl
 | none _ a=>intro i hi;rw[gS,a i hi];simp
 | old _ b a=>intro i hi;rw[gS,a i hi];simp;omega
 | new _ a=>intro i hi;rw[gS,a i au];simp;omega
theorem aLx{l:List (Option Nat)}(h:gJ l n):(∀i,i<n->yR l 0 i≠0)/\∀i,i+1<n->yR l 0 i<yR l 0 (i+1):=by
 induction h with
 | nil=>exact⟨fun i hi=>absurd hi (Ca i),fun i hi=>absurd hi au⟩
 | none _ a=>exact⟨fun i hi=>by rw[gS,if_pos (a.1 i hi)];exact a.1 i hi,fun i hi=>by rw[gS,gS,if_pos (a.1 i au),if_pos (a.1 (i+1) hi)];exact a.2 i hi⟩
 | old _ _ a=>exact⟨fun i hi=>by rw[gS,if_pos (a.1 i hi)];exact a.1 i hi,fun i hi=>by rw[gS,gS,if_pos (a.1 i au),if_pos (a.1 (i+1) hi)];exact a.2 i hi⟩
 | @new l n b a=>
  refine⟨fun i hi=>?_,fun i hi=>?_⟩
  .by_cases e:i<n
   .rw[gS,if_pos (a.1 i e)];exact a.1 i e
   .obtain rfl:i=n:=by omega
    rw[gS,aNC b i (Af _),if_neg (fun h=>h rfl),if_pos rfl];omega
  .by_cases e:i+1<n
   .rw[gS,gS,if_pos (a.1 i au),if_pos (a.1 (i+1) e)];exact a.2 i e
   .obtain rfl:n=i+1:=by omega
    rw[gS,gS,if_pos (a.1 i au),aNC b (i+1) (Af _),if_neg (fun h=>h rfl),if_pos rfl];have:=aKl (l:=l) (s:=0) (i:=i);omega
def lbl(x:cJ):Option Nat:=if x.kind=2 then some x.info.toNat else Option.none
theorem aEk:∀ {l:List cJ} {s i:Nat},(∀x∈l,x.kind=2->0<=x.info)->yR (l.map lbl) s i=jA l s i
 | [],_,_,_=>rfl
 | x::l,s,i,h=>by
  have d:=aEk (l:=l) (s:=s+1) (i:=i) fun y f=>h y (Bf _ f);show(if lbl x=some i then s+1 else yR (l.map lbl) (s+1) i)=if x.kind=2/\x.info=(i:Int) then s+1 else jA l (s+1) i;rw[d];have c:=h x (Bk ..);by_cases b:x.kind=2
  .have c:=c b;have e:(lbl x=some i)↔(x.kind=2/\x.info=(i:Int)):=by
    unfold lbl;rw[if_pos b,Au];constructor
    .intro e;exact⟨b,au⟩
    .rintro⟨_,e⟩;omega
   by_cases a:lbl x=some i
   .rw[if_pos a,if_pos (e.1 a)]
   .rw[if_neg a,if_neg (fun h=>a (e.2 h))]
  .have a:lbl x≠some i:=by unfold lbl;rw[if_neg b];intro h;cases h
   rw[if_neg a,if_neg (fun h=>b h.1)]
def tX(k at_:Nat)(B:List cJ):Prop:=0<B.length/\∀ (N:Nat) (nx:Nat->bu),at_+B.length<=N->(∀i x,B[i]? =some x->nx (at_+i)=x.next)->∀f p d,B.length<=f->∃L,fB N nx f at_ p d=some L/\L.length=B.length/\∀t∈L,t.2.1<=d+(k:Int)
def aFc(k at_:Nat)(cs:bu)(C:List cJ):Prop:=∀ (N:Nat) (nx:Nat->bu),at_+C.length<=N->(∀i x,C[i]? =some x->nx (at_+i)=x.next)->∀f p d,C.length<=f->∃L,fR (fun r=>fB N nx f r p d) cs at_=some L/\L.length=C.length/\∀t∈L,t.2.1<=d+(k:Int)
def aFc.nil{k:Nat}:aFc k at_ [] []:=fun N nx _ _ f p d _=>⟨[],rfl,rfl,fun t a=>by cases a⟩
theorem aEU{rec:Nat->Option (List cS)}{c:Int}:∀ {cs:bu} {r:Nat} {L M:List cS},fR rec cs r=some L->c=((r+L.length:Nat):Int)->rec (r+L.length)=some M->fR rec (cs++ [c]) r=some (L++M)
 | [],r,L,M,h,d,e=>by
  cases h;have d:c=(r:Int):=d;have e:rec r=some M:=e;show(if c=(r:Int) then(rec r).bind fun a=>(fR rec [] (r+a.length)).map (a++ ·) else Option.none)=_;rw[if_pos d,e];show some (M++ [])=some ([]++M);rw[Bu,Bw]
 | b::cs,r,L,M,h,d,e=>by
  have h:(if b=(r:Int) then(rec r).bind fun a=>(fR rec cs (r+a.length)).map (a++ ·) else Option.none)=some L:=h;show(if b=(r:Int) then(rec r).bind fun a=>(fR rec (cs++ [c]) (r+a.length)).map (a++ ·) else Option.none)=_;by_cases g:b=(r:Int)
  .rw[if_pos g] at h ⊢;cases i:rec r with
   | none=>rw[i] at h;cases h
   | some a=>
    rw[i] at h;have h:(fR rec cs (r+a.length)).map (a++ ·)=some L:=h;cases f:fR rec cs (r+a.length) with
    | none=>rw[f] at h;cases h
    | some j=>
     rw[f] at h;have h:some (a++j)=some L:=h;cases h;rw[Aj] at d e;have:=aEU (rec:=rec) (c:=c) (M:=M) f (by rw[d];congr 1;omega) (by rw[<-e];congr 1;omega);show((fR rec (cs++ [c]) (r+a.length)).map (a++ ·))=_;rw[this];show some (a++(j++M))=_;rw[Bg]
  .rw[if_neg g] at h;cases h
def aFc.snoc{k:Nat}(h:aFc k at_ cs C)(c:tX k (at_+C.length) B):aFc k at_ (cs++ [((at_+C.length:Nat):Int)]) (C++B):=by
 intro N nx e a f p d g;rw[Aj] at e g;have⟨L,j,b,l⟩:=h N nx au (fun i x hi=>a i x (by rw[Ao (Ai.1 hi).1];exact hi)) f p d au;have⟨M,m,n,o⟩:=c.2 N nx au (fun i x hi=>by
  have:=a (C.length+i) x (by rw[Ap au,Nat.add_sub_cancel_left];exact hi);rw[<-this];congr 1;omega) f p d au
 refine⟨L++M,aEU j (by rw[b]) (by rw[b];exact m),by rw[Aj,Aj,b,n],fun t q=>?_⟩;rcases Bi.1 q with h|h
 .exact l t h
 .exact o t h
theorem tX.node{k:Nat}(h:aFc k (at_+1) x.next C):tX (k+1) at_ (x::C):=by
 refine⟨by simp,fun N nx b a f p d c=>?_⟩;rw[Ax] at b c;cases f with
 | zero=>omega
 | succ f=>
  have⟨L,e,g,j⟩:=h N nx au (fun i y hi=>by
   have:=a (i+1) y hi;rw[<-this];congr 1;omega) f (at_:Int) (d+1) au
  have l:nx at_=x.next:=a 0 x rfl;refine⟨(p,d,((at_+L.length:Nat):Int))::L,?_,by rw[Ax,Ax,g],fun t m=>?_⟩
  .show(if at_<N then(fR (fun r=>fB N nx f r at_ (d+1)) (nx at_) (at_+1)).map fun L=>(p,d,((at_+L.length:Nat):Int))::L else Option.none)=_;rw[if_pos au,l,e];rfl
  .rcases Bp.1 m with rfl|h
   .show d<=_;omega
   .have:=j t h;omega
theorem tX.end_{k:Nat}(h:x.next= []):tX k at_ [x]:=by
 refine⟨by simp,fun N nx b a f p d c=>?_⟩;cases f with
 | zero=>simp at c
 | succ f=>
  have e:nx at_=x.next:=a 0 x rfl;refine⟨[(p,d,((at_+0:Nat):Int))],?_,rfl,fun t g=>?_⟩
  .show(if at_<N then(fR (fun r=>fB N nx f r at_ (d+1)) (nx at_) (at_+1)).map fun L=>(p,d,((at_+L.length:Nat):Int))::L else Option.none)=_;rw[if_pos (by simp at b;omega),e,h];rfl
  .rw[Cc.1 g];show d<=_;omega
structure aUc(x:cJ):Prop where
 kind:x.kind=1
 player:x.player=0
 info:x.info=0
 pay:x.pay= []
 n1:1<=x.next.length
 n2:x.next.length<=3
 len:x.weights.length=x.next.length
 wts:∀w∈x.weights,1<=w/\w<=3
structure aU2(ps:Int)(I:List fU)(x:cJ):Prop where
 kind:x.kind=2
 wts:x.weights= []
 pay:x.pay= []
 n1:1<=x.next.length
 n2:x.next.length<=3
 pl:0<=x.player/\x.player<ps
 inf:0<=x.info
 at_:I[x.info.toNat]? =some ⟨x.player,(x.next.length:Int)⟩
def kI(ps:Int)(I:List fU)(x:cJ):Prop:=aRu ps x\/aUc x\/aU2 ps I x
def kI.app{J:List fU}(h:kI ps I x):kI ps (I++J) x:=by
 rcases h with h|h|h
 .exact .inl h
 .exact .inr (.inl h)
 .exact .inr (.inr ⟨h.kind,h.wts,h.pay,h.n1,h.n2,h.pl,h.inf,by rw[Ao (Ai.1 h.at_).1];exact h.at_⟩)
def aMU(h:kI ps I x):gQ ps I.length x=0:=by
 unfold gQ;rcases h with h|h|h
 .rw[if_neg (by rw[h.kind];decide),if_neg (by rw[h.kind];decide),if_pos h.kind,if_neg (by unfold oM;rw[h.player,h.info,h.next,h.wts,h.len];simp),if_neg];rintro⟨w,a,b⟩;have:=h.pay w a;omega
 .rw[if_pos h.kind,if_neg (by unfold oL;rw[h.player,h.info,h.pay,h.len];have:=h.n1;have:=h.n2;simp;omega),if_neg];rintro⟨w,a,b⟩;have:=h.wts w a;omega
 .have c:=(Ai.1 h.at_).1;have:=h.pl;have:=h.inf;rw[if_neg (by rw[h.kind];decide),if_pos h.kind,if_neg (by unfold vD;rw[h.wts,h.pay];have:=h.n1;have:=h.n2;simp;omega),if_neg au]
theorem aGb{ps:Int}{I:List fU}:∀ {l:List cJ},(∀x∈l,kI ps I x)->kT ps I.length l=0
 | [],_=>rfl
 | x::l,h=>by
  have a:=aMU (h x (Bk ..));show(if gQ ps I.length x≠0 then gQ ps I.length x else kT ps I.length l)=0;rw[if_neg (fun h=>h a)];exact aGb fun y b=>h y (Bf _ b)
theorem aKk{b:Int}:∀ {L:List cS} {m:Int},m<=b->(∀t∈L,t.2.1<=b)->wM m L<=b
 | [],m,a,_=>a
 | t::L,m,a,h=>by
  rw[aF6];refine aKk ?_ fun y c=>h y (Bf _ c);have:=h t (Bk ..);unfold mx;split<;>omega
def aIr{g:aX}{k:Nat}(B:1<=g.cm/\g.cm<=4)(C:1<=g.cg.length/\g.cg.length<=2000)(hi:g.ch.length<=200)(l:∀x∈g.cg,kI g.cm g.ch x)(p:tX k 0 g.cg)(c:k<=40)(q:gJ (g.cg.map lbl) g.ch.length):dC g=0:=by
 have⟨L,r,s,u⟩:=p.2 g.cg.length (dN g) au (fun i x hi=>by rw[Am];exact wR hi) (g.cg.length+1) (-1) 0 au;have v:gP g=some L:=r;unfold dC;rw[if_neg (by unfold nL;omega),if_neg (by rw[aGb l];exact fun h=>h rfl),v];show(if L.length≠g.cg.length then 9 else if 40<wM 0 L then 5 else vR g)=0;have D:wM 0 L<=40:=aKk az fun t w=>by have:=u t w;omega
 rw[if_neg (fun h=>h s),if_neg au];have a:(fL g).length=g.ch.length:=by unfold fL;simp
 have f:∀x∈g.cg,x.kind=2->0<=x.info:=fun x m c=>by
  rcases l x m with h|h|h
  .rw[h.kind] at c;cases c
  .rw[h.kind] at c;cases c
  .exact h.inf
 have b:∀j,j<g.ch.length->(fL g).getD j 0=((yR (g.cg.map lbl) 0 j:Nat):Int):=fun j d=>by rw[yZ d,aEk f]
 have⟨y,z⟩:=aLx q;unfold vR;rw[if_neg,if_neg,if_pos]
 .intro i o hi;rw[a] at hi;rw[b i hi,b (i - 1) au];have:=z (i - 1) au;rw[show i - 1+1=i by omega] at this;omega
 .intro o;have⟨j,d,A⟩:=Dv.1 o;rw[a] at d;have:=b j d;rw[Ad,Ab (by rw[a];exact d)] at this;have e:(fL g)[j]=((yR (g.cg.map lbl) 0 j:Nat):Int):=this;rw[A] at e;have:=y j d;omega
 .rintro⟨x,m,c,n⟩;rcases l x m with h|h|h
  .rw[h.kind] at c;cases c
  .rw[h.kind] at c;cases c
  .apply n;have e:cv g x.info=⟨x.player,(x.next.length:Int)⟩:=by
    unfold cv;rw[Ad,h.at_];rfl
   rw[e];exact⟨rfl,rfl⟩
def aPx(b:Nat->Prop)(X:St)(cs:cd)(l:bu):Prop:=∃a,cs= [a]/\bN .i64 X a l/\∀c,aM a=some c->b c
structure xG(Pp:Nat->Prop)(X:St)(v:AV)(rows:bt):Prop where
 rows:aG 1 (aPx Pp) X v rows
 out:∀c,aM v=some c->Pp c
def aPx.move{f b:Nat->Prop}{cs:cd}(h:aPx f X cs l)(j:X.nx<=X'.nx)(g:∀c,c<X.nx->f c->X'.h.get c=X.h.get c/\b c):aPx b X' cs l:=by
 obtain⟨a,rfl,e,i⟩:=h;exact⟨a,rfl,eT e j fun c d=>(g c (dP e d) (i c d)).1,fun c d=>(g c (dP e d) (i c d)).2⟩
def xG.move{g d:Nat->Prop}{rows:bt}(h:xG g X v rows)(j:X.nx<=X'.nx)(f:∀c,c<X.nx->g c->X'.h.get c=X.h.get c/\d c):xG d X' v rows:=by
 refine⟨?_,fun c k=>(f c (aDt h.rows k) (h.out c k)).2⟩;rcases h.rows with h'|⟨b,off,cap,o,cs,rfl,n,l,m,p⟩
 .exact .inl h'
 .refine .inr ⟨b,off,cap,o,cs,rfl,n,Ae l j,?_,fun i a hi=>?_⟩
  .unfold cI at m ⊢;rw[(f b l (h.out b rfl)).1];exact m
  .have⟨e,q,r,s⟩:=p i a hi;exact⟨e,q,r,s.move j f⟩
def aS5(h:bN .i64 S v l):mP v=some l.length/\eU v S.h 1 l.length=some (bD l):=by
 rcases h with⟨rfl,rfl|rfl⟩|⟨b,off,cap,o,cs,rfl,f,g,e,d⟩
 .exact⟨rfl,rfl⟩
 .exact⟨rfl,rfl⟩
 .refine⟨rfl,?_⟩;show bG (cI S.h b) (fun c=>cut c off (l.length * 1))=_;rw[e];show cut cs off (l.length * 1)=_;have a:l.length<=(cs.drop off).length:=by
   rw[Dd];rcases Ci l.length with j|k
   .omega
   .have:=d (l.length - 1) l[l.length - 1] (Ab au);have:=(Ai.1 this).1;omega
  unfold cut;rw[iG,iP,Dm,if_pos a];congr 1;refine List.ext_getElem? fun i=>?_;by_cases hi:i<l.length
  .rw[Em hi,Fg,d i l[i] (Ab hi)];unfold bD;rw[Az,Ab hi];rfl
  .rw[Cd (by rw[Bv];omega),Cd (by unfold bD;rw[Al];omega)]
def aD4(g:S.h.get b=jf [])(h:bN .i64 S v l)(p:l.length<=100000):
  ∃r a,gG 8 1 (.sl b 0 0 0 false) v S=some (r,a)/\Same S a/\((l= []/\r= .sl b 0 0 0 false/\a=S)\/(fP 1 S a r l.length (bD l)/\l≠ [])):=by
 have⟨i,j⟩:=aS5 h;have q:l.length<=room:=by unfold room;omega
 have c:l.length * 8<=room:=by unfold room;omega
 unfold gG;rw[i,aH,j,aH];show ∃r a,lR 8 1 b 0 0 0 false l.length (bD l) S=some (r,a)/\_;unfold lR;rcases Ci l.length with k|f
 .have m:l= []:=Bo.1 k;subst m;exact⟨.sl b 0 0 0 false,S,rfl,eu S,.inl ⟨rfl,rfl,rfl⟩⟩
 .have n:Nat.ble (0+l.length) 0=false:=by
   rw[Cj];intro e;have:=Bc e;omega
  rw[n,aU,Ak au,aN,Ak (by rw[Am];exact c),aN,g,aH];have o:cut ([]:cd) 0 (0 * 1)=some []:=by
   unfold cut;rw[iG,iP,Dy,if_pos (Ck _)];rfl
  have d:xX (.cells [] false 0) 1 b 0 0 0 false l.length (bD l) S=some (.sl S.nx 0 (0+l.length) (0+l.length) true,⟨S.h.set S.nx (some (.cells (bD l) true 1)),Nat.succ S.nx⟩):=by
   simp only[xX,o,aH,aU,grown,fS,Bw]
  rw[d,Am];exact⟨.sl S.nx 0 l.length l.length true,⟨S.h.set S.nx (some (.cells (bD l) true 1)),S.nx+1⟩,rfl,Same.alloc S _,.inr ⟨.inr ⟨S.nx,rfl,Af _,by simp,jd,by simp [bD]⟩,fun e=>by rw[e] at f;exact absurd f (Nat.lt_irrefl 0)⟩⟩
def aKw{t:Nat}{r:AV}{w:Int}(h:(l= []/\r= .sl b 0 0 0 false/\X.h.get b=jf [])\/(fP 1 Y X r l.length (bD l)/\l≠ []))(q:Y.nx<=X.nx)(o:X.h.get t=jf [je w])(j:t<X.nx)(y:l.length<=100000):
  ∃a X',gG 8 1 r (.sl t 0 1 1 false) X=some (a,X')/\bN .i64 X' a (l++ [w])/\X.nx<=X'.nx/\(∀c,c<X.nx->aM r≠some c->X'.h.get c=X.h.get c)/\∀c,aM a=some c->X.nx<=c:=by
 rcases h with⟨rfl,rfl,s⟩|⟨u,_⟩
 .have v:bN .i64 X (.sl t 0 1 1 false) [w]:=.inr ⟨t,0,1,false,[je w],rfl,Af _,j,by unfold cI;rw[o];rfl,fun i x hi=>by
   cases i with
   | zero=>cases hi;rfl
   | succ i=>simp at hi⟩
  obtain⟨a,X',f,d,g|⟨g,_⟩⟩:=aD4 s v (by simp)
  .exact absurd g.1 (by simp)
  .exact⟨a,X',f,g.is,d.1,fun c e _=>d.2 c e,fun c e=>(g.blk e).1⟩
 .have k:fP 1 ⟨X.h,Y.nx⟩ X r l.length (bD l):=by
   rcases u with h|⟨c,f,d,m,p,n⟩
   .exact .inl h
   .exact .inr ⟨c,f,d,m,p,n⟩
  have⟨a,X',f,d,m,p,n⟩:=fP.push (bytes:=8) (t:=t) (w:=w) k ⟨q,fun _ _=>rfl⟩ o ay ay;exact⟨a,X',f,d.is,au,n,fun c e=>by rw[m] at e;cases e;exact Af _⟩
noncomputable def aMQ:List AO:=[oq 185 (.dk 3 (.t 11)),
om 186 1 (ld 185),
mt 187 0,
mt 188 1,
om 189 8 (bi .add (.t 188) (ci 1)),
mt 190 13,
oc 191 63 [(.t 187),(.t 189),(.t 190)] 60,
⟨(some 192),(.a (.dd 3 1 1 [(.int .i64 (.ofNat 0))] [(0,(.t 191))])),none,124⟩]
noncomputable def aMN:List AO:=[⟨(some 193),(.x (.app 3 1 8 (.t 186) (.t 192))),none,255⟩,
om 194 511 (.dk 3 (.t 11)),
⟨none,(.x (.st 1 (.t 194) (.t 193))),none,1023⟩]
def aRP(P:Nat->Prop)(S0 X:St)(F:Fr)(mb db:Nat)(m:Mk)(LV:List (Int×Int×Int))(xa:AV)(G:Int->Mk->Prop)(F':Fr)(Z:St)(ps:List iR):Prop:=∃ (c:Int) (m':Mk),G c m'/\ps= [⟨7,X.nx+7,.cells [je c] false 0⟩]/\X.nx+11<=Z.nx/\nO (fun k=>P k\/X.nx+11<=k) S0 Z mb db m' LV/\(∀k,k<X.nx+11->PB mb db m k->PB mb db m' k)/\(∀k,k<X.nx->PB mb db m k->Z.h.get k=X.h.get k)/\(∀j,j<16->aC j F'=aC j F)/\aC 186 F'=xa/\aC 192 F'= .sl (X.nx+7) 0 1 1 false
def aPS{s:List AO}{Y0:St}{inr:Bool}{m:Mk}{k p f nv:AV}{lev:Int}{G:Int->Mk->Prop}(he:s=aMQ++aMN)(hM:nO P S0 X mb db m LV)(H:∀c,P c->c<X.nx)(p0:aC 0 F= .ptr mb 0)(p1:aC 1 F=je lev)(ba:0<=lev/\lev<=1000)(I:aC 11 F= .ptr xb 0)(ab:aC 13 F=nv)(gx:X.h.get xb=jf [k,p,f,xa,xw,xp])(J:PB mb db m xb/\¬P xb)(lx:xb<Y0.nx)(hY:Y0.nx<=X.nx)(hg:fP 1 Y0 X xa l.length (bD l))(L:∀c,aM xa=some c->PB mb db m c/\¬P c)(hl:l.length<=1000)
  (u:∀X1,Same X X1->iI fns (.fn 63 [] []) [.ptr mb 0,je (lev+1),nv] X1 fun r Z=>∃ (c:Int) (m':Mk),r=je c/\G c m'/\nO (fun k=>P k\/X1.nx<=k) S0 Z mb db m' LV/\gI mb db m X1 m' Z)
  (hQ:∀F' Z a c m',(∀j,j<16->aC j F'=aC j F)->G c m'->nO (fun k=>(P k\/X.nx<=k)/\aM a≠some k) S0 Z mb db m' LV->X.nx<=Z.nx->(∀k,k<X.nx->PB mb db m k->PB mb db m' k)->(∀k,k<X.nx->PB mb db m k->k≠xb->aM xa≠some k->Z.h.get k=X.h.get k)->Z.h.get xb=jf [k,p,f,a,xw,xp]->fP 1 Y0 Z a (l++ [c]).length (bD (l++ [c]))->(∀k,aM a=some k->X.nx<=k/\PB mb db m' k)->Q .normal ⟨F',inr⟩ Z):jP fns (.drw s) ⟨F,inr⟩ X Q:=by
 have M:s.length=11:=by rw[he];rfl
 have N:xb<X.nx:=Ae lx hY;have sp:=hg.self;have wl:IntKind.i64.wrap (lev+1)=lev+1:=wrap_i64 au au;refine oO (W:=fun c=>c≠xb) (K:=8) (R:=aRP P S0 X F mb db m LV xa G) he rfl rfl (fun X1 x1 bb ac=>?_) ?_
 .have an:=cH (p:=3) gx rfl;have ao:¬ (xb≠xb):=fun h=>h rfl;unfold aMQ;simp only[↓sU,sD,rE,↓reduceIte,rA,p0,p1,I,ab,aB,aP,aA,an,sp,N,ao,An,wl];refine jI rfl (ae (aW (u X1 x1) ?_));rintro _ X2 ⟨c,m',rfl,hG,aw,O⟩;have n1:X1.nx=X.nx+11:=by rw[ac,M]
  have aI:∀k,k<X.nx->PB mb db m k->X2.h.get k=X.h.get k:=fun k T y=>((O.2 k au y).1).trans (x1.2 k T);refine⟨⟨O.1,fun c E aV=>?_⟩,?_⟩
  .have e:c=xb:=Decidable.byContradiction aV;rw[e];exact(O.2 xb au J.1).1
  have aZ:=fun(F:Fr) (id:Nat) (h:aC 191 F=je c)=>jS (t:=3) (z:=je 0) (x:=.t 191) (F:=F) (id:=id) (k:=.i64) (n:=c) h;refine de aZ ?_;refine⟨c,m',hG,af,by rw[<-n1];exact O.1,by rw[<-n1];exact aw,fun k T y=>(O.2 k au y).2,aI,fun j b=>?_,by refine⟨?_,?_⟩<;>simp only[↓sU,sD,rE,↓reduceIte,rA]⟩;have:j=0\/j=1\/j=2\/j=3\/j=4\/j=5\/j=6\/j=7\/j=8\/j=9\/j=10\/j=11\/j=12\/j=13\/j=14\/j=15:=by omega
  rcases this with rfl|rfl|rfl|rfl|rfl|rfl|rfl|rfl|rfl|rfl|rfl|rfl|rfl|rfl|rfl|rfl<;>simp only[↓sU,sD,rE,↓reduceIte,rA]
 rintro F' q ps hs ls ⟨c,m',hG,rfl,nZ,A,o,B,T,pA,pB⟩ C a0;have Y:aC 11 F'= .ptr xb 0:=(T 11 au).trans I;have m1:∀i,i<8->Nat.testBit 255 i=true:=by decide
 obtain⟨U,hU⟩:∃U:St,U=⟨q.h.set (X.nx+7) (jf [je c]),q.nx⟩:=⟨_,rfl⟩;have nU:U.nx=q.nx:=by rw[hU]
 have kU:∀j,j≠X.nx+7->U.h.get j=q.h.get j:=fun j b=>by rw[hU];simp only;rw[ef,if_neg b]
 have gU:U.h.get (X.nx+7)=jf [je c]:=by rw[hU];simp only;rw[ef,if_pos rfl]
 have d:∀ {j},aM xa=some j->Y0.nx<=j/\j<X.nx:=fun E=>⟨(hg.blk E).1,(hg.blk E).2.1⟩;have a1:fP 1 ⟨U.h,Y0.nx⟩ U xa l.length (bD l):=hg.move au fun j b=>by
  rw[kU j (by have:=(d b).2;omega)];exact B j (d b).2 (L j b).1
 have⟨a,V,eA,gA,bA,nA,rA⟩:=fP.push (bytes:=8) (t:=X.nx+7) (w:=c) a1 ⟨by show Y0.nx<=U.nx;omega,fun _ _=>rfl⟩ gU ay ay;have a2:V.h.get xb=jf [k,p,f,xa,xw,xp]:=by
  rw[rA xb au (fun e=>by have:=(d e).1;omega),kU xb au];exact(B xb N J.1).trans gx
 have D:∀ {j},aM a=some j->j=U.nx:=fun E=>by rw[bA] at E;exact(Bh E).symm
 unfold aMN;refine iQ (v:=a) (S1:=V) (C _ m1) (fun call=>?_) ?_
 .rw[cL (az:Nat.testBit 255 7=true),fK];simp only[fE,pA,pB];rw[<-hU];exact eA
 rw[cL (az:Nat.testBit 255 7=true)];simp only[iW,dH,aB,aA,aP,aU,fE,bL,bH,Y,rE,↓reduceIte,rA];have a3:a.cells=some [a]:=fP.cells gA;refine iQ (v:=.undef) (S1:=⟨V.h.set xb (jf [k,p,f,a,xw,xp]),V.nx⟩) (az:Nat.testBit 1023 8=true) (fun call=>?_) ?_
 .rw[dL];simp only[fE,bH,rE,↓reduceIte,bL,a3,aH];exact xO (cs:=[k,p,f,xa,xw,xp]) (p:=3) (S:=V) a2 (by simp)
 rw[iC];refine⟨?_,?_⟩
 .simp only[Ce,Bg,Da,Cf,Bw];exact a0 _ _ _ m1
 .simp only[bL,fC];have kV:∀j,j<q.nx->j≠X.nx+7->j≠xb->aM xa≠some j->(V.h.set xb (jf [k,p,f,a,xw,xp])).get j=q.h.get j:=fun j b h1 h2 h3=>by
   rw[ef,if_neg h2,rA j au h3,kU j h1]
  have aa:PB mb db m' xb:=o xb au J.1;have bd:nO (fun k=>P k\/X.nx+11<=k) S0 ⟨V.h.set xb (jf [k,p,f,a,xw,xp]),V.nx⟩ mb db m' LV:=A.local (by show q.nx<=V.nx;omega) fun j b g=>by
   refine kV j b (fun e=>?_) (fun e=>?_) (fun e=>?_)
   .rcases g with h|h|h
    .exact h (o j au (by rw[e];exact hM.p.fresh au))
    .have:=H j h;omega
    .omega
   .rcases g with h|h|h
    .exact h (by rw[e];exact aa)
    .exact J.2 (by rw[<-e];exact h)
    .omega
   .have a5:=(d e).2;rcases g with h|h|h
    .exact h (o j au (L j e).1)
    .exact(L j e).2 h
    .omega
  have a8:nO (fun k=>(P k\/X.nx<=k)/\aM a≠some k) S0 ⟨V.h.set xb (jf [k,p,f,a,xw,xp]),V.nx⟩ mb db m' LV:=by
   have h1:nO (fun k=>(P k\/X.nx+11<=k)/\k<q.nx) S0 ⟨V.h.set xb (jf [k,p,f,a,xw,xp]),V.nx⟩ mb db m' LV:=(A.mono fun j b h=>⟨h,b⟩).local (by show q.nx<=V.nx;omega) fun j b g=>by
    refine kV j b (fun e=>?_) (fun e=>?_) (fun e=>?_)
    .rcases g with h|⟨h|h,_⟩
     .exact h (o j au (by rw[e];exact hM.p.fresh au))
     .have:=H j h;omega
     .omega
    .rcases g with h|⟨h|h,_⟩
     .exact h (by rw[e];exact aa)
     .exact J.2 (by rw[<-e];exact h)
     .omega
    .have a5:=(d e).2;rcases g with h|⟨h|h,_⟩
     .exact h (o j au (L j e).1)
     .exact(L j e).2 h
     .omega
   refine h1.mono fun j _ h=>⟨h.1.elim .inl fun h=>.inr au,fun e=>?_⟩;have:=D e;have:=h.2;omega
  refine hQ _ _ a c m' (fun j b=>?_) hG a8 (by show X.nx<=V.nx;omega) (fun j b y=>o j au y) (fun j b y h1 h2=>?_) jd ?_ (fun j b=>?_)
  .rw[bH,if_neg au,bH,if_neg au];exact T j b
  .simp only;rw[kV j au au  h1 h2];exact B j b y
  .refine fP.move (S:=V) (by exact gA) (Af _) fun j b=>?_;have:=D b;simp only;rw[ef,if_neg au]
  .have:=D b;exact⟨au,A.p.fresh au⟩
def aNq{a q:Nat}(b:a<=1000)(c:q<=64):∃z y:Nat,nH .shr (.p .int) (je (a:Int)) (je (q:Int))=some (je (z:Int))/\nH .and (.p .int) (je (z:Int)) (je 1)=some (je (y:Int)):=by
 refine⟨a / 2 ^ q,Nat.land (a / 2 ^ q) 1,?_,?_⟩
 .show fH .shr .i64 (Int.ofNat a) .i64 (Int.ofNat q)=_;unfold fH;rw[show iA .shr=true from rfl,aN];show aGq .shr .i64 (Int.ofNat a) q=_;unfold aGq;rw[show Nat.ble q IntKind.i64.bits=true from Ak c,aN];show some (AV.int .i64 (Int.fdiv (a:Int) ((2 ^ q:Nat):Int)))=_;rw[Int.fdiv_eq_ediv_of_nonneg _ (Int.natCast_nonneg _)];rfl
 .have d:a / 2 ^ q<=1000:=Av (Nat.div_le_self _ _) b;generalize a / 2 ^ q=z at *;show fH .and .i64 (Int.ofNat z) .i64 (Int.ofNat 1)=_;unfold fH;rw[show iA .and=false from rfl,aU,fO,aN];show cC (zT .i64 z) (cC (zT .i64 1) (some (AV.int .i64 (.ofNat (Nat.land z 1)))) none) none=_;rw[show zT .i64 z=true from Ak (by show z<=9223372036854775807;omega),aN,show zT .i64 1=true from rfl,aN];rfl
noncomputable def aQC:AC:=aTw
def RoI(Y:St)(b:Fr)(n lev:Nat)(k:Nat)(A:bO)(X:St):Prop:=A.inr=false/\Same Y X/\(∀j,j<13->aC j A.F=aC j b)/\∃ (q:Nat) (nv:AV) (cs:cd) (a:bt),q+k=n/\a.length=q/\(∀l∈a,l.length<=lev+1)/\fP 1 Y X nv q cs/\qU Y X nv cs a/\aC 13 A.F=nv/\aC 14 A.F=je (q:Int)
def aIY{Pp:Nat->Prop}{rows:bt}{many:Int}(hv:xG Pp Y v rows)(a2:∀l∈rows,l.length<=lev)(bz:lev<=900)(hn:rows.length<=64)(p2:aC 2 F=v)(p8:aC 8 F= .ptr tb 0)(gt:Y.h.get tb=jf [je pl,je many,je sn])(aa:tb<Y.nx)(bI:0<=sn/\sn<=1000)(a3:aC 12 F=je i)(a5:aC 13 F= .ct)(a8:aC 14 F=je 0)
  (hQ:∀F' Z nv E,(∀j,j<13->aC j F'=aC j F)->aC 13 F'=nv->Same Y Z->E.length=rows.length->(∀l∈E,l.length<=lev+1)->xG (fun c=>Y.nx<=c/\c<Z.nx) Z nv E->Q .normal ⟨F',false⟩ Z):jP fns aQC ⟨F,false⟩ Y Q:=by
 unfold aQC;refine bB (Q:=fun o E Z=>o= .normal/\RoI Y F rows.length lev 0 E Z) (aO (bX (RoI Y F rows.length lev) ?_ rows.length _ _ ⟨rfl,eu _,fun _ _=>rfl,0,.ct,[],[],au,rfl,fun l hl=>(by cases hl),.inl ⟨rfl,rfl,rfl⟩,⟨rfl,fun j s=>absurd s (Ca j)⟩,a5,a8⟩)) ?_;rotate_left
 .rintro o ⟨F',inr⟩ Z ⟨rfl,H,hZ,M,q,nv,cs,E,hq,hl,N,P,hR,f,_⟩;simp only at H M f;subst H;obtain rfl:q=rows.length:=by omega
  refine hQ F' Z nv E M f hZ hl N ⟨?_,fun c d=>⟨(P.blk d).1,(P.blk d).2.1⟩⟩;rcases P with⟨rfl,h0,_⟩|⟨b,rfl,_,h2,h3,_⟩
  .exact .inl ⟨Bo.1 au,.inl rfl⟩
  .refine .inr ⟨b,0,rows.length,true,cs,by rw[hl],au,h2,by unfold cI;rw[h3];rfl,fun j l s=>?_⟩;have I:=(Ai.1 s).1;have e:E.getD j []=l:=by rw[Ad,s];rfl
   have⟨r,h4,h5,h6⟩:=hR.2 j I;rw[e] at h5;refine⟨[r],rfl,fun x y hx=>?_,r,rfl,h5,fun c d=>⟨(h6 c d).1,dP h5 d⟩⟩;cases x with
   | zero=>
    cases hx;rw[Am,Dm];exact h4
   | succ x=>simp at hx
 rintro k ⟨G,inr⟩ X ⟨H,C,M,q,nv,cs,E,ba,ab,N,P,hR,f,g⟩;simp only at H M f g;subst H;have g2:aC 2 G=v:=(M 2 au).trans p2;have g8:aC 8 G= .ptr tb 0:=(M 8 au).trans p8;have bb:aC 12 G=je i:=(M 12 au).trans a3;have ac:xG Pp X v rows:=hv.move C.1 fun c d hp=>⟨C.2 c d,hp⟩;have bM:=(C.2 _ aa).trans gt;refine gH (fe g2 g ac.rows.len @Ah ?_);by_cases I:q<rows.length;rotate_left
 .refine aQ im (bT ?_);refine ae ?_;have bd:k=0:=by omega
  subst bd;refine⟨rfl,C,fun j s=>?_,q,nv,cs,E,ba,ab,N,P,hR,by refine⟨?_,?_⟩<;>simp only[↓sU,sD,rE,↓reduceIte,rA,f,g]⟩;rw[<-M j s];have:j=0\/j=1\/j=2\/j=3\/j=4\/j=5\/j=6\/j=7\/j=8\/j=9\/j=10\/j=11\/j=12:=by omega
  rcases this with rfl|rfl|rfl|rfl|rfl|rfl|rfl|rfl|rfl|rfl|rfl|rfl|rfl<;>simp only[↓sU,sD,rE,↓reduceIte,rA]
 refine aS im (aK ?_);refine ae ?_
 have w1:=ed q
 obtain⟨_,br,qr,be,bj,_,⟨a,rfl,an,_⟩,_,bk⟩:=aG.at ac.rows az (vL I);have ao:=bk 0 a rfl;rw[Bs] at ao;have bA:(rows.getD q []).length<=lev:=a2 _ (by rw[Ad,Ab I];exact Bt I);generalize rows.getD q []=l at *;refine aD (aO (aD (aL ?_)));refine am ?_;refine fW sK ?_;intro X1 x1 n1 b1;have R:=ao;rw[<-jH x1 bj] at R;refine fx g2 g @aJ be R ?_;have⟨r,L,eA,x2,hr⟩:=aD4 b1 (an.same x1) au;refine fN (fun call=>by refine fl @fK ?_;exact eA) ?_;refine am ?_;have aw:=x1.trans x2;have bm:=C.trans aw;have aI:=(bm.2 _ aa).trans gt;have t0:=cH (p:=0) aI rfl;have t2:=cH (p:=2) aI rfl;have bn:X.nx<L.nx:=by have:=x2.1;omega
 have aV:(l= []/\r= .sl X.nx 0 0 0 false/\L.h.get X.nx=jf [])\/(fP 1 X1 L r l.length (bD l)/\l≠ []):=by
  rcases hr with⟨e1,e2,e3⟩|h
  .exact .inl ⟨e1,e2,by rw[e3];exact b1⟩
  .exact .inr h
 have bp:∀c,aM r=some c->X.nx<=c:=fun c d=>by
  rcases aV with⟨_,rfl,_⟩|⟨h,_⟩
  .cases d;exact Af _
  .have:=(h.blk d).1;omega
 obtain⟨s0,rfl⟩:∃s0:Nat,sn=(s0:Int):=⟨sn.toNat,au⟩;have⟨z,y,hz,hy⟩:=aNq (a:=s0) (q:=q) au au;refine aD (bB (Q:=fun o V Z=>o= .normal/\V.inr=false/\(∀j,j<13->aC j V.F=aC j G)/\aC 13 V.F=nv/\aC 14 V.F=je (q:Int)/\L.nx<=Z.nx/\(∀c,c<X.nx->Z.h.get c=X.h.get c)/\∃w,bN .i64 Z (aC 15 V.F) (l++ [w])/\∀c,aM (aC 15 V.F)=some c->X.nx<=c) (aD (bB (Q:=fun o W Z=>o= .normal/\W.inr=false/\Z=L/\(∀j,j<13->aC j W.F=aC j G)/\aC 13 W.F=nv/\aC 14 W.F=je (q:Int)/\aC 15 W.F=r/\∃t,aC 173 W.F= .bool t) (aL ?_) ?_)) ?_)
 .by_cases aZ:(q:Int)=pl
  .refine fh f g g8 @aB @aA t0 (Ac aZ) ?_;exact⟨fun j s=>by
    have:j=0\/j=1\/j=2\/j=3\/j=4\/j=5\/j=6\/j=7\/j=8\/j=9\/j=10\/j=11\/j=12:=by omega
    rcases this with rfl|rfl|rfl|rfl|rfl|rfl|rfl|rfl|rfl|rfl|rfl|rfl|rfl<;>simp only[↓sU,sD,rE,↓reduceIte,rA],true,rfl⟩
  .simp only[↓sU,sD,rE,↓reduceIte,rA,f,g,g8,aB,aA,t0,t2,Aa aZ,hz,hy];exact⟨fun j s=>by
    have:j=0\/j=1\/j=2\/j=3\/j=4\/j=5\/j=6\/j=7\/j=8\/j=9\/j=10\/j=11\/j=12:=by omega
    rcases this with rfl|rfl|rfl|rfl|rfl|rfl|rfl|rfl|rfl|rfl|rfl|rfl|rfl<;>simp only[↓sU,sD,rE,↓reduceIte,rA],_,rfl⟩
 .rintro o ⟨F1,inr⟩ Z ⟨rfl,H,hZ,k1,u,A,U,t,ht⟩;simp only at H k1 u A U ht;subst H;rw[hZ];clear hZ Z;refine ae ?_
  have f12:aC 12 F1=je i:=(k1 12 au).trans bb;have J:∀ {F':Fr} {D O:St} {B:AV} {w:Int},Same L D->D.nx<=O.nx->(∀c,c<D.nx->aM r≠some c->O.h.get c=D.h.get c)->bN .i64 O B (l++ [w])->(∀c,aM B=some c->D.nx<=c)->L.nx<=O.nx/\(∀c,c<X.nx->O.h.get c=X.h.get c)/\∃w,bN .i64 O B (l++ [w])/\∀c,aM B=some c->X.nx<=c:=fun {F' D O B w} s3 n4 k4 i4 b4=>
   ⟨Av s3.1 n4,fun c d=>by
    rw[k4 c (ax s3.1) (fun e=>by have:=bp c e;omega),s3.2 c au];exact aw.2 c d,w,i4,fun c d=>by have:=b4 c d;have:=s3.1;omega⟩
  have T:∀ {D:St},Same L D->((l= []/\r= .sl X.nx 0 0 0 false/\D.h.get X.nx=jf [])\/(fP 1 X1 D r l.length (bD l)/\l≠ [])):=fun s3=>aV.elim (fun h=>.inl ⟨h.1,h.2.1,(s3.2 _ bn).trans h.2.2⟩) fun h=>.inr ⟨h.1.step s3,h.2⟩;have bR:=x2.1;cases t with
  | true=>
   refine aS (ah ht) (aL ?_);refine fo U f12 ?_;refine fW (jS (n:=i) (k:=.i64) (aq)) ?_;intro D x3 n3 b3;have⟨B,O,eB,i4,n4,k4,b4⟩:=aKw (t:=L.nx) (w:=i) (T x3) au b3 au au;refine fN (fun call=>by refine fl @fK ?_;exact eB) ?_;refine fo u A ?_;exact⟨fun j s=>by rw[<-k1 j s];exact(by
    have:j=0\/j=1\/j=2\/j=3\/j=4\/j=5\/j=6\/j=7\/j=8\/j=9\/j=10\/j=11\/j=12:=by omega
    rcases this with rfl|rfl|rfl|rfl|rfl|rfl|rfl|rfl|rfl|rfl|rfl|rfl|rfl<;>simp only[↓sU,sD,rE,↓reduceIte,rA]),J (F':=F1) x3 n4 k4 i4 b4⟩
  | false=>
   have a0:∀ (F:Fr) (id:Nat),uH (.dd 3 1 1 [je 0] [(0,.c (je (.negSucc 0)))]) F id=some (.sl id 0 1 1 false,.cells [je (-1)] false 0):=fun F id=>jS rfl;refine aQ (ah ht) (aL ?_);refine fl U ?_;refine fW (a0 _ _) ?_;intro D x3 n3 b3;have⟨B,O,eB,i4,n4,k4,b4⟩:=aKw (t:=L.nx) (w:= -1) (T x3) au b3 au au;refine fN (fun call=>by refine fl @fK ?_;exact eB) ?_;refine fo u A ?_;exact⟨fun j s=>by rw[<-k1 j s];exact(by
    have:j=0\/j=1\/j=2\/j=3\/j=4\/j=5\/j=6\/j=7\/j=8\/j=9\/j=10\/j=11\/j=12:=by omega
    rcases this with rfl|rfl|rfl|rfl|rfl|rfl|rfl|rfl|rfl|rfl|rfl|rfl|rfl<;>simp only[↓sU,sD,rE,↓reduceIte,rA]),J (F':=F1) x3 n4 k4 i4 b4⟩
 rintro o ⟨F2,inr⟩ Z ⟨rfl,H,k2,u,A,nZ,kZ,w,iZ,bZ⟩;simp only at H k2 u A iZ bZ;subst H;generalize bq:aC 15 F2=B at iZ bZ;refine ae ?_
 have bs:X.nx<=Z.nx:=by omega
 have bv:Same X Z:=⟨bs,kZ⟩;refine aL (fo u bq ?_);refine fW (aDx (S:=Z) iZ (aq)) ?_;intro X5 x5 n5 b5;have bw:fP 1 ⟨X5.h,Y.nx⟩ X5 nv q cs:=P.step (bv.trans x5);have⟨a1,X6,eC,gC,bC,n6,k6⟩:=fP.push1 (bytes:=24) (x:=B) bw ⟨by have:=C.1;show Y.nx<=X5.nx;omega,fun _ _=>rfl⟩ b5 ay ay;refine fN (fun call=>by refine fl @fK ?_;exact eC) ?_;refine am ?_;have K:∀ {c},aM nv=some c->Y.nx<=c/\c<X.nx:=fun d=>⟨(P.blk d).1,(P.blk d).2.1⟩;have i5:bN .i64 X5 B (l++ [w]):=iZ.same x5;have i6:bN .i64 X6 B (l++ [w]):=eT i5 au fun c d=>k6 c (dP i5 d) fun e=>by have:=bZ c d;have:=(K e).2;omega
 have bx:=hR.push (Z:=X6) (pv':=a1) (r:=B) (l:=l++ [w]) (ax C.1) au (fun c h1 h2 h3=>by rw[k6 c au h3,x5.2 c au];exact kZ c h1) i6 (fun c d=>⟨bZ c d,fun e=>by rw[bC] at e;cases e;have:=dP i5 d;omega⟩) (fun c d=>by rw[bC] at d;cases d;omega);refine aL (ew A w1 ?_);refine⟨k - 1,au,rfl,⟨ax C.1,fun c d=>?_⟩,fun j s=>?_,q+1,a1,cs++ [B],E++ [l++ [w]],au,by rw[Aj,Ba,ab],fun m hm=>?_,?_,bx,by refine⟨?_,?_⟩<;>simp only[↓sU,sD,rE,↓reduceIte,rA]⟩
 .rw[k6 c (ax C.1) (fun e=>by have:=(K e).1;omega),x5.2 c (ax C.1),kZ c (ax C.1)];exact C.2 c d
 .rw[<-M j s,<-k2 j s];have:j=0\/j=1\/j=2\/j=3\/j=4\/j=5\/j=6\/j=7\/j=8\/j=9\/j=10\/j=11\/j=12:=by omega
  rcases this with rfl|rfl|rfl|rfl|rfl|rfl|rfl|rfl|rfl|rfl|rfl|rfl|rfl<;>simp only[↓sU,sD,rE,↓reduceIte,rA]
 .rcases Bi.1 hm with h|h
  .exact N m h
  .rw[Cc.1 h,Aj,Ba];omega
 .rcases gC with h|⟨b,e1,e2,e3,e4,e5⟩
  .exact .inl h
  .exact .inr ⟨b,e1,e2,e3,e4,e5⟩
structure aDB(m:Mk):Prop where
 len:m.views.length=m.ch.length
 at_:∀ (j:Nat) (v:Int×Int×Int),m.views[j]? =some v->v.2.2=(j:Int)/\0<=v.1/\v.1<m.ps/\∃a,m.ch[j]? =some ⟨v.1,a⟩/\1<=a/\a<=3
structure aFv(lev:Nat)(m:Mk):Prop where
 vok:aDB m
 lv:∀ (j:Nat) (v:Int×Int×Int),m.views[j]? =some v->v.2.1<(lev:Int)\/aCc m v.2.2
 nd:∀x∈m.cg,x.kind=2->x.info<(m.ch.length:Int)
 fit:(m.cg.length:Int)+m.pend<=m.most
 pnd:0<=m.pend
 most:m.most<=1000
 il:m.ch.length<=m.cg.length
 ps:1<=m.ps/\m.ps<=4
structure aAa(m m':Mk)(B:List cJ)(d:Int):Prop where
 cg:m'.cg=m.cg++B
 ok:∀x∈B,kI m.ps m'.ch x
 ord:∀lab,gJ lab m.ch.length->gJ (lab++B.map lbl) m'.ch.length
 inf:∃I,m'.ch=m.ch++I
 vws:∃V,m'.views=m.views++V
 vok:aDB m'
 used:∀j,m.ch.length<=j->j<m'.ch.length->∃x∈B,x.kind=2/\x.info=(j:Int)
 most:m'.most=m.most
 ps:m'.ps=m.ps
 pend:m'.pend=m.pend - d
 fit:(m'.cg.length:Int)+m'.pend<=m'.most
 il:m'.ch.length<=m'.cg.length
def aAa.refl{m:Mk}(h:aFv lev m):aAa m m [] 0 where
 cg:=(Bu _).symm
 ok:=fun x a=>by cases a
 ord:=fun b h=>by simpa using h
 inf:=⟨[],(Bu _).symm⟩
 vws:=⟨[],(Bu _).symm⟩
 vok:=h.vok
 used:=fun j c d=>by omega
 most:=rfl
 ps:=rfl
 pend:=(Int.sub_zero _).symm
 fit:=h.fit
 il:=h.il
def aAa.trans{m a:Mk}{l:List cJ}{n:Int}(h:aAa m m' B d)(h':aAa m' a l n):aAa m a (B++l) (d+n) where
 cg:=by rw[h'.cg,h.cg,Bg]
 ok:=fun x b=>by
  rcases Bi.1 b with c|c
  .have⟨I,e⟩:=h'.inf;rw[e];exact(h.ok x c).app
  .rw[<-h.ps];exact h'.ok x c
 ord:=fun f o=>by
  rw[Co,<-Bg];exact h'.ord _ (h.ord f o)
 inf:=by
  have⟨I,e⟩:=h.inf;have⟨g,i⟩:=h'.inf;exact⟨I++g,by rw[i,e,Bg]⟩
 vws:=by
  have⟨I,e⟩:=h.vws;have⟨g,i⟩:=h'.vws;exact⟨I++g,by rw[i,e,Bg]⟩
 vok:=h'.vok
 used:=fun j c p=>by
  by_cases q:j<m'.ch.length
  .have⟨x,b,k⟩:=h.used j c q;exact⟨x,Dh _ b,k⟩
  .have⟨x,b,k⟩:=h'.used j au p;exact⟨x,Cx _ b,k⟩
 most:=h'.most.trans h.most
 ps:=h'.ps.trans h.ps
 pend:=by rw[h'.pend,h.pend];omega
 fit:=h'.fit
 il:=h'.il
def aCc.mono{m:Mk}(h:aCc m i)(a:m'.cg=m.cg++B):aCc m' i:=by
 have⟨x,b,c⟩:=h;exact⟨x,by rw[a];exact Dh _ b,c⟩
def aAa.pre{m:Mk}(h:aAa m m' B d)(f:aFv lev m)(k:0<=m'.pend):aFv lev m' where
 vok:=h.vok
 lv:=fun j v g=>by
  have⟨V,e⟩:=h.vws;by_cases l:j<m.views.length
  .rw[e,Ao l] at g;rcases f.lv j v g with b|b
   .exact .inl b
   .exact .inr (b.mono h.cg)
  .have n:=(Ai.1 g).1;have o:=(h.vok.at_ j v g).1;have⟨x,i,a⟩:=h.used j (ax f.vok.len) (ax h.vok.len);exact .inr ⟨x,by rw[h.cg];exact Cx _ i,a.1,by rw[a.2,o]⟩
 nd:=fun x i a=>by
  have⟨I,e⟩:=h.inf;have p:m.ch.length<=m'.ch.length:=by rw[e,Aj];omega
  rw[h.cg] at i;rcases Bi.1 i with b|b
  .have:=f.nd x b a;omega
  .rcases h.ok x b with c|c|c
   .rw[c.kind] at a;cases a
   .rw[c.kind] at a;cases a
   .have:=(Ai.1 c.at_).1;have:=c.inf;omega
 fit:=h.fit
 pnd:=k
 most:=by rw[h.most];exact f.most
 il:=h.il
 ps:=by rw[h.ps];exact f.ps
def aDD(fns:T eY)(S0:St)(mb db:Nat)(LV:List (Int×Int×Int))(lev:Nat):Prop:=∀ (X:St) (P:Nat->Prop) (m:Mk) (v:AV) (rows:bt),nO P S0 X mb db m LV->S0.nx<=X.nx->aFv lev m->1<=m.pend->xG (fun c=>PB mb db m c/\P c) X v rows->rows.length=m.ps.toNat->(∀l∈rows,l.length<=lev)->(∀p∈LV,p.1<m.ps)->
 iI fns (.fn 63 [] []) [.ptr mb 0,je (lev:Int),v] X fun r Z=>r=je (m.cg.length:Int)/\∃m' B,aAa m m' B 1/\tX (LV.length - lev) m.cg.length B/\nO (fun c=>P c\/X.nx<=c) S0 Z mb db m' LV/\gI mb db m X m' Z
noncomputable def aQw:AC:=aS6
def Pin(P:Nat->Prop)(X:St)(xb:Nat)(xa xw:AV)(c:Nat):Prop:=(P c\/X.nx<=c)/\c≠xb/\aM xa≠some c/\aM xw≠some c
structure KdR(P:Nat->Prop)(S0 X X1:St)(mb db xb:Nat)(LV:List (Int×Int×Int))(K:Nat)(m1:Mk)(xk xp xf:AV)(pl:Int)(Y:St)(i iw:Nat)(mi:Mk)(cs:bu)(C:List cJ)(ws:bu)(xa xw:AV):Prop where
 mkb:nO (Pin P X xb xa xw) S0 Y mb db mi LV
 bld:aAa m1 mi C (i:Int)
 forT:aFc K m1.cg.length cs C
 len:cs.length=i
 wts:(pl<0->ws.length=iw/\∀w∈ws,1<=w/\w<=3)/\(¬pl<0->ws= [])
 nx:X1.nx<=Y.nx
 frm:∀c,c<X1.nx->PB mb db m1 c->PB mb db mi c/\(c≠xb->Y.h.get c=X1.h.get c)
 gx:Y.h.get xb=some (.cells [xk,xp,xf,xa,xw,.ct] false 0)
 ga:fP 1 X1 Y xa cs.length (bD cs)
 gw:fP 1 X1 Y xw ws.length (bD ws)
 pa:∀c,aM xa=some c->PB mb db mi c
 pw:∀c,aM xw=some c->PB mb db mi c
 ne:∀c,aM xa=some c->aM xw≠some c
def KdR.same{K:Nat}{e f:AV}{Z:St}{i g:Nat}{j:Mk}{k:bu}(h:KdR P S0 X X1 mb db xb LV K m1 e xp f pl Y i g j cs C k xa xw)(m:xb<X1.nx)(a:Same Y Z):KdR P S0 X X1 mb db xb LV K m1 e xp f pl Z i g j cs C k xa xw where
 mkb:=h.mkb.same a
 bld:=h.bld
 forT:=h.forT
 len:=h.len
 wts:=h.wts
 nx:=Av h.nx a.1
 frm:=fun c b l=>⟨(h.frm c b l).1,fun d=>(a.2 c (Ae b h.nx)).trans ((h.frm c b l).2 d)⟩
 gx:=(a.2 xb (Ae m h.nx)).trans h.gx
 ga:=h.ga.step a
 gw:=h.gw.step a
 pa:=h.pa
 pw:=h.pw
 ne:=h.ne
def KdI(P:Nat->Prop)(S0 X X1:St)(mb db xb:Nat)(LV:List (Int×Int×Int))(K:Nat)(m1:Mk)(a xp b:AV)(pl:Int)(many:Nat)(c:Fr)(k:Nat)(A:bO)(Y:St):Prop:=A.inr=false/\(∀j,j<12->aC j A.F=aC j c)/\∃i d cs C e xa xw,i+k=many/\KdR P S0 X X1 mb db xb LV K m1 a xp b pl Y i i d cs C e xa xw/\aC 12 A.F=je (i:Int)
def aI8{V xf:AV}{mn:Int}{many:Nat}{rows:bt}(H:Has fns)(be:aDD fns S0 mb db LV (lev+1))(hP:∀c,P c->c<X.nx)(hX:X.nx<=X1.nx)(hM:nO (fun c=>(P c\/X.nx<=c)/\c≠xb) S0 X1 mb db m1 LV)(hS:S0.nx<=X.nx)(z:aFv (lev+1) m1)(bj:(many:Int)<=m1.pend)(bk:many<=3)(b':lev<=800)
  (bm:∀p∈LV,p.1<m1.ps) (M:xG (fun c=>PB mb db m1 c/\P c) X1 v rows) (bn:rows.length=m1.ps.toNat) (bp:∀l∈rows,l.length<=lev) (aa:tb<X1.nx) (A:xb<X1.nx) (ca:X.nx<=xb) (ab:tb≠xb) (ac:PB mb db m1 tb) (an:PB mb db m1 xb) (ao:X1.h.get tb=jf [je pl,je mn,je sn]) (bq:X1.h.get xb=jf [V,xp,xf,.ct,.ct,.ct]) (bs:0<=sn/\sn<=1000)
  (p0:aC 0 F= .ptr mb 0) (p1:aC 1 F=je (lev:Int)) (p2:aC 2 F=v) (p8:aC 8 F= .ptr tb 0) (p9:aC 9 F=je (many:Int)) (bv:aC 11 F= .ptr xb 0) (bw:aC 12 F=je 0)
  (hQ:∀F' Y q cs C J xa xw,(∀j,j<12->aC j F'=aC j F)->KdR P S0 X X1 mb db xb LV (LV.length - (lev+1)) m1 V xp xf pl Y many many q cs C J xa xw->Q .normal ⟨F',false⟩ Y):jP fns aQw ⟨F,false⟩ X1 Q:=by
 unfold aQw;refine bB (Q:=fun o T Z=>o= .normal/\KdI P S0 X X1 mb db xb LV (LV.length - (lev+1)) m1 V xp xf pl many F 0 T Z) (aO (bX (KdI P S0 X X1 mb db xb LV (LV.length - (lev+1)) m1 V xp xf pl many F) ?_ many _ _ ⟨rfl,fun _ _=>rfl,0,m1,[],[],[],.ct,.ct,au,⟨hM.mono fun c _ h=>⟨h.1,h.2,(by intro e;cases e),(by intro e;cases e)⟩,aAa.refl z,aFc.nil,rfl,⟨fun _=>⟨rfl,fun w hw=>by cases hw⟩,fun _=>rfl⟩,Af _,fun c _ n=>⟨n,fun _=>rfl⟩,bq,.inl ⟨rfl,rfl,rfl⟩,.inl ⟨rfl,rfl,rfl⟩,fun c a=>(by cases a),fun c a=>(by cases a),fun c a=>(by cases a)⟩,bw⟩)) ?_;rotate_left
 .rintro o ⟨F',inr⟩ Z ⟨rfl,K,y,i,q,cs,C,J,xa,xw,aw,d,_⟩;simp only at K y;subst K;obtain rfl:i=many:=by omega
  exact hQ F' Z q cs C J xa xw y d
 rintro k ⟨G,inr⟩ Y ⟨K,y,i,q,cs,C,J,xa,xw,aw,d,E⟩;simp only at K y E;subst K;have g0:aC 0 G= .ptr mb 0:=(y 0 au).trans p0;have g1:aC 1 G=je (lev:Int):=(y 1 au).trans p1;have g2:aC 2 G=v:=(y 2 au).trans p2;have g8:aC 8 G= .ptr tb 0:=(y 8 au).trans p8;have g9:aC 9 G=je (many:Int):=(y 9 au).trans p9;have aI:aC 11 G= .ptr xb 0:=(y 11 au).trans bv;refine gH (ew g9 E ?_);by_cases cc:i<many;rotate_left
 .refine aQ im (bT ?_);refine ae ?_;have bx:k=0:=by omega
  subst bx;refine⟨rfl,fun j hj=>?_,i,q,cs,C,J,xa,xw,aw,d,ah E⟩;rw[<-y j hj];have:j=0\/j=1\/j=2\/j=3\/j=4\/j=5\/j=6\/j=7\/j=8\/j=9\/j=10\/j=11:=by omega
  rcases this with rfl|rfl|rfl|rfl|rfl|rfl|rfl|rfl|rfl|rfl|rfl|rfl<;>simp only[↓sU,sD,rE,↓reduceIte,rA]
 refine aS im (aK ?_);refine ae ?_
 have w1:=ed i
 have aV:=((d.frm tb aa ac).2 ab).trans ao;have t0:=cH (p:=0) aV rfl;refine aD (aO (aD (bB (Q:=fun o T Z=>o= .normal/\T.inr=false/\(∀j,j<13->aC j T.F=aC j G)/\∃N s,KdR P S0 X X1 mb db xb LV (LV.length - (lev+1)) m1 V xp xf pl Z i (i+1) q cs C N xa s) (aD (aL ?_)) ?_)))
 .refine fe g8 @aB @aA t0 ?_;by_cases x:pl<0
  .refine aS (iu (Ac x)) ?_;have bz:nO (fun c=>Pin P X xb xa xw c/\c<Y.nx) S0 Y mb db q LV:=d.mkb.mono fun c a h=>⟨h,a⟩;have bA:=(d.wts.1 x).1;refine aNT (Y0:=X1) (mb:=mb) (db:=db) (xb:=xb) (m:=q) (LV:=LV) (pv:=xw) (l:=J) H rfl bz (ah g0) (ah aI) d.gx ⟨(d.frm xb A an).1,fun h=>h.1.2.1 rfl⟩ A d.nx d.gw (fun c a=>⟨d.pw c a,fun h=>h.1.2.2.2 a⟩) (fun c a h=>ax h.2) au ?_;intro F' Z s w bC t nZ kZ gZ bI O w2 w3;have f:∀ {c},aM xa=some c->X1.nx<=c/\c<Y.nx:=fun a=>⟨(d.ga.blk a).1,(d.ga.blk a).2.1⟩;refine⟨rfl,rfl,fun j hj=>?_,J++ [w],s,t.mono fun c a h=>⟨h.1.1,h.1.2.1,h.1.2.2.1,fun e=>by have:=O c e;have:=h.2;omega⟩,d.bld,d.forT,d.len,⟨fun _=>⟨by rw[Aj,Ba,bA],fun u hu=>?_⟩,fun h=>absurd x h⟩,Av d.nx nZ,fun c a n=>⟨(d.frm c a n).1,fun D=>(kZ c (Ae a d.nx) (d.frm c a n).1 D (fun e=>by have:=(d.gw.blk e).1;omega)).trans ((d.frm c a n).2 D)⟩,gZ,d.ga.move nZ fun c a=>kZ c (f a).2 (d.pa c a) (by have:=(f a).1;omega) (d.ne c a),bI,d.pa,fun c a=>d.mkb.p.fresh (O c a),fun c a e=>by have:=O c e;have:=(f a).2;omega⟩
   .have aZ:=bC j au;rw[aZ];have:j=0\/j=1\/j=2\/j=3\/j=4\/j=5\/j=6\/j=7\/j=8\/j=9\/j=10\/j=11\/j=12:=by omega
    rcases this with rfl|rfl|rfl|rfl|rfl|rfl|rfl|rfl|rfl|rfl|rfl|rfl|rfl<;>simp only[↓sU,sD,rE,↓reduceIte,rA]
   .rcases Bi.1 hu with h|h
    .exact(d.wts.1 x).2 u h
    .rw[Cc.1 h];exact⟨w2,w3⟩
  .refine aQ (iu (Aa x)) (aK ?_);refine ae ?_;refine⟨fun j hj=>?_,J,xw,⟨d.mkb,d.bld,d.forT,d.len,⟨fun h=>absurd h x,d.wts.2⟩,d.nx,d.frm,d.gx,d.ga,d.gw,d.pa,d.pw,d.ne⟩⟩;have:j=0\/j=1\/j=2\/j=3\/j=4\/j=5\/j=6\/j=7\/j=8\/j=9\/j=10\/j=11\/j=12:=by omega
   rcases this with rfl|rfl|rfl|rfl|rfl|rfl|rfl|rfl|rfl|rfl|rfl|rfl|rfl<;>simp only[↓sU,sD,rE,↓reduceIte,rA]
 clear d aV t0;rintro o ⟨U,inr⟩ Z ⟨rfl,K,L,N,s,t⟩;simp only at K L;subst K;have b0:aC 0 U= .ptr mb 0:=(L 0 au).trans g0;have b1:aC 1 U=je (lev:Int):=(L 1 au).trans g1;have b2:aC 2 U=v:=(L 2 au).trans g2;have b8:aC 8 U= .ptr tb 0:=(L 8 au).trans g8;have bM:aC 11 U= .ptr xb 0:=(L 11 au).trans aI;have b12:aC 12 U=je (i:Int):=(L 12 au).trans E;have bR:=((t.frm tb aa ac).2 ab).trans ao;have cf:=z.ps;have I:xG (fun c=>PB mb db q c/\P c) Z v rows:=M.move t.nx fun c a n=>⟨(t.frm c a n.1).2 (by have:=hP c n.2;omega),(t.frm c a n.1).1,n.2⟩;refine ae ?_
 refine cA (ae ?_);refine gH (ae ?_);refine aIY (tb:=tb) (lev:=lev) (pl:=pl) (many:=mn) (sn:=sn) (i:=(i:Int)) I bp au au  (ah b2) (ah b8) bR (ax t.nx) bs (ah b12) (af) (ag) ?_;intro F3 Z3 nv T k3 bU s3 bV R bY;have c0:=k3 0 au;have c1:=k3 1 au;have a0:=k3 11 au;have a1:=k3 12 au;simp only[↓sU,sD,rE,↓reduceIte,rA,b0,b1,bM,b12] at c0 c1 a0 a1;refine ae ?_
 have b:=t.same A s3;have a2:nO (fun c=>Pin P X xb xa s c/\c<Z3.nx) S0 Z3 mb db q LV:=b.mkb.mono fun c a h=>⟨h,a⟩;have a3:q.cg.length=m1.cg.length+C.length:=by rw[b.bld.cg,Aj]
 have cj:=b.bld.pend;have f:∀ {c},aM xa=some c->X1.nx<=c/\c<Z.nx:=fun a=>⟨(t.ga.blk a).1,(t.ga.blk a).2.1⟩;have g:∀ {c},aM s=some c->X1.nx<=c/\c<Z.nx:=fun a=>⟨(t.gw.blk a).1,(t.gw.blk a).2.1⟩;have ck:=b.nx;have bZ:=b.len;refine aPS (Y0:=X1) (mb:=mb) (db:=db) (xb:=xb) (m:=q) (LV:=LV) (xa:=xa) (l:=cs) (nv:=nv) (lev:=(lev:Int)) (G:=fun c m'=>c=(q.cg.length:Int)/\∃B,aAa q m' B 1/\tX (LV.length - (lev+1)) q.cg.length B) rfl a2 (fun c h=>h.2) c0 c1 au a0 bU b.gx ⟨(b.frm xb A an).1,fun h=>h.1.2.1 rfl⟩ A b.nx b.ga (fun c a=>⟨b.pa c a,fun h=>h.1.2.2.1 a⟩) au ?_ ?_
 .intro X4 x4;have S:=be X4 (fun c=>Pin P X xb xa s c/\c<Z3.nx) q nv T (a2.same x4) (ax x4.1) (b.bld.pre z au) au (bY.move x4.1 fun c a n=>⟨x4.2 c a,t.mkb.p.fresh n.1,⟨.inr (ax t.nx),ax t.nx,fun e=>by have:=(f e).2;omega,fun e=>by have:=(g e).2;omega⟩,n.2⟩) (by rw[bV,bn,b.bld.ps]) R (fun p n=>by rw[b.bld.ps];exact bm p n);rw[show((lev:Int)+1)=((lev+1:Nat):Int) by omega];refine aW S ?_;rintro r W ⟨rfl,m',B,hB,hT,hW,bW⟩;exact⟨_,m',rfl,⟨rfl,B,hB,hT⟩,hW,bW⟩
 .rintro F5 W a5 c m' k5 ⟨rfl,B,hB,hT⟩ hW nW pW kW b3 b6 a8;have d12:=k5 12 au;rw[a1] at d12;refine ae ?_
  refine aL (ew d12 w1 ?_);have ba:=b.bld.trans hB;rw[show((i:Int)+1)=((i+1:Nat):Int) by omega] at ba;have bb:=b.forT.snoc (B:=B) (by rw[<-a3];exact hT);rw[<-a3] at bb;have bd:∀ {c},aM a5=some c->Z3.nx<=c:=fun a=>(a8 _ a).1;refine⟨k - 1,au,rfl,fun j hj=>?_,i+1,m',cs++ [(q.cg.length:Int)],C++B,N,a5,s,au,⟨hW.mono fun c a h=>?_,ba,bb,by rw[Aj,Ba,bZ],b.wts,au,fun c a n=>⟨pW c au (b.frm c a n).1,fun D=>(kW c au (b.frm c a n).1 D (fun e=>by have:=(f e).1;omega)).trans ((b.frm c a n).2 D)⟩,b3,b6,b.gw.move nW fun c a=>kW c (by have:=(g a).2;have:=s3.1;omega) (b.pw c a) (by have:=(g a).1;omega) (fun e=>b.ne c e a),fun c a=>(a8 c a).2,fun c a=>pW c (by have:=(g a).2;have:=s3.1;omega) (b.pw c a),fun c a e=>by have:=bd a;have:=(g e).2;have:=s3.1;omega⟩,af⟩
  .have e5:=k5 j au;have e3:=k3 j au;rw[<-y j hj,<-L j au];have:j=0\/j=1\/j=2\/j=3\/j=4\/j=5\/j=6\/j=7\/j=8\/j=9\/j=10\/j=11:=by omega
   rcases this with rfl|rfl|rfl|rfl|rfl|rfl|rfl|rfl|rfl|rfl|rfl|rfl<;>(simp only[↓sU,sD,rE,↓reduceIte,rA] at e3;simp only[↓sU,sD,rE,↓reduceIte,rA,e5,e3])
  .rcases h.1 with h1|h1
   .exact⟨h1.1.1,h1.1.2.1,h.2,h1.1.2.2.2⟩
   .exact⟨.inr au,au,h.2,fun e=>by have:=(g e).2;have:=s3.1;omega⟩
end Go.Ev.Gl
