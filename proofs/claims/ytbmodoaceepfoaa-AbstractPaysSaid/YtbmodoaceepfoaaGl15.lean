import Derived.Test.YtbmodoaceepfoaaGl14
set_option linter.all false
open Nat renaming reduceEqDiff -> rE, reduceAdd -> rA
set_option maxHeartbeats 0
namespace Go.Ev.Gl
variable {fns:T fD}
variable {cs:bu}{t sz n c i db mb xb:Nat}{S X X' S0 Y0:St}{b v v' xa pv z0 z1 z2:AV}{x:cQ}{l:bt}{P P':Nat->Prop}{g:List AO}{F:Fr}{inr:Bool}{LV:List (Int×Int×Int)}{Q:Out->bO->St->Prop}{h:Ev.T AB}{pl lev:Int}
def uL{e:bu}{p:Nat}(d:p+e.length<=cs.length):(cs.take p++e++cs.drop (p+e.length))[t]? =if t<p then cs[t]? else if t<p+e.length then e[t - p]? else cs[t]? :=by
 have c:(cs.take p).length=p:=by rw[Bx];omega
 rw[Bg];by_cases a:t<p
 .rw[if_pos a,Ak au,Eq a]
 .rw[if_neg a,Ao au,c];by_cases b:t<p+e.length
  .rw[if_pos b,Ak au]
  .rw[if_neg b,Ao au,Fp];congr 1;omega
def aGl{b p:Nat}{e:bu}{o:Bool}(h:S.h.get b=some (.cells cs o sz))(a:p+e.length<=cs.length):uB S b p e=some ⟨S.h.set b (some (.cells (cs.take p++e++cs.drop (p+e.length)) o sz)),S.nx⟩:=by
 simp only[uB,h,aH,aCg,put_eq,if_pos a]
def aM4{b p:Nat}{e:bu}{o:Bool}(h:S.h.get b=some (.cells cs o sz))(c:p+e.length<=cs.length)(a:e.length=n):qZ (.ptr b p) n e S=some (.undef,⟨S.h.set b (some (.cells (cs.take p++e++cs.drop (p+e.length)) o sz)),S.nx⟩):=by
 simp only[qZ,gJ,a,aGl h c];rw[show Nat.beq n n=true from Fx n,aL];subst a;rfl
def qX{α:Type}(k:Nat)(E:bu->α->Prop)(S0 X:St)(v:AV)(l:List α):Prop:=
 (v= .cr/\l= [])\/∃b c cs,v= .sl b 0 l.length c true/\l.length<=c/\cs.length=c * k/\S0.nx<=b/\b<X.nx/\X.h.get b=some (.cells cs true k)/\0<c/\∀ (i:Nat) (a:α),l[i]? =some a->∃e:bu,e.length=k/\(∀ (j:Nat) (x:AV),e[j]? =some x->cs[i * k+j]? =some x)/\E e a
section
variable {α:Type}{k:Nat}{E E':bu->α->Prop}{S0 X X':St}{v:AV}{l:List α}
def qX.none:qX k E S0 X .cr []:=.inl ⟨rfl,rfl⟩
def qX.move(h:qX k E S0 X v l)(d:X.nx<=X'.nx)(f:∀c,aN v=some c->X'.h.get c=X.h.get c)(g:∀e a,E e a->E' e a):qX k E' S0 X' v l:=by
 rcases h with h|⟨b,c,cs,rfl,j,n,o,p,q,r,s⟩
 .exact .inl h
 .refine .inr ⟨b,c,cs,rfl,j,n,o,Ae p d,(f b rfl).trans q,r,fun i a hi=>?_⟩;have⟨e,t,u,w⟩:=s i a hi;exact⟨e,t,u,g e a w⟩
def qX.blk(h:qX k E S0 X v l)(a:aN v=some c):S0.nx<=c/\c<X.nx:=by
 rcases h with⟨rfl,_⟩|⟨b,f,cs,rfl,g,i,d,e,j,n,o⟩
 .cases a
 .cases a;exact⟨d,e⟩
def qX.is{d:St->bu->α->Prop}(h:qX k E S0 X v l)(f:∀e a,E e a->d X e a):aE k d X v l:=by
 rcases h with⟨rfl,rfl⟩|⟨b,c,cs,rfl,g,u,w,n,o,y,p⟩
 .exact .inl ⟨rfl,.inl rfl⟩
 .refine .inr ⟨b,0,c,true,cs,rfl,g,n,by unfold cG;rw[o];rfl,fun i a hi=>?_⟩;have⟨e,q,r,s⟩:=p i a hi;exact⟨e,q,fun j x t=>by rw[An];exact r j x t,f e a s⟩
def qX.cells(h:qX k E S0 X v l):v.cells=some [v]:=by
 rcases h with⟨rfl,_⟩|⟨b,c,cs,rfl,_⟩<;>rfl
def qX.self(h:qX k E S0 X v l):cI v v=true:=by
 rcases h with⟨rfl,_⟩|⟨b,c,cs,rfl,_⟩
 .rfl
 .exact nQ ..
def qX.len(h:qX k E S0 X v l):lW v=some (jr (l.length:Int)):=by
 rcases h with⟨rfl,rfl⟩|⟨b,c,cs,rfl,_⟩<;>rfl
def qI{j k q:Nat}(h:i<j)(a:q<k):i * k+q<j * k:=by
 have:(i+1) * k<=j * k:=Co k h;rw[Dl,Fu] at this;omega
def qX.push{bytes:Nat}{x:AV}{e:bu}{a:α}(h:qX k E S0 X v l)(U:0<k)(J:S0.nx<=X.nx)(B:mY x=some 1)(C:eS x X.h k 1=some e)(s:e.length=k)(D:E e a)(K:l.length+1<=room)(L:(l.length+1) * bytes<=room):
  ∃v' X',gQ bytes k v x X=some (v',X')/\qX k E S0 X' v' (l++ [a])/\X.nx<=X'.nx/\(∀c,c<X.nx->aN v≠some c->X'.h.get c=X.h.get c)/\(∀c,aN v'=some c->aN v=some c\/X.nx<=c):=by
 rcases h with⟨rfl,rfl⟩|⟨b,c,cs,rfl,V,t,O,Q,M,R,N⟩
 .refine⟨.sl X.nx 0 1 1 true,⟨X.h.set X.nx (some (.cells e true k)),X.nx+1⟩,?_,.inr ⟨X.nx,1,e,rfl,Af _,by rw[s,Fu],J,by simp,jh,Nat.one_pos,fun i a' hi=>?_⟩,by simp,fun c p _=>(jq.alloc X _).2 c p,fun c p=>by cases p;exact .inr (Af _)⟩
  .show(bD (mY x) fun j=>bD (eS x X.h k j) fun new=>aAz .cr bytes k j new X)=_;rw[B,aH,C,aH];show qV bytes k 1 e X=_;have F:1<=room:=by simpa using K
   have G:1 * bytes<=room:=by simpa using L
   unfold qV;rw[show Nat.beq 1 0=false from rfl,aR,Al F,aL,Al G,aL];rfl
  .cases i with
   | zero=>
    simp at hi;subst hi;exact⟨e,s,fun j y d=>by rw[Dz,An];exact d,D⟩
   | succ i=>simp at hi
 .by_cases p:l.length+1<=c
  .have H:l.length * k+e.length<=cs.length:=by
    rw[s,t,<-Du];exact Co k p
   refine⟨.sl b 0 (l.length+1) c true,⟨X.h.set b (some (.cells (cs.take (l.length * k)++e++cs.drop (l.length * k+e.length)) true k)),X.nx⟩,?_,.inr ⟨b,c,cs.take (l.length * k)++e++cs.drop (l.length * k+e.length),by rw[Ai,Ax],by rw[Ai,Ax];exact p,by simp;omega,O,Q,jh,R,fun i a' hi=>?_⟩,Af _,fun A _ q=>?_,fun A g=>.inl g⟩
   .show(bD (mY x) fun j=>bD (eS x X.h k j) fun new=>aAz (.sl b 0 l.length c true) bytes k j new X)=_;rw[B,aH,C,aH];show lP bytes k b 0 l.length c true 1 e X=_;unfold lP;rw[Al p,aL,show Nat.beq 1 0=false from rfl,aR,An,aGl M H,aH]
   .rw[Eg] at hi;split at hi
    .rename_i f;have⟨I,u,w,z⟩:=N i a' hi;refine⟨I,u,fun j y d=>?_,z⟩;have n:j<k:=by rw[<-u];exact(Aj.1 d).1
     rw[uL H,if_pos (qI f n)];exact w j y d
    .rename_i f;have o:i - l.length=0:=by
      rcases Cb (i - l.length) with o|o
      .exact o
      .rw[Bv (by simp;omega)] at hi;cases hi
     rw[o] at hi;cases hi;have r:i=l.length:=by omega
     subst r;refine⟨e,s,fun j y d=>?_,D⟩;have n:j<e.length:=(Aj.1 d).1;rw[uL H,if_neg au,if_pos au,Dw];exact d
   .simp only;rw[dx,if_neg (fun e=>q (by rw[e];rfl))]
  .obtain rfl:c=l.length:=by omega
   refine⟨.sl X.nx 0 (l.length+1) (l.length+1) true,⟨(X.h.set b Option.none).set X.nx (some (.cells (cs++e) true k)),X.nx+1⟩,?_,.inr ⟨X.nx,l.length+1,cs++e,by rw[Ai,Ax],by rw[Ai,Ax];exact Af _,by rw[Ai,t,s,Du],J,by simp,jh,au,fun i a' hi=>?_⟩,by simp,fun A g q=>?_,fun A g=>by cases g;exact .inr (Af _)⟩
   .show(bD (mY x) fun j=>bD (eS x X.h k j) fun new=>aAz (.sl b 0 l.length l.length true) bytes k j new X)=_;rw[B,aH,C,aH];show lP bytes k b 0 l.length l.length true 1 e X=_;unfold lP;have w:Nat.ble (l.length+1) l.length=false:=by rw[Ck];intro h;have:=Bd h;omega
    rw[w,aR,Al K,aL,Al L,aL,M,aH];have z:cut cs 0 (l.length * k)=some cs:=by
     unfold cut;rw[iA,iG,Di,if_pos au,Bh au]
    have S:Nat.beq (0+l.length * k) (mF cs)=true:=by rw[gJ,t,Bn];omega
    have T:Nat.beq k k=true:=Fx k;simp only[xJ,z,aH,aL,S,T,grown,fT]
   .rw[Eg] at hi;split at hi
    .rename_i f;have⟨I,u,w,z⟩:=N i a' hi;refine⟨I,u,fun j y d=>?_,z⟩;have n:j<k:=by rw[<-u];exact(Aj.1 d).1
     rw[Ak (by rw[t];exact qI f n)];exact w j y d
    .rename_i f;have o:i - l.length=0:=by
      rcases Cb (i - l.length) with o|o
      .exact o
      .rw[Bv (by simp;omega)] at hi;cases hi
     rw[o] at hi;cases hi;have r:i=l.length:=by omega
     subst r;refine⟨e,s,fun j y d=>?_,D⟩;rw[Ao au,t,Dw];exact d
   .simp only;have:A≠b:=fun e=>q (by rw[e];rfl);rw[dx,if_neg au,dx,if_neg this]
def qX.set(h:qX k E S0 X v l){a:α}{e:bu}(hi:i<l.length)(o:e.length=k)(w:E e a):
  ∃b p X',eY (.slice k) v i=some (.ptr b p)/\aN v=some b/\qZ (.ptr b p) k e X=some (.undef,X')/\qX k E S0 X' v (l.set i a)/\X'.nx=X.nx/\∀c,c≠b->X'.h.get c=X.h.get c:=by
 rcases h with⟨rfl,rfl⟩|⟨b,c,cs,rfl,x,z,A,B,C,D,F⟩
 .exact absurd hi (Bo i)
 .have r:0+i * k+e.length<=cs.length:=by
   rw[o,z,An,<-Du];exact Co k au
  refine⟨b,0+i * k,_,?_,rfl,aM4 C r o,.inr ⟨b,c,cs.take (0+i * k)++e++cs.drop (0+i * k+e.length),by rw[Ar],by rw[Ar];exact x,by simp;omega,A,B,jh,D,fun j a' g=>?_⟩,rfl,fun J d=>by simp only;rw[dx,if_neg d]⟩
  .show bX (Nat.blt i l.length) _ _=_;rw[show Nat.blt i l.length=true from Al hi,aL]
  .rw[De] at g;split at g
   .rename_i G;subst G;try rw[if_pos hi] at g
    cases g;refine⟨e,o,fun q y f=>?_,w⟩;have n:q<e.length:=(Aj.1 f).1;rw[uL r,if_neg au,if_pos au];rw[show i * k+q - (0+i * k)=q by omega];exact f
   .rename_i d;have⟨H,t,u,I⟩:=F j a' g;refine⟨H,t,fun q y f=>?_,I⟩;have n:q<k:=by rw[<-t];exact(Aj.1 f).1
    rw[uL r];rcases Nat.lt_or_gt_of_ne d with s|s
    .have:i * k+e.length<=j * k:=by
      rw[o,<-Du];exact Co k s
     rw[if_neg au,if_neg au];exact u q y f
    .rw[if_pos (by have:=qI s n;omega)];exact u q y f
def qX.shrink(h:qX k E S0 X v l)(e:l.length=n+1):∃v',(∀ (F:Fr) (hi:cQ),gL (hi.val F)=some n->rS (.slice k) v Option.none (some hi) Option.none F=some v')/\qX k E S0 X v' l.dropLast/\aN v'=aN v:=by
 rcases h with⟨rfl,rfl⟩|⟨b,c,cs,rfl,w,f,g,j,o,p,q⟩
 .cases e
 .refine⟨.sl b 0 n c true,fun F hi r=>?_,.inr ⟨b,c,cs,by rw[List.length_dropLast,e];rfl,by rw[List.length_dropLast];omega,f,g,j,o,p,fun i a d=>?_⟩,rfl⟩
  .show aFE k b 0 l.length c true Option.none (some hi) Option.none F=_;unfold aFE;have s:kT l.length c Option.none (some hi) Option.none F=some (0,n,c):=by
    unfold kT;show(bD (some c) fun m=>bD (gL (hi.val F)) fun h=>bD (some 0) fun l'=>_)=_;rw[r];simp only[aH];rw[Al (Af c),aL,Al (au:n<=c),aL,Al (Ct n),aL]
   rw[s,aH];have t:Nat.beq c 0=false:=by rw[Ck];intro h;rw[Bn] at h;omega
   simp only[t,aR,Dz,Bw,Ew];rfl
  .have u:i<l.dropLast.length:=(Aj.1 d).1;rw[List.getElem?_dropLast] at d;split at d
   .exact q i a d
   .cases d
end
def zV{x n:Int}(H:Has fns)(h:1<=n)(i:n<=1000000000):iK fns (.fn 24 [] []) [jr x,jr n] S fun r X=>jq S X/\∃y,r=jr y/\0<=y/\y<n:=by
 have d:=aFH (.p .int) (a:=x) (b:=n) au;have e:=Int.tmod_lt_of_pos x (au:0<n);have f:=Int.lt_tmod_of_pos x (au:0<n);generalize x.tmod n=y at *;refine cJ H.f24 (by simp) ?_;refine ae ?_;refine bS (ae ?_);refine bS (c8 d ?_);refine fZ (ae ?_);by_cases c:y<0
 .have g:IntKind.i64.wrap (y+n)=y+n:=wrap_i64 au au;refine aM (ja (Ac c)) ?_;refine aF (c8 g ?_);refine bS (ae ?_);refine aS (ae ?_);exact⟨dy _,y+n,rfl,au,au⟩
 .refine aK (ja (Aa c)) (aG ?_);refine ae ?_
  refine bS (ae ?_);refine aS (ae ?_);exact⟨dy _,y,rfl,au,au⟩
structure sP(X:St)(db:Nat)(lv:AV)(l:bt):Prop where
 lt:db<X.nx
 c:∃at':Nat,X.h.get db=some (.cells [lv,.int .i64 (at':Int)] false 0)/\at'<=l.length
 il:bN .i64 X lv l
 ne:aN lv≠some db
 bd:l.length<=140737488355328
def sP.move(h:sP X db b l)(d:X.nx<=X'.nx)(e:X'.h.get db=X.h.get db)(f:∀c,aN b=some c->X'.h.get c=X.h.get c):sP X' db b l:=by
 have⟨a,g,i⟩:=h.c;exact⟨Ae h.lt d,⟨a,e.trans g,i⟩,eH h.il d f,h.ne,h.bd⟩
def mN{f:AV}{n:Int}(H:Has fns)(h:sP X db f l)(M:1<=n)(N:n<=1000000000):iK fns (.fn 16 [] []) [.ptr db 0,jr n] X fun r X'=>cA db X X'/\sP X' db f l/\∃y,r=jr y/\0<=y/\y<n:=by
 have⟨a,w,U⟩:=h.c;have O:=h.bd;have sl:=bN.self h.il;refine cJ H.f16 (by simp) ?_;refine ae ?_;refine bS (ae ?_);refine aB (aB (gI ?_));by_cases x:(l.length:Int)<=(a:Int)
 .refine eu (aKK w) (aCY w) sl h.il.len @Ag (Ac (show(a:Int)≥(l.length:Int) from x)) ?_;refine aM (af) ?_;refine bS (ae ?_);refine aS (ae ?_);exact⟨⟨Br _ _,fun c _ _=>rfl⟩,h.move (Br _ _) rfl fun _ _=>rfl,0,rfl,au,au⟩
 refine eu (aKK w) (aCY w) sl h.il.len @Ag (Aa (show ¬ (a:Int)≥(l.length:Int) from x)) ?_;refine aK i7 (aG ?_);refine ae ?_
 have g:a<l.length:=by omega
 have Q:=du a
 have R:IntKind.i64.wrap (((a+1:Nat):Int) - 1)=(a:Int):=by rw[wrap_i64 au au];omega
 generalize o:(⟨X.h,X.nx+_⟩:St)=j;have J:j.h=X.h:=by rw[<-o]
 have T:X.nx<=j.nx:=by rw[<-o];exact Br _ _
 have z:j.h.get db=js [f,jr (a:Int)]:=by rw[J];exact w
 refine bS (dz (aCY z) Q ?_);refine eK (v:=.undef) (S1:=⟨j.h.set db (js [f,jr ((a+1:Nat):Int)]),j.nx⟩) (fun call=>by refine dz @dE @cF ?_;exact xY (cs:=[f,jr (a:Int)]) (p:=1) (S:=j) z (by simp)) ?_;refine ae ?_;generalize q:(⟨j.h.set db (js [f,jr ((a+1:Nat):Int)]),j.nx⟩:St)=X1;have s:X1.h.get db=js [f,jr ((a+1:Nat):Int)]:=by rw[<-q];simp only;rw[dx,if_pos rfl]
 have u:cA db X X1:=by rw[<-q];exact⟨T,fun c _ t=>by simp only;rw[dx,if_neg t,J]⟩
 have b:bN .i64 X1 f l:=eH h.il u.1 fun c i=>u.2 c (dK h.il i) fun e=>h.ne (by rw[i,e]);have B:sP X1 db f l:=⟨Ae h.lt u.1,⟨a+1,s,g⟩,b,h.ne,h.bd⟩;have K:=b.c9 g;have L:=b.ld g;have⟨V,W,C,D⟩:=bN.place b g;rw[C] at K L;have F:=B.lt;refine aB (iN (fun _=>False) ?_);intro Y x2;refine fe (aKK s) (aCY s) sl F @Ap R K L D ?_;refine dT rfl ?_;refine ae ?_;refine aW (zV H M N) ?_;rintro _ Z ⟨x3,y,rfl,G,I⟩;refine⟨x3,?_⟩
 refine aS (ae ?_);have d:=x2.trans x3;exact⟨⟨Aq u.1 d.1,fun c A t=>(d.2 c (Ae A u.1)).trans (u.2 c A t)⟩,B.move d.1 (d.2 _ B.lt) fun c i=>d.2 c (dK b i),y,rfl,G,I⟩
structure Mk where
 lvl:AV
 va:AV
 na:AV
 ia:AV
 lv:AV
 most:Int
 pend:Int
 ps:Int
 zero:Bool
 small:Bool
 dl:bt
 ce:List cD
 cg:List jL
 views:List (Int×Int×Int)
variable {m':Mk}
def PB(mb db:Nat)(m:Mk)(c:Nat):Prop:=c≠mb/\c≠db/\aN m.na≠some c/\aN m.ia≠some c/\aN m.va≠some c
def gK(mb db:Nat)(m:Mk)(X:St)(m':Mk)(X':St):Prop:=X.nx<=X'.nx/\∀c,c<X.nx->PB mb db m c->X'.h.get c=X.h.get c/\PB mb db m' c
def gK.refl{m:Mk}:gK mb db m X m X:=⟨Af _,fun _ _ h=>⟨rfl,h⟩⟩
def gK.trans{m d:Mk}{X'':St}(h:gK mb db m X m' X')(h':gK mb db m' X' d X''):gK mb db m X d X'':=
 ⟨Aq h.1 h'.1,fun c e f=>by
  have⟨a,b⟩:=h.2 c e f;have⟨a',g⟩:=h'.2 c (Ae e h.1) b;exact⟨a'.trans a,g⟩⟩
def gK.jo{m:Mk}(h:jq X X'):gK mb db m X m X':=⟨h.1,fun c a b=>⟨h.2 c a,b⟩⟩
def aM9(mb db:Nat)(P:Nat->Prop)(m:Mk)(X:St)(m':Mk)(X':St):Prop:=X.nx<=X'.nx/\∀c,c<X.nx->PB mb db m c->P c->X'.h.get c=X.h.get c/\PB mb db m' c
def gK.p{m:Mk}(h:gK mb db m X m' X'):aM9 mb db P m X m' X':=⟨h.1,fun c a b _=>h.2 c a b⟩
def aM9.np{m:Mk}(h:aM9 mb db P m X m' X'):∀c,c<X.nx->(PB mb db m c/\P c)->X'.h.get c=X.h.get c/\(PB mb db m' c/\P c):=fun c b a=>⟨(h.2 c b a.1 a.2).1,(h.2 c b a.1 a.2).2,a.2⟩
def PlE(_:St)(cs:bu)(a:Int×Int×Int):Prop:=cs= [jr a.1,jr a.2.1,jr a.2.2]
def aIT(cs:bu)(a:jL):Prop:=cs= [jr a.jl,jr a.cm]
def VwE(X:St)(P:Nat->Prop)(cs:bu)(a:Int×Int×Int):Prop:=∃b l,cs= [jr a.1,jr a.2.1,b,jr a.2.2]/\bN .i64 X b l/\l.length<=1000/\∀c,aN b=some c->P c
def VwE.move{e:bu}{a:Int×Int×Int}(h:VwE X P e a)(i:X.nx<=X'.nx)(f:∀c,c<X.nx->P c->X'.h.get c=X.h.get c/\P' c):VwE X' P' e a:=by
 obtain⟨j,l,rfl,d,n,g⟩:=h;exact⟨j,l,rfl,eH d i fun c b=>(f c (dK d b) (g c b)).1,n,fun c b=>(f c (dK d b) (g c b)).2⟩
structure MkP(P:Nat->Prop)(S0 X:St)(mb db:Nat)(m:Mk)(LV:List (Int×Int×Int)):Prop where
 lt:mb<X.nx
 ge:S0.nx<=mb
 dge:S0.nx<=db
 ne:mb≠db
 dr:sP X db m.lv m.dl
 dp:∀c,aN m.lv=some c->PB mb db m c/\P c
 lev:aE 3 PlE X m.lvl LV
 levp:∀c,aN m.lvl=some c->PB mb db m c/\P c
 nod:qX 6 (aBs X fun c=>PB mb db m c/\P c) S0 X m.na m.ce
 inf:qX 2 aIT S0 X m.ia m.cg
 vw:qX 4 (VwE X fun c=>PB mb db m c/\P c) S0 X m.va m.views
 d1:∀c,aN m.na=some c->c≠mb/\c≠db/\aN m.ia≠some c/\aN m.va≠some c
 d2:∀c,aN m.ia=some c->c≠mb/\c≠db/\aN m.va≠some c
 d3:∀c,aN m.va=some c->c≠mb/\c≠db
def fE(db:Nat)(m:Mk):bu:=[.ptr db 0,m.lvl,m.va,jr m.most,jr m.pend,.bool m.zero,.bool m.small,jr m.ps,m.na,m.ia]
structure nS(P:Nat->Prop)(S0 X:St)(mb db:Nat)(m:Mk)(LV:List (Int×Int×Int)):Prop where
 p:MkP P S0 X mb db m LV
 g:X.h.get mb=some (.cells (fE db m) false 0)
section
variable {P:Nat->Prop}{S0 X X':St}{mb db:Nat}{m m':Mk}{LV:List (Int×Int×Int)}
def aDr{k:Nat}{α:Type}{E:St->bu->α->Prop}{l:List α}(h:aE k E X v l)(a:aN v=some c):c<X.nx:=by
 rcases h with⟨_,rfl|rfl⟩|⟨b,off,cap,o,cs,rfl,_,d,_⟩
 .cases a
 .cases a
 .cases a;exact d
def MkP.of(h:MkP P S0 X mb db m LV)(K:aM9 mb db P m X m' X')(g:m'.lvl=m.lvl)(i:m'.lv=m.lv)(j:m'.dl=m.dl)(b:sP X' db m.lv m.dl)(d:qX 6 (aBs X' fun c=>PB mb db m' c/\P c) S0 X' m'.na m'.ce)(e:qX 2 aIT S0 X' m'.ia m'.cg)(f:qX 4 (VwE X' fun c=>PB mb db m' c/\P c) S0 X' m'.va m'.views)
  (d1:∀c,aN m'.na=some c->c≠mb/\c≠db/\aN m'.ia≠some c/\aN m'.va≠some c) (d2:∀c,aN m'.ia=some c->c≠mb/\c≠db/\aN m'.va≠some c) (d3:∀c,aN m'.va=some c->c≠mb/\c≠db):MkP P S0 X' mb db m' LV where
 lt:=Ae h.lt K.1
 ge:=h.ge
 dge:=h.dge
 ne:=h.ne
 dr:=by rw[i,j];exact b
 dp:=fun c a=>by rw[i] at a;exact(K.np c (dK h.dr.il a) (h.dp c a)).2
 lev:=by rw[g];exact aE.moveB h.lev K.1 (fun c a=>(K.np c (aDr h.lev a) (h.levp c a)).1) fun _ _ h=>h
 levp:=fun c a=>by rw[g] at a;exact(K.np c (aDr h.lev a) (h.levp c a)).2
 nod:=d
 inf:=e
 vw:=f
 d1:=d1
 d2:=d2
 d3:=d3
def MkP.keep(h:MkP P S0 X mb db m LV)(d:X.nx<=X'.nx)(i:∀c,c<X.nx->c≠mb->c≠db->X'.h.get c=X.h.get c)(n:sP X' db m.lv m.dl)(q:m'.lvl=m.lvl)(r:m'.lv=m.lv)(s:m'.dl=m.dl)(o:m'.na=m.na)(t:m'.ce=m.ce)(j:m'.ia=m.ia)(u:m'.cg=m.cg)(f:m'.va=m.va)(w:m'.views=m.views):MkP P S0 X' mb db m' LV/\gK mb db m X m' X':=by
 have K:gK mb db m X m' X':=⟨d,fun c b p=>⟨i c b p.1 p.2.1,by unfold PB;rw[o,j,f];exact p⟩⟩;refine⟨h.of K.p q r s n ?_ ?_ ?_ ?_ ?_ ?_,K⟩
 .rw[o,t];exact h.nod.move d (fun c b=>i c (h.nod.blk b).2 (h.d1 c b).1 (h.d1 c b).2.1) fun e a g=>g.move d (gK.p K).np
 .rw[j,u];exact h.inf.move d (fun c b=>i c (h.inf.blk b).2 (h.d2 c b).1 (h.d2 c b).2.1) fun e a g=>g
 .rw[f,w];exact h.vw.move d (fun c b=>i c (h.vw.blk b).2 (h.d3 c b).1 (h.d3 c b).2) fun e a g=>g.move d (gK.p K).np
 .rw[o,j,f];exact h.d1
 .rw[j,f];exact h.d2
 .rw[f];exact h.d3
def nS.jo(h:nS P S0 X mb db m LV)(a:jq X X'):nS P S0 X' mb db m LV:=
 ⟨(h.p.keep a.1 (fun c b _ _=>a.2 c b) (h.p.dr.move a.1 (a.2 _ h.p.dr.lt) fun c b=>a.2 c (dK h.p.dr.il b)) rfl rfl rfl rfl rfl rfl rfl rfl rfl).1,(a.2 _ h.p.lt).trans h.g⟩
def nS.drawn(h:nS P S0 X mb db m LV)(d:cA db X X')(e:sP X' db m.lv m.dl):nS P S0 X' mb db m LV/\gK mb db m X m X':=by
 have⟨a,b⟩:=h.p.keep (m':=m) d.1 (fun c f _ g=>d.2 c f g) e rfl rfl rfl rfl rfl rfl rfl rfl rfl;exact⟨⟨a,(d.2 _ h.p.lt h.p.ne).trans h.g⟩,b⟩
def MkP.put(h:MkP P S0 X mb db m LV)(g:X'.h.get mb=js (fE db m))(d:X.nx<=X'.nx)(b:∀c,c<X.nx->c≠mb->X'.h.get c=X.h.get c):nS P S0 X' mb db m LV:=
 ⟨(h.keep (m':=m) d (fun c a e _=>b c a e) (h.dr.move d (b _ h.dr.lt h.ne.symm) fun c a=>b c (dK h.dr.il a) (h.dp c a).1.1) rfl rfl rfl rfl rfl rfl rfl rfl rfl).1,g⟩
def nS.local(h:nS P S0 X mb db m LV)(f:X.nx<=X'.nx)(g:∀c,c<X.nx->(¬PB mb db m c\/P c)->X'.h.get c=X.h.get c):nS P S0 X' mb db m LV:=by
 have K:aM9 mb db P m X m X':=⟨f,fun c b d j=>⟨g c b (.inr j),d⟩⟩;refine⟨h.p.of K rfl rfl rfl (h.p.dr.move f (g _ h.p.dr.lt (.inl fun d=>d.2.1 rfl)) fun c b=>g c (dK h.p.dr.il b) (.inr (h.p.dp c b).2)) (h.p.nod.move f (fun c b=>g c (h.p.nod.blk b).2 (.inl fun d=>d.2.2.1 b)) fun e a i=>i.move f K.np) (h.p.inf.move f (fun c b=>g c (h.p.inf.blk b).2 (.inl fun d=>d.2.2.2.1 b)) fun e a i=>i) (h.p.vw.move f (fun c b=>g c (h.p.vw.blk b).2 (.inl fun d=>d.2.2.2.2 b)) fun e a i=>i.move f K.np) h.p.d1 h.p.d2 h.p.d3,?_⟩;exact(g _ h.p.lt (.inl fun d=>d.1 rfl)).trans h.g
def MkP.mono(h:MkP P S0 X mb db m LV)(f:∀c,c<X.nx->P c->P' c):MkP P' S0 X mb db m LV where
 lt:=h.lt
 ge:=h.ge
 dge:=h.dge
 ne:=h.ne
 dr:=h.dr
 dp:=fun c b=>⟨(h.dp c b).1,f c (dK h.dr.il b) (h.dp c b).2⟩
 lev:=h.lev
 levp:=fun c b=>⟨(h.levp c b).1,f c (aDr h.lev b) (h.levp c b).2⟩
 nod:=h.nod.move (Af _) (fun _ _=>rfl) fun e a g=>g.move (Af _) fun c b d=>⟨rfl,d.1,f c b d.2⟩
 inf:=h.inf
 vw:=h.vw.move (Af _) (fun _ _=>rfl) fun e a g=>g.move (Af _) fun c b d=>⟨rfl,d.1,f c b d.2⟩
 d1:=h.d1
 d2:=h.d2
 d3:=h.d3
def nS.mono(h:nS P S0 X mb db m LV)(a:∀c,c<X.nx->P c->P' c):nS P' S0 X mb db m LV:=⟨h.p.mono a,h.g⟩
def MkP.pushN(h:MkP P S0 X mb db m LV){l':List cD}(d:X.nx<=X'.nx)(i:∀c,c<X.nx->aN m.na≠some c->X'.h.get c=X.h.get c)(n:∀c,aN v'=some c->aN m.na=some c\/X.nx<=c)(o:qX 6 (aBs X fun c=>PB mb db m c/\P c) S0 X' v' l'):MkP P S0 X' mb db {m with na:=v',ce:=l'} LV/\gK mb db m X {m with na:=v',ce:=l'} X':=by
 have K:gK mb db m X {m with na:=v',ce:=l'} X':=⟨d,fun c b f=>⟨i c b f.2.2.1,f.1,f.2.1,fun e=>(n c e).elim (fun g=>f.2.2.1 g) fun g=>absurd b (Nat.not_lt.2 g),f.2.2.2.1,f.2.2.2.2⟩⟩;have old:∀ {c},aN m.na=some c->c<X.nx:=fun b=>(h.nod.blk b).2;refine⟨h.of K.p rfl rfl rfl (h.dr.move d (i _ h.dr.lt fun e=>(h.d1 _ e).2.1 rfl) fun c b=>i c (dK h.dr.il b) (h.dp c b).1.2.2.1) (o.move (Af _) (fun _ _=>rfl) fun e a j=>j.move d (gK.p K).np) (h.inf.move d (fun c b=>i c (h.inf.blk b).2 fun e=>(h.d1 c e).2.2.1 b) fun e a j=>j) (h.vw.move d (fun c b=>i c (h.vw.blk b).2 fun e=>(h.d1 c e).2.2.2 b) fun e a j=>j.move d (gK.p K).np) (fun c b=>?_) h.d2 h.d3,K⟩;rcases n c b with g|g
 .exact h.d1 c g
 .exact⟨ax h.lt,ax h.dr.lt,fun e=>by have:=(h.inf.blk e).2;omega,fun e=>by have:=(h.vw.blk e).2;omega⟩
def MkP.pushI(h:MkP P S0 X mb db m LV){l':List jL}(f:X.nx<=X'.nx)(i:∀c,c<X.nx->aN m.ia≠some c->X'.h.get c=X.h.get c)(j:∀c,aN v'=some c->aN m.ia=some c\/X.nx<=c)(o:qX 2 aIT S0 X' v' l'):MkP P S0 X' mb db {m with ia:=v',cg:=l'} LV/\gK mb db m X {m with ia:=v',cg:=l'} X':=by
 have K:gK mb db m X {m with ia:=v',cg:=l'} X':=⟨f,fun c b g=>⟨i c b g.2.2.2.1,g.1,g.2.1,g.2.2.1,fun e=>(j c e).elim (fun d=>g.2.2.2.1 d) fun d=>absurd b (Nat.not_lt.2 d),g.2.2.2.2⟩⟩;refine⟨h.of K.p rfl rfl rfl (h.dr.move f (i _ h.dr.lt fun e=>(h.d2 _ e).2.1 rfl) fun c b=>i c (dK h.dr.il b) (h.dp c b).1.2.2.2.1) (h.nod.move f (fun c b=>i c (h.nod.blk b).2 (h.d1 c b).2.2.1) fun e a n=>n.move f (gK.p K).np) o (h.vw.move f (fun c b=>i c (h.vw.blk b).2 fun e=>(h.d2 c e).2.2 b) fun e a n=>n.move f (gK.p K).np) (fun c b=>⟨(h.d1 c b).1,(h.d1 c b).2.1,fun e=>?_,(h.d1 c b).2.2.2⟩) (fun c b=>?_) h.d3,K⟩
 .rcases j c e with d|d
  .exact(h.d1 c b).2.2.1 d
  .have:=(h.nod.blk b).2;omega
 .rcases j c b with d|d
  .exact h.d2 c d
  .exact⟨ax h.lt,ax h.dr.lt,fun e=>by have:=(h.vw.blk e).2;omega⟩
def MkP.pushV(h:MkP P S0 X mb db m LV){l':List (Int×Int×Int)}(f:X.nx<=X'.nx)(i:∀c,c<X.nx->aN m.va≠some c->X'.h.get c=X.h.get c)(n:∀c,aN v'=some c->aN m.va=some c\/X.nx<=c)(o:qX 4 (VwE X fun c=>PB mb db m c/\P c) S0 X' v' l'):MkP P S0 X' mb db {m with va:=v',views:=l'} LV/\gK mb db m X {m with va:=v',views:=l'} X':=by
 have K:gK mb db m X {m with va:=v',views:=l'} X':=⟨f,fun c b g=>⟨i c b g.2.2.2.2,g.1,g.2.1,g.2.2.1,g.2.2.2.1,fun e=>(n c e).elim (fun d=>g.2.2.2.2 d) fun d=>absurd b (Nat.not_lt.2 d)⟩⟩;refine⟨h.of K.p rfl rfl rfl (h.dr.move f (i _ h.dr.lt fun e=>(h.d3 _ e).2 rfl) fun c b=>i c (dK h.dr.il b) (h.dp c b).1.2.2.2.2) (h.nod.move f (fun c b=>i c (h.nod.blk b).2 (h.d1 c b).2.2.2) fun e a j=>j.move f (gK.p K).np) (h.inf.move f (fun c b=>i c (h.inf.blk b).2 (h.d2 c b).2.2) fun e a j=>j) (o.move (Af _) (fun _ _=>rfl) fun e a j=>j.move f (gK.p K).np) (fun c b=>⟨(h.d1 c b).1,(h.d1 c b).2.1,(h.d1 c b).2.2.1,fun e=>?_⟩) (fun c b=>⟨(h.d2 c b).1,(h.d2 c b).2.1,fun e=>?_⟩) (fun c b=>?_),K⟩
 .rcases n c e with d|d
  .exact(h.d1 c b).2.2.2 d
  .have:=(h.nod.blk b).2;omega
 .rcases n c e with d|d
  .exact(h.d2 c b).2.2 d
  .have:=(h.inf.blk b).2;omega
 .rcases n c b with d|d
  .exact h.d3 c d
  .exact⟨ax h.lt,ax h.dr.lt⟩
end
def aUF(X:St)(F:Fr)(db:Nat)(a pv:AV)(dl:bt)(F':Fr)(Z:St)(ps:List jD):Prop:=∃w:Int, -3<=w/\w<=3/\ps= [⟨8,X.nx+8,.cells [jr w] false 0⟩]/\X.nx+12<=Z.nx/\cA db X Z/\sP Z db a dl/\(∀j,j<6->aA j F'=aA j F)/\aA 17 F'=pv/\aA 24 F'= .sl (X.nx+8) 0 1 1 false
def aNe{m:Mk}{k p f xw:AV}(H:Has fns)(he:g=aOb++aNV)(d:nS P S0 X mb db m LV)(p0:aA 0 F= .ptr mb 0)(p4:aA 4 F= .ptr xb 0)(gx:X.h.get xb=js [k,p,f,xa,xw,pv])(I:PB mb db m xb/\¬P xb)(lx:xb<Y0.nx)(hY:Y0.nx<=X.nx)(C:fC 1 Y0 X pv l.length (aQ l))(J:∀c,aN pv=some c->PB mb db m c/\¬P c)(hP:∀c,X.nx<=c->¬P c)(hl:l.length<=1000)
  (hQ:∀F' Z pv' w,(∀j,j<6->aA j F'=aA j F)->nS P S0 Z mb db m LV->X.nx<=Z.nx->(∀c,c<X.nx->PB mb db m c->c≠xb->aN pv≠some c->Z.h.get c=X.h.get c)->Z.h.get xb=js [k,p,f,xa,xw,pv']->fC 1 Y0 Z pv' (l++ [w]).length (aQ (l++ [w]))->(∀c,aN pv'=some c->X.nx<=c)-> -3<=w->w<=3->Q .normal ⟨F',inr⟩ Z):jN fns (.drw g) ⟨F,inr⟩ X Q:=by
 have aV:g.length=12:=by rw[he];rfl
 have s:xb<X.nx:=Ae lx hY;have L:=d.p.lt;have u:xb≠db:=I.1.2.1;have M:=d.p.ne;have N:=cM (p:=0) d.g rfl;have sp:=C.self;refine qA (W:=fun c=>c=db) (K:=9) (R:=aUF X F db m.lv pv m.dl) he rfl rfl (fun X1 x1 aZ a0=>?_) ?_
 .have O:=cM (p:=5) gx rfl;unfold aOb;refine ff p0 p4 O N sp s L u M @Ap ?_;refine jH rfl ?_;refine ae ?_;refine aW (mN H (d.jo x1).p.dr (n:=7) az az) ?_;rintro _ X2 ⟨x2,d2,y,rfl,y1,y2⟩;refine⟨⟨x2.1,fun c a o=>x2.2 c (Ae a x1.1) o⟩,?_⟩;have T:IntKind.i64.wrap (y - 3)=y - 3:=wrap_i64 au au;have Y:=fun(F:Fr) (id:Nat) (h:aA 23 F=jr (y - 3))=>lD (t:=3) (z:=jr 0) (x:=.t 23) (F:=F) (id:=id) (k:=.i64) (n:=y - 3) h;refine dz T Y ?_;refine⟨y - 3,au,au,af,(by have h9:X1.nx<=X2.nx:=x2.1;omega),⟨Aq x1.1 x2.1,fun c a o=>(x2.2 c (Ae a x1.1) o).trans (x1.2 c a)⟩,d2,fun j hj=>?_,af,af⟩;have:j=0\/j=1\/j=2\/j=3\/j=4\/j=5:=by omega
  rcases this with rfl|rfl|rfl|rfl|rfl|rfl<;>simp only[↓sU,sD,rE,↓reduceIte,rA]
 rintro F' S' ps hs ls ⟨w,T,w2,rfl,nZ,D,dZ,hk,pA,pB⟩ q aa;have ab:aA 4 F'= .ptr xb 0:=(hk 4 au).trans p4;have m1:∀i,i<9->Nat.testBit 511 i=true:=by decide
 have ac:=(d.drawn D dZ).1;obtain⟨U,G⟩:∃U:St,U=⟨S'.h.set (X.nx+8) (js [jr w]),S'.nx⟩:=⟨_,rfl⟩;have nU:U.nx=S'.nx:=by rw[G]
 have kU:∀c,c≠X.nx+8->U.h.get c=S'.h.get c:=fun c a=>by rw[G];simp only;rw[dx,if_neg a]
 have gU:U.h.get (X.nx+8)=js [jr w]:=by rw[G];simp only;rw[dx,if_pos rfl]
 have b:∀ {c},aN pv=some c->Y0.nx<=c/\c<X.nx:=fun a=>⟨(C.blk a).1,(C.blk a).2.1⟩;have an:fC 1 ⟨U.h,Y0.nx⟩ U pv l.length (aQ l):=C.move au fun c a=>by
  rw[kU c (by have:=(b a).2;omega)];exact D.2 c (b a).2 (J c a).1.2.1
 have⟨pv',V,eA,gA,bA,nA,rA⟩:=fC.push (bytes:=8) (t:=X.nx+8) (w:=w) an ⟨by show Y0.nx<=U.nx;omega,fun _ _=>rfl⟩ gU ay ay;have ao:S'.h.get xb=js [k,p,f,xa,xw,pv]:=(D.2 xb s u).trans gx;have aw:V.h.get xb=js [k,p,f,xa,xw,pv]:=by
  rw[rA xb au (fun e=>by have:=(b e).1;omega),kU xb au];exact ao
 have A:∀ {c},aN pv'=some c->c=U.nx:=fun a=>by rw[bA] at a;exact(Bk a).symm
 unfold aNV;refine iS (v:=pv') (S1:=V) (q _ m1) (fun call=>?_) ?_
 .rw[cK (az:Nat.testBit 511 8=true),fB];simp only[fO,pA,pB];rw[<-G];exact eA
 rw[cK (az:Nat.testBit 511 8=true)];simp only[iT,dJ,aU,aT,cP,aR,fO,bK,bE,ab,rE,↓reduceIte,rA];have aI:pv'.cells=some [pv']:=fC.cells gA;refine iS (v:=.undef) (S1:=⟨V.h.set xb (js [k,p,f,xa,xw,pv']),V.nx⟩) (az:Nat.testBit 2047 9=true) (fun call=>?_) ?_
 .rw[dE];simp only[fO,bE,rE,↓reduceIte,bK,aI,aH];exact xY (cs:=[k,p,f,xa,xw,pv]) (p:=5) (S:=V) aw (by simp)
 rw[iL];refine⟨?_,?_⟩
 .simp only[Cg,Bg,Cr,Ci,Bu];exact aa _ _ _ m1
 .simp only[bK,fK];have kV:∀c,c<S'.nx->c≠X.nx+8->c≠xb->aN pv≠some c->(V.h.set xb (js [k,p,f,xa,xw,pv'])).get c=S'.h.get c:=fun c a h1 h2 h3=>by
   rw[dx,if_neg h2,rA c au h3,kU c h1]
  refine hQ _ _ pv' w (fun j hj=>?_) (ac.local (by show S'.nx<=V.nx;omega) fun c a r=>?_) (by show X.nx<=V.nx;omega) (fun c a hp h1 h2=>?_) jh ?_ (fun c a=>by have:=A a;omega) T w2
  .rw[bE,if_neg au,bE,if_neg au];exact hk j hj
  .refine kV c a (fun e=>?_) (fun e=>?_) (fun e=>?_)
   .rcases r with h|h
    .refine h ⟨au,?_,fun B=>?_,fun B=>?_,fun B=>?_⟩
     .have:=d.p.dr.lt;omega
     .have:=(d.p.nod.blk B).2;omega
     .have:=(d.p.inf.blk B).2;omega
     .have:=(d.p.vw.blk B).2;omega
    .exact hP c au h
   .rcases r with h|h
    .exact h (by rw[e];exact I.1)
    .exact I.2 (by rw[<-e];exact h)
   .rcases r with h|h
    .exact h (J c e).1
    .exact(J c e).2 h
  .simp only;rw[kV c au au  h1 h2];exact D.2 c a hp.2.1
  .refine fC.move (S:=V) (by exact gA) (Af _) fun c a=>?_;have:=A a;simp only;rw[dx,if_neg au]
def aTc(X:St)(F:Fr)(db:Nat)(a pv:AV)(dl:bt)(F':Fr)(Z:St)(ps:List jD):Prop:=∃w:Int,1<=w/\w<=3/\ps= [⟨8,X.nx+8,.cells [jr w] false 0⟩]/\X.nx+12<=Z.nx/\cA db X Z/\sP Z db a dl/\(∀j,j<16->aA j F'=aA j F)/\aA 140 F'=pv/\aA 147 F'= .sl (X.nx+8) 0 1 1 false
def aOd{m:Mk}{k p f xp:AV}(H:Has fns)(he:g=aN3++aNp)(d:nS P S0 X mb db m LV)(p0:aA 0 F= .ptr mb 0)(p4:aA 11 F= .ptr xb 0)(gx:X.h.get xb=js [k,p,f,xa,pv,xp])(I:PB mb db m xb/\¬P xb)(lx:xb<Y0.nx)(hY:Y0.nx<=X.nx)(C:fC 1 Y0 X pv l.length (aQ l))(J:∀c,aN pv=some c->PB mb db m c/\¬P c)(hP:∀c,X.nx<=c->¬P c)(hl:l.length<=1000)
  (hQ:∀F' Z pv' w,(∀j,j<16->aA j F'=aA j F)->nS P S0 Z mb db m LV->X.nx<=Z.nx->(∀c,c<X.nx->PB mb db m c->c≠xb->aN pv≠some c->Z.h.get c=X.h.get c)->Z.h.get xb=js [k,p,f,xa,pv',xp]->fC 1 Y0 Z pv' (l++ [w]).length (aQ (l++ [w]))->(∀c,aN pv'=some c->X.nx<=c)->1<=w->w<=3->Q .normal ⟨F',inr⟩ Z):jN fns (.drw g) ⟨F,inr⟩ X Q:=by
 have aV:g.length=12:=by rw[he];rfl
 have s:xb<X.nx:=Ae lx hY;have L:=d.p.lt;have u:xb≠db:=I.1.2.1;have M:=d.p.ne;have N:=cM (p:=0) d.g rfl;have sp:=C.self;refine qA (W:=fun c=>c=db) (K:=9) (R:=aTc X F db m.lv pv m.dl) he rfl rfl (fun X1 x1 aZ a0=>?_) ?_
 .have O:=cM (p:=4) gx rfl;unfold aN3;refine ff p0 p4 O N sp s L u M @Ap ?_;refine jH rfl ?_;refine ae ?_;refine aW (mN H (d.jo x1).p.dr (n:=3) az az) ?_;rintro _ X2 ⟨x2,d2,y,rfl,y1,y2⟩;refine⟨⟨x2.1,fun c a o=>x2.2 c (Ae a x1.1) o⟩,?_⟩;have T:IntKind.i64.wrap (1+y)=1+y:=wrap_i64 au au;have Y:=fun(F:Fr) (id:Nat) (h:aA 146 F=jr (1+y))=>lD (t:=3) (z:=jr 0) (x:=.t 146) (F:=F) (id:=id) (k:=.i64) (n:=1+y) h;refine dz T Y ?_;refine⟨1+y,au,au,af,(by have h9:X1.nx<=X2.nx:=x2.1;omega),⟨Aq x1.1 x2.1,fun c a o=>(x2.2 c (Ae a x1.1) o).trans (x1.2 c a)⟩,d2,fun j hj=>?_,af,af⟩;have:j=0\/j=1\/j=2\/j=3\/j=4\/j=5\/j=6\/j=7\/j=8\/j=9\/j=10\/j=11\/j=12\/j=13\/j=14\/j=15:=by omega
  rcases this with rfl|rfl|rfl|rfl|rfl|rfl|rfl|rfl|rfl|rfl|rfl|rfl|rfl|rfl|rfl|rfl<;>simp only[↓sU,sD,rE,↓reduceIte,rA]
 rintro F' S' ps hs ls ⟨w,T,w2,rfl,nZ,D,dZ,hk,pA,pB⟩ q aa;have ab:aA 11 F'= .ptr xb 0:=(hk 11 au).trans p4;have m1:∀i,i<9->Nat.testBit 511 i=true:=by decide
 have ac:=(d.drawn D dZ).1;obtain⟨U,G⟩:∃U:St,U=⟨S'.h.set (X.nx+8) (js [jr w]),S'.nx⟩:=⟨_,rfl⟩;have nU:U.nx=S'.nx:=by rw[G]
 have kU:∀c,c≠X.nx+8->U.h.get c=S'.h.get c:=fun c a=>by rw[G];simp only;rw[dx,if_neg a]
 have gU:U.h.get (X.nx+8)=js [jr w]:=by rw[G];simp only;rw[dx,if_pos rfl]
 have b:∀ {c},aN pv=some c->Y0.nx<=c/\c<X.nx:=fun a=>⟨(C.blk a).1,(C.blk a).2.1⟩;have an:fC 1 ⟨U.h,Y0.nx⟩ U pv l.length (aQ l):=C.move au fun c a=>by
  rw[kU c (by have:=(b a).2;omega)];exact D.2 c (b a).2 (J c a).1.2.1
 have⟨pv',V,eA,gA,bA,nA,rA⟩:=fC.push (bytes:=8) (t:=X.nx+8) (w:=w) an ⟨by show Y0.nx<=U.nx;omega,fun _ _=>rfl⟩ gU ay ay;have ao:S'.h.get xb=js [k,p,f,xa,pv,xp]:=(D.2 xb s u).trans gx;have aw:V.h.get xb=js [k,p,f,xa,pv,xp]:=by
  rw[rA xb au (fun e=>by have:=(b e).1;omega),kU xb au];exact ao
 have A:∀ {c},aN pv'=some c->c=U.nx:=fun a=>by rw[bA] at a;exact(Bk a).symm
 unfold aNp;refine iS (v:=pv') (S1:=V) (q _ m1) (fun call=>?_) ?_
 .rw[cK (az:Nat.testBit 511 8=true),fB];simp only[fO,pA,pB];rw[<-G];exact eA
 rw[cK (az:Nat.testBit 511 8=true)];simp only[iT,dJ,aU,aT,cP,aR,fO,bK,bE,ab,rE,↓reduceIte,rA];have aI:pv'.cells=some [pv']:=fC.cells gA;refine iS (v:=.undef) (S1:=⟨V.h.set xb (js [k,p,f,xa,pv',xp]),V.nx⟩) (az:Nat.testBit 2047 9=true) (fun call=>?_) ?_
 .rw[dE];simp only[fO,bE,rE,↓reduceIte,bK,aI,aH];exact xY (cs:=[k,p,f,xa,pv,xp]) (p:=4) (S:=V) aw (by simp)
 rw[iL];refine⟨?_,?_⟩
 .simp only[Cg,Bg,Cr,Ci,Bu];exact aa _ _ _ m1
 .simp only[bK,fK];have kV:∀c,c<S'.nx->c≠X.nx+8->c≠xb->aN pv≠some c->(V.h.set xb (js [k,p,f,xa,pv',xp])).get c=S'.h.get c:=fun c a h1 h2 h3=>by
   rw[dx,if_neg h2,rA c au h3,kU c h1]
  refine hQ _ _ pv' w (fun j hj=>?_) (ac.local (by show S'.nx<=V.nx;omega) fun c a r=>?_) (by show X.nx<=V.nx;omega) (fun c a hp h1 h2=>?_) jh ?_ (fun c a=>by have:=A a;omega) T w2
  .rw[bE,if_neg au,bE,if_neg au];exact hk j hj
  .refine kV c a (fun e=>?_) (fun e=>?_) (fun e=>?_)
   .rcases r with h|h
    .refine h ⟨au,?_,fun B=>?_,fun B=>?_,fun B=>?_⟩
     .have:=d.p.dr.lt;omega
     .have:=(d.p.nod.blk B).2;omega
     .have:=(d.p.inf.blk B).2;omega
     .have:=(d.p.vw.blk B).2;omega
    .exact hP c au h
   .rcases r with h|h
    .exact h (by rw[e];exact I.1)
    .exact I.2 (by rw[<-e];exact h)
   .rcases r with h|h
    .exact h (J c e).1
    .exact(J c e).2 h
  .simp only;rw[kV c au au  h1 h2];exact D.2 c a hp.2.1
  .refine fC.move (S:=V) (by exact gA) (Af _) fun c a=>?_;have:=A a;simp only;rw[dx,if_neg au]
noncomputable def aTU:List AO:=[oq 39 (.dd 5 (.t 4)),
om 40 1 (ld 39),
oq 41 (.dd 5 (.t 4)),
om 42 4 (ld 41),
om 43 12 (.c9 (.slice 1) (.t 42) (ci 0)),
om 44 28 (ld 43),
om 45 60 (.un .neg (.t 44)),
om 46 127 (.c9 (.slice 1) (.t 40) (ci 1))]
noncomputable def aTF:List AO:=[mt 47 0,
om 48 1 (.cw (.t 47)),
om 49 3 (.dd 7 (.t 48)),
om 50 7 (.dd 1 (.t 49)),
om 51 15 (ld 50),
mt 52 1,
oq 53 (.ld true 6 (.t 4)),
om 54 127 (.c9 (.slice 6) (.t 51) (.t 52))]
def MkP.fresh{m:Mk}(h:MkP P S0 X mb db m LV)(a:X.nx<=c):PB mb db m c:=
 ⟨ax h.lt,ax h.dr.lt,fun e=>by have:=(h.nod.blk e).2;omega,fun e=>by have:=(h.inf.blk e).2;omega,fun e=>by have:=(h.vw.blk e).2;omega⟩
def nS.setN{m:Mk}{e:bu}{x:cD}(h:nS P S0 X mb db m LV)(hi:i<m.ce.length)(g:aBs X (fun c=>PB mb db m c/\P c) e x):
  ∃b p X',eY (.slice 6) m.na i=some (.ptr b p)/\b<X.nx/\qZ (.ptr b p) 6 e X=some (.undef,X')/\X'.nx=X.nx/\nS P S0 X' mb db {m with ce:=m.ce.set i x} LV/\gK mb db m X {m with ce:=m.ce.set i x} X':=by
 have a:e.length=6:=by obtain⟨_,_,_,rfl,_⟩:=g;rfl
 have⟨b,p,X',n,d,o,q,r,j⟩:=h.p.nod.set hi a g;have s:=(h.p.nod.blk d).2;have⟨t,u⟩:=h.p.pushN (v':=m.na) (l':=m.ce.set i x) (X':=X') au (fun c _ f=>j c fun e=>f (by rw[e];exact d)) (fun c f=>.inl f) q;exact⟨b,p,X',n,s,o,r,⟨t,(j mb fun e=>(h.p.d1 b d).1 e.symm).trans h.g⟩,u⟩
structure aP7(ps:Int)(x:cD):Prop where
 jk:x.jk=3
 jl:x.jl=0
 jj:x.jj=0
 ji:x.ji= []
 wts:x.jm= []
 len:(x.jn.length:Int)=ps
 jn:∀w∈x.jn, -3<=w/\w<=3
def aSv{F:Fr}{h:Ev.T AB}{a:Int}:iC (.build [jr 0,jr 0,jr 0,.cr,.cr,.cr] [(0,1,.c (jr a))]) F h=some (.agg [jr a,jr 0,jr 0,.cr,.cr,.cr]):=rfl
def aTu(P:Nat->Prop)(S0 X a:St)(mb db at_:Nat)(m:Mk)(LV:List (Int×Int×Int))(k:Nat)(A:bO)(Y:St):Prop:=A.inr=false/\nS P S0 Y mb db m LV/\a.nx<=Y.nx/\(∀c,c<X.nx->PB mb db m c->Y.h.get c=X.h.get c)/\∃ (pv:AV) (l:bt),l.length+k=m.ps.toNat/\(∀w∈l, -3<=w/\w<=3)/\Y.h.get X.nx=js [jr 3,jr 0,jr 0,.cr,.cr,pv]/\fC 1 a Y pv l.length (aQ l)/\(∀c,aN pv=some c->PB mb db m c)/\aA 0 A.F= .ptr mb 0/\aA 1 A.F=jr (at_:Int)/\aA 4 A.F= .ptr X.nx 0/\aA 5 A.F=jr (l.length:Int)
def aLV{at_:Nat}{m:Mk}(H:Has fns)(hM:nS P S0 X mb db m LV)(ab:at_<m.ce.length)(bk:1<=m.ps/\m.ps<=4):
  iK fns (.fn 72 [] []) [.ptr mb 0,jr (at_:Int)] X fun _ Z=>∃x,aP7 m.ps x/\nS (fun c=>P c\/X.nx<=c) S0 Z mb db {m with ce:=m.ce.set at_ x} LV/\gK mb db m X {m with ce:=m.ce.set at_ x} Z:=by
 have ac:nS (fun c=>P c/\c<X.nx) S0 X mb db m LV:=hM.mono fun c d y=>⟨y,d⟩;have M:=fun(F:Fr) (h:Ev.T AB)=>aSv (F:=F) (h:=h) (a:=3);refine cJ H.f72 (by simp) ?_;refine ae ?_;refine bS (fx M ?_);apply cB;intro X1 x1 n1 g1;refine dB (b:=X.nx) (cs':=[jr 3,jr 0,jr 0,.cr,.cr,.cr]) (aq) (by refine am ?_;exact bB _) g1 rfl rfl ?_;intro X2 x2 n2 g2;refine am ?_;have s2:jq X X2:=x2.jo x1 (Af _);have an:=ac.jo s2;have lx:X.nx<X2.nx:=by omega
 have ao:PB mb db m X.nx:=hM.p.fresh (Af _);refine aB (aX (Q:=fun o z Y=>o= .normal/\aTu (fun c=>P c/\c<X.nx) S0 X X2 mb db at_ m LV 0 z Y) (aB (aF ?_)) ?_)
 .refine ae ?_;refine aJ (bL (aTu (fun c=>P c/\c<X.nx) S0 X X2 mb db at_ m LV) ?_ m.ps.toNat _ _ ⟨rfl,an,Af _,fun c d _=>s2.2 c d,.cr,[],by simp,fun w hw=>(by cases hw),g2,.inl ⟨rfl,rfl,rfl⟩,fun c d=>(by cases d),af,af,af,ag⟩);rintro k ⟨F,inr⟩ Y ⟨rfl,t,J,A,pv,l,B,f,C,q,N,g,s,r,L⟩;simp only at g s r L;have f7:=cM (p:=7) t.g rfl;have O:(m.ps.toNat:Int)=m.ps:=Cl au;refine fZ (d8 g L f7 ?_);by_cases R:(l.length:Int)<m.ps;rotate_left
  .refine aK (ja (Aa R)) (bH ?_);refine ae ?_;obtain rfl:k=0:=by omega
   exact⟨rfl,t,J,A,pv,l,B,f,C,q,N,ah g,ah s,ah r,ah L⟩
  refine aM (ja (Ac R)) (aG ?_);refine ae ?_
  have w1:IntKind.i64.wrap ((l.length:Int)+1)=((l.length+1:Nat):Int):=by rw[wrap_i64 au au];omega
  refine aB (aJ ?_);refine aNe (Y0:=X2) (mb:=mb) (db:=db) (xb:=X.nx) (m:=m) (LV:=LV) (pv:=pv) (l:=l) H rfl t (ah g) (ah r) C ⟨ao,fun h=>Nat.lt_irrefl _ h.2⟩ lx J q (fun c d=>⟨N c d,fun h=>by have:=(q.blk d).1;omega⟩) (fun c d h=>au) au ?_;intro F' Z pv' w hk T nZ kZ gZ aw aI w2 w3;have q0:=hk 0 au;have q1:=hk 1 au;have q4:=hk 4 au;have q5:=hk 5 au;simp only[↓sU,sD,rE,↓reduceIte,rA,g,s,r,L] at q0 q1 q4 q5;refine ae ?_
  refine aF (dz q5 w1 ?_);exact⟨k - 1,au,rfl,T,au,fun c d y=>(kZ c au y au (fun e=>by have:=(q.blk e).1;omega)).trans (A c d y),pv',l++ [w],by rw[Ai,Ax];omega,fun v hv=>by
   rcases Bi.1 hv with h|h
   .exact f v h
   .rw[Bz.1 h];exact⟨w2,w3⟩,gZ,aw,fun c d=>t.p.fresh (aI c d),ah q0,ah q1,ah q4,by refine ae ?_;rw[Ai,Ax]⟩
 rintro o ⟨F,inr⟩ Y ⟨rfl,rfl,t,J,A,pv,l,B,f,C,q,N,g,s,r,L⟩;simp only at g s r;have O:(m.ps.toNat:Int)=m.ps:=Cl au;have f5:=cM (p:=5) t.g rfl;have f7:=cM (p:=7) t.g rfl;have U:=cM (p:=5) C rfl;have aV:X.nx<Y.nx:=by omega
 refine ae ?_
 refine aB (aX (Q:=fun o z Z=>o= .normal/\z.inr=false/\nS (fun c=>P c/\c<X.nx) S0 Z mb db m LV/\X2.nx<=Z.nx/\(∀c,c<X.nx->PB mb db m c->Z.h.get c=X.h.get c)/\(∃l':bt,l'.length=m.ps.toNat/\(∀w∈l', -3<=w/\w<=3)/\Z.h.get X.nx=js [jr 3,jr 0,jr 0,.cr,.cr,pv]/\fC 1 X2 Z pv l'.length (aQ l'))/\aA 0 z.F= .ptr mb 0/\aA 1 z.F=jr (at_:Int)/\aA 4 z.F= .ptr X.nx 0) (aB (aF ?_)) ?_)
 .by_cases hz:m.zero=true/\m.ps=2
  .have⟨hz,aZ⟩:=hz;rw[hz] at f5;refine d8 g f5 f7 ?_;refine aM (ja (Ac aZ)) ?_;have bm:l.length=2:=by omega
   have D:0<l.length:=by omega
   have V:1<l.length:=by omega
   have u:=q.is;have i0:=u.c9 D;have i1:=u.c9 V;have v0:=u.ld D;have G:=q.self;rcases q with⟨_,h,_⟩|⟨b,rfl,a0,bp,a1,bq⟩
   .omega
   have a2:∀j,eY (.slice 1) (.sl b 0 l.length l.length true) j=if j<l.length then some (.ptr b (0+j * 1)) else none:=fun j=>by
    show bX (Nat.blt j l.length) _ _=_;rw[cS];by_cases h:j<l.length
    .rw[if_pos h,if_pos (show Nat.blt j l.length=true from Al h)]
    .rw[if_neg h,if_neg (show ¬Nat.blt j l.length=true from fun e=>h (Bd (show Nat.ble (j+1) l.length=true from e)))]
   have W:=a2 1;rw[if_pos V] at W;have bs:=f _ (aOu D);have w1:IntKind.i64.wrap (-(l.getD 0 0))= -(l.getD 0 0):=wrap_i64 au au;refine qL (pre:=aTU) (K:=8) (m:=255) (n:=1) (x:=.t 46) (v:=.t 45) rfl rfl rfl rfl ?_;unfold aTU;simp only[↓sU,sD,rE,↓reduceIte,rA,r,U,G,aKn,i0,v0,aIC,w1,show gL (jr 1)=some 1 from rfl,W];simp only[cF,aH];have a4:=qQ (S:=⟨Y.h,Y.nx+9⟩) (p:=0+1 * 1) (w:= -(l.getD 0 0)) a1 au;refine⟨_,a4,?_⟩;have a5:PB mb db m b:=N b rfl;refine⟨t.local (Br _ _) fun c d ba=>?_,by show X2.nx<=Y.nx+9;omega,fun c d y=>?_,⟨l.set (0+1 * 1) (-(l.getD 0 0)),by rw[Ar];omega,fun w hw=>?_,?_,.inr ⟨b,by rw[Ar],a0,by show b<Y.nx+9;omega,jh,by simp [aQ]⟩⟩,g,s⟩
   .simp only;rw[dx,if_neg];intro e;subst e;rcases ba with h|h
    .exact h a5
    .have:=h.2;omega
   .simp only;rw[dx,if_neg au];exact A c d y
   .rcases List.mem_or_eq_of_mem_set hw with h|h
    .exact f w h
    .omega
   .simp only;rw[dx,if_neg au];exact C
  .have bj:∀ (o:Out) (z:bO) (Z:St),True:=fun _ _ _=>trivial;have aa:(∃l':bt,l'.length=m.ps.toNat/\(∀w∈l', -3<=w/\w<=3)/\Y.h.get X.nx=js [jr 3,jr 0,jr 0,.cr,.cr,pv]/\fC 1 X2 Y pv l'.length (aQ l')):=⟨l,au,f,C,q⟩;cases I:m.zero with
   | false=>
    rw[I] at f5;refine dz g f5 ?_;refine aK (af) (aG ?_);refine d8 g s r ?_;exact⟨t,J,A,aa⟩
   | true=>
    rw[I] at f5;refine d8 g f5 f7 ?_;refine aK (ja (Aa (show ¬m.ps=2 from fun h=>hz ⟨I,h⟩))) (aG ?_);refine d8 g s r ?_;exact⟨t,J,A,aa⟩
 rintro o ⟨F,inr⟩ Z ⟨rfl,rfl,T,nZ,kZ,⟨l,bv,f,gZ,q⟩,g,s,r⟩;simp only at g s r;refine ae ?_
 have f8:=cM (p:=8) T.g rfl;have bb:=ldN gZ;have bd:=T.p.nod.self;have G:=q.self;have sx:=sI (k:=.i64) (x0:=3) (x1:=0) (x2:=0) (a:=.cr) (b:=.cr) (c:=pv) rfl rfl G;have be:nS (fun c=>P c\/X.nx<=c) S0 ⟨Z.h,Z.nx+9⟩ mb db m LV:=(T.jo (jq.nx Z 9)).mono fun c _ h=>.inl h.1;have u:bN .i64 ⟨Z.h,Z.nx+9⟩ pv l:=(q.step (jq.nx Z 9)).is;have⟨b,p,X',e1,e2,e3,e4,e5,e6⟩:=be.setN (i:=at_) (e:=[jr 3,jr 0,jr 0,.cr,.cr,pv]) (x:=⟨3,0,0,[],[],l⟩) ab ⟨.cr,.cr,pv,rfl,.inl ⟨rfl,.inl rfl⟩,.inl ⟨rfl,.inl rfl⟩,u,fun c d=>by
  rcases d with d|d|d
  .cases d
  .cases d
  .have h9:=(q.blk d).1;exact⟨hM.p.fresh au,.inr au⟩⟩
 refine qL (pre:=aTF) (K:=8) (m:=255) (n:=6) (x:=.t 54) (v:=.t 53) rfl rfl rfl rfl ?_;unfold aTF;refine ez g s r f8 bd bb sx e1 ?_;rw[show(AV.agg [jr 3,jr 0,jr 0,.cr,.cr,pv]).cells=some [jr 3,jr 0,jr 0,.cr,.cr,pv] from bB _,aH];refine⟨X',e3,_,rfl,⟨3,0,0,[],[],l⟩,⟨rfl,rfl,rfl,rfl,rfl,by show(l.length:Int)=_;omega,f⟩,e5,⟨by rw[e4];show X.nx<=Z.nx+9;omega,fun c d y=>?_⟩⟩;have⟨k1,k2⟩:=e6.2 c (by show c<Z.nx+9;omega) y;exact⟨k1.trans (kZ c d y),k2⟩
def hot(o:AO):Bool:=match o.op with | .q q=>dU q | .a _=>false | .x _=>true
def aNX(I:Nat->Prop)(D:DS):Prop:=(∀e∈D.hs,I e.1)/\∀l∈D.ls,I l.i
def aPO{I:Nat->Prop}{call:gD}{o:AO}{base:Nat}{D D':DS}(h:tW o i base call D=some D')(hi:hot o=true->I i)(f:aNX I D):aNX I D':=by
 unfold tW at h;cases n:fX o.grd D.F with
 | false=>rw[n,aR] at h;cases h;exact f
 | true=>
  rw[n,aL] at h;have⟨d,op,g,m⟩:=o;cases op with
  | q q=>
   have h:bD (iC q D.F D.S.h) (fun v=>some (⟨cT d D.F v,D.S,D.ps,D.hs,bX (dU q) (⟨q,D.F,v,i,m⟩::D.ls) D.ls⟩:DS))=some D':=h;cases b:iC q D.F D.S.h with
   | none=>rw[b] at h;cases h
   | some v=>
    rw[b,aH] at h;cases h;refine⟨f.1,fun l c=>?_⟩;simp only at c;cases j:dU q with
    | false=>rw[j,aR] at c;exact f.2 l c
    | true=>
     rw[j,aL] at c;rcases Bm.1 c with rfl|c
     .exact hi j
     .exact f.2 l c
  | a a=>
   have h:bD (uI a D.F (base+i)) (fun r=>some (⟨cT d D.F r.1,D.S,⟨i,base+i,r.2⟩::D.ps,D.hs,D.ls⟩:DS))=some D':=h;cases b:uI a D.F (base+i) with
   | none=>rw[b] at h;cases h
   | some v=>rw[b,aH] at h;cases h;exact f
  | x x=>
   have h:bX (kN D.hs m) (bD (evX x call D.F ⟨(cN m D.ps D.S.h).2,D.S.nx⟩) fun r=>some (⟨cT d D.F r.1,r.2,(cN m D.ps D.S.h).1,(i,m,r.2.h)::D.hs,D.ls⟩:DS)) none=some D':=h;cases c:kN D.hs m with
   | false=>rw[c,aR] at h;cases h
   | true=>
    rw[c,aL] at h;cases b:evX x call D.F ⟨(cN m D.ps D.S.h).2,D.S.nx⟩ with
    | none=>rw[b] at h;cases h
    | some v=>
     rw[b,aH] at h;cases h;refine⟨fun e b=>?_,f.2⟩;rcases Bm.1 b with rfl|b
     .exact hi rfl
     .exact f.1 e b
def aH6{I:Nat->Prop}{call:gD}{base:Nat}:∀ {l:List AO} {i:Nat} {D D':DS},wY l i base call D=some D'->(∀j o,l[j]? =some o->hot o=true->I (i+j))->aNX I D->aNX I D'
 | [],i,D,D',h,_,a=>by cases h;exact a
 | o::os,i,D,D',h,d,a=>by
  have h:bD (tW o i base call D) (fun D'=>wY os (i+1) base call D')=some D':=h;cases b:tW o i base call D with
  | none=>rw[b] at h;cases h
  | some g=>
   rw[b,aH] at h;exact aH6 h (fun j e f c=>by have:=d (j+1) e f c;rwa [show i+1+j=i+(j+1) by omega]) (aPO b (fun c=>d 0 o rfl c) a)
def aD1{W:Nat->Prop}{d:T AB}{base K m:Nat}{h':T AB}{r:List (Nat×Nat×T AB)}{l:mC}(h:cI l.v l.v=true/\aCr W base l.q l.F/\iC l.q l.F d=some l.v)(p:l.mask<2 ^ K)(q:Nat.testBit m l.i=true):∀ {c:List (Nat×Nat×T AB)} {a:T AB},(∀e∈c,∀b,b<base->¬W b->e.2.2.get b=d.get b)->(∀b,b<base->¬W b->a.get b=d.get b)->eU l (c++(K,m,h')::r) a=true
 | [],a,_,f=>by
  have g:pE l.v (iC l.q l.F a)=true:=by rw[h.2.1.ev f,h.2.2];exact h.1
  have j:Nat.testBit l.mask K=false:=Nat.testBit_lt_two_pow p;show eU l ((K,m,h')::r) a=true;unfold eU;rw[j,aR,g,aL,q,aL]
 | (i,n,o)::s,a,c,f=>by
  have g:pE l.v (iC l.q l.F a)=true:=by rw[h.2.1.ev f,h.2.2];exact h.1
  have j:eU l (s++(K,m,h')::r) o=true:=aD1 h p q (fun e t=>c e (by simp [t])) (c (i,n,o) (by simp));show eU l ((i,n,o)::(s++(K,m,h')::r)) a=true;unfold eU;rw[g,j];cases Nat.testBit l.mask i<;>cases Nat.testBit n l.i<;>rfl
def aFk(g:Nat){W:Nat->Prop}{a pre suf:List AO}{K:Nat}{A:bO}{R:Fr->St->List jD->Prop}(b:a=pre++suf)(u:pre.length=K)(y:(pre.all fun o=>decide (o.mask<2 ^ K))=true)(z:((List.range K).all fun j=>match pre[j]? with | some o=> !hot o || Nat.testBit g j | none=>true)=true)
  (h:∀S1,jq S S1->S1.h=S.h->S1.nx=S.nx+a.length->gO fns W S.h S.nx pre 0 A.F S1 [] none R)
  (B:∀F S' ps d ls,R F S' ps->kN d g=true->(∀h' r,iF S.h (d.reverse++(K,g,h')::r) ls=true)->wpd fns suf K S.nx ⟨F,S',ps,d,ls⟩ fun D'=>iF S.h D'.hs.reverse D'.ls=true/\Q .normal ⟨D'.F,A.inr⟩ ⟨(cN (2 ^ a.length - 1) D'.ps D'.S.h).2,D'.S.nx⟩):jN fns (.drw a) A S Q:=by
 apply rC;have⟨n,D',q,C,w⟩:=nK (fns:=fns) (i:=0) (D:=⟨A.F,⟨S.h,S.nx+a.length⟩,[],[],[]⟩) (last:=none) ⟨fun _ _ _=>rfl,Br _ _,fun e b=>(by cases b),fun l c=>(by cases c),fun p G=>(by cases G)⟩ rfl (h ⟨S.h,S.nx+a.length⟩ (jq.nx S _) rfl rfl);have low:Low K D':=aED q au (fun o s=>by have:=Dq.1 y o s;simpa using this) ⟨fun e b=>(by cases b),fun l c=>(by cases c)⟩;have f:aNX (fun i=>Nat.testBit g i=true) D':=aH6 q (fun j o x s=>by
  have t:j<K:=by rw[<-u];exact(Aj.1 x).1
  have:=Dq.1 z j (Dp.2 t);rw[x] at this;simp only[s,Dn,Bool.false_or] at this
  rwa [An]) ⟨fun e b=>(by cases b),fun l c=>(by cases c)⟩
 have⟨F,S',ps,d,ls⟩:=D';have H:=B F S' ps d ls C (by
  cases d with
  | nil=>rfl
  | cons e r=>exact f.1 e (Be ..)) (fun h' r=>oD fun l c=>aD1 (w.lds l c) (low.2 l c).2 (f.2 l c) (fun e b=>w.chain e (Fm.1 b)) (fun _ _ _=>rfl))
 have:wpd fns a 0 S.nx ⟨A.F,⟨S.h,S.nx+a.length⟩,[],[],[]⟩ fun D'=>iF S.h D'.hs.reverse D'.ls=true/\Q .normal ⟨D'.F,A.inr⟩ ⟨(cN (2 ^ a.length - 1) D'.ps D'.S.h).2,D'.S.nx⟩:=by
  subst b;refine aLg ⟨n,_,q,?_⟩;rw[An,u];exact H
 exact this
def aJt{id:Nat}{a c d z3:AV}(e:x.val F= .agg [a,b,c,d]):uI (.c7 t 4 1 [z0,z1,z2,z3] [(0,x)]) F id=some (.sl id 0 1 1 false,.cells [a,b,c,d] false 0):=by
 show(bD (eO (repeatL [z0,z1,z2,z3] 1) [(0 * 4,4,x.val F)]) fun cs=>some (AV.sl id 0 1 1 false,AB.cells cs false 0))=_;rw[e];show(bD (bD (AV.cells (.agg [a,b,c,d])) _) _)=_;rw[bB,aH];rfl
def aRC{id:Nat}{a c:AV}(d:x.val F= .agg [a,b,c]):uI (.c7 t 3 1 [z0,z1,z2] [(0,x)]) F id=some (.sl id 0 1 1 false,.cells [a,b,c] false 0):=by
 show(bD (eO (repeatL [z0,z1,z2] 1) [(0 * 3,3,x.val F)]) fun cs=>some (AV.sl id 0 1 1 false,AB.cells cs false 0))=_;rw[d];show(bD (bD (AV.cells (.agg [a,b,c])) _) _)=_;rw[bB,aH];rfl
def aEQ{id:Nat}{a:AV}(c:x.val F= .agg [a,b]):uI (.c7 t 2 1 [z0,z1] [(0,x)]) F id=some (.sl id 0 1 1 false,.cells [a,b] false 0):=by
 show(bD (eO (repeatL [z0,z1] 1) [(0 * 2,2,x.val F)]) fun cs=>some (AV.sl id 0 1 1 false,AB.cells cs false 0))=_;rw[c];show(bD (bD (AV.cells (.agg [a,b])) _) _)=_;rw[bB,aH];rfl
def aKk{o:Bool}(h:S.h.get t=some (.cells cs o sz))(a:cs.length=n):eS (.sl t 0 1 1 false) S.h n 1=some cs:=by
 show bD (cG S.h t) (fun c=>cut c 0 (1 * n))=_;unfold cG;rw[h];show cut cs 0 (1 * n)=some cs;unfold cut;rw[iA,iG,Di,Fu,if_pos au,Bh au]
def aU1{n:Int}{a:AV}(b:aA 50 F=jr pl)(c:aA 51 F=jr lev)(d:aA 52 F=a)(e:aA 58 F=jr n)(f:a.cells=some [a]):iC (.build [jr 0,jr 0,.cr,jr 0] [(0,1,.t 50),(1,1,.t 51),(2,1,.t 52),(3,1,.t 58)]) F h=some (.agg [jr pl,jr lev,a,jr n]):=by
 show(bD (eO _ (dN F [(0,1,.t 50),(1,1,.t 51),(2,1,.t 52),(3,1,.t 58)])) fun cs=>some (AV.agg cs))=_;simp only[dN,show(cQ.t 50).val F=jr pl from b,show(cQ.t 51).val F=jr lev from c,show(cQ.t 52).val F=a from d,show(cQ.t 58).val F=jr n from e,eO,cF,f,aH];rfl
def aVr{a:Int}(b:aA 70 F=jr pl)(c:aA 76 F=jr a):iC (.build [jr 0,jr 0] [(0,1,.t 70),(1,1,.t 76)]) F h=some (.agg [jr pl,jr a]):=by
 show(bD (eO _ (dN F [(0,1,.t 70),(1,1,.t 76)])) fun cs=>some (AV.agg cs))=_;simp only[dN,show(cQ.t 70).val F=jr pl from b,show(cQ.t 76).val F=jr a from c,eO,cF,aH];rfl
def gK.put{m:Mk}{w:Option AB}:gK mb db m X m ⟨X.h.set mb w,X.nx⟩:=
 ⟨Af _,fun c _ a=>⟨by simp only;rw[dx,if_neg a.1],a⟩⟩
def aNj{k:IntKind}(h:bN k X v l):v.cells=some [v]:=bN.cells h
def aUI(X:St)(F:Fr)(mb:Nat)(a b:AV)(pl lev n:Int)(F':Fr)(Z:St)(ps:List jD):Prop:=ps= [⟨15,X.nx+15,.cells [jr pl,jr lev,b,jr n] false 0⟩]/\Z.h=X.h/\Z.nx=X.nx+20/\(∀j,j<10->aA j F'=aA j F)/\aA 45 F'= .ptr mb 0/\aA 49 F'=a/\aA 60 F'= .sl (X.nx+15) 0 1 1 false
def aNB{i:List AO}{m:Mk}{g:AV}(N:i=aPg++aNE)(n:nS P S0 X mb db m LV)(hS:S0.nx<=X.nx)(p0:aA 0 F= .ptr mb 0)(p1:aA 1 F=jr pl)(p2:aA 2 F=jr lev)(p3:aA 3 F=g)(O:bN .i64 X g l)(hl:l.length<=1000)(w:∀c,aN g=some c->PB mb db m c/\P c)(hv:m.views.length<=100000)
  (hQ:∀F' Z r,(∀j,j<10->aA j F'=aA j F)->nS P S0 Z mb db {m with va:=r,views:=m.views++ [(pl,lev,(m.cg.length:Int))]} LV->gK mb db m X {m with va:=r,views:=m.views++ [(pl,lev,(m.cg.length:Int))]} Z->Q .normal ⟨F',inr⟩ Z):jN fns (.drw i) ⟨F,inr⟩ X Q:=by
 have s:i.length=20:=by rw[N];rfl
 have y:=n.p.lt;have f2:=cM (p:=2) n.g rfl;have f9:=cM (p:=9) n.g rfl;have z:=n.p.vw.self;have A:=n.p.inf.self;refine aFk 65534 (W:=fun _=>False) (K:=16) (R:=aUI X F mb m.va g pl lev (m.cg.length:Int)) N rfl rfl rfl (fun X1 x1 B C=>?_) ?_
 .have D:=fun(F:Fr) (h:Ev.T AB) (a:aA 50 F=jr pl) (b:aA 51 F=jr lev) (c:aA 52 F=g) (d:aA 58 F=jr (m.cg.length:Int))=>aU1 (F:=F) (h:=h) a b c d (aNj O);have G:dU (.build [jr 0,jr 0,.cr,jr 0] [(0,1,.t 50),(1,1,.t 51),(2,1,.t 52),(3,1,.t 58)])=false:=rfl;have H:=fun(F:Fr) (id:Nat) (h:aA 59 F= .agg [jr pl,jr lev,g,jr (m.cg.length:Int)])=>aJt (t:=166) (z0:=jr 0) (z1:=jr 0) (z2:=.cr) (z3:=jr 0) (x:=.t 59) (F:=F) (id:=id) h;unfold aPg;refine fo p0 p1 p2 p3 f2 f9 z A y @Ap n.p.inf.len D G H ?_;refine⟨rfl,B,by rw[C,s],fun j T=>?_,af,af,af⟩;have:j=0\/j=1\/j=2\/j=3\/j=4\/j=5\/j=6\/j=7\/j=8\/j=9:=by omega
  rcases this with rfl|rfl|rfl|rfl|rfl|rfl|rfl|rfl|rfl|rfl<;>simp only[↓sU,sD,rE,↓reduceIte,rA]
 rintro F' S' ps aa ls ⟨rfl,hZ,nZ,hk,pA,pB,pC⟩ o I;obtain⟨U,u⟩:∃U:St,U=⟨S'.h.set (X.nx+15) (js [jr pl,jr lev,g,jr (m.cg.length:Int)]),S'.nx⟩:=⟨_,rfl⟩;have nU:U.nx=X.nx+20:=by rw[u];exact nZ
 have q:jq X U:=⟨au,fun c hc=>by rw[u];simp only;rw[dx,if_neg au,hZ]⟩;have gU:U.h.get (X.nx+15)=js [jr pl,jr lev,g,jr (m.cg.length:Int)]:=by rw[u];simp only;rw[dx,if_pos rfl]
 have f:=n.jo q;have⟨v',V,eA,Y,nV,kV,bV⟩:=f.p.vw.push (bytes:=48) (x:=.sl (X.nx+15) 0 1 1 false) (a:=(pl,lev,(m.cg.length:Int))) az au rfl (aKk gU rfl) rfl ⟨g,l,rfl,O.jo q,hl,w⟩ ay ay;have⟨kP,kM⟩:=f.p.pushV nV kV bV Y;have J:V.h.get mb=js (fE db m):=(kV mb f.p.lt fun e=>(f.p.d3 mb e).1 rfl).trans f.g;unfold aNE;refine iS (v:=v') (S1:=V) o (fun call=>?_) ?_
 .rw[cK (az:Nat.testBit 65534 15=true),fB];simp only[fO,pB,pC];rw[<-u];exact eA
 rw[cK (az:Nat.testBit 65534 15=true)];simp only[iT,dJ,dG,fG,dH,aU,aT,cP,aR,fO,bK,bE,pA,rE,↓reduceIte,rA];have L:v'.cells=some [v']:=Y.cells;refine iS (v:=.undef) (S1:=⟨V.h.set mb (js (fE db {m with va:=v',views:=m.views++ [(pl,lev,(m.cg.length:Int))]})),V.nx⟩) (az:Nat.testBit 524287 16=true) (fun call=>?_) ?_
 .rw[dE];simp only[fO,bE,rE,↓reduceIte,bK,L,aH];exact xY (cs:=fE db m) (p:=2) (S:=V) J (au:2<10)
 rw[iL];refine⟨?_,?_⟩
 .simp only[Cg,Bg,Cr,Ci,Bu];exact I _ _
 .simp only[bK,fK];refine hQ _ _ v' (fun j T=>?_) (kP.put jh (Af _) fun c _ M=>by simp only;rw[dx,if_neg M]) (((gK.jo q).trans kM).trans gK.put);rw[bE,if_neg au,bE,if_neg au,bE,if_neg au];exact hk j T
def aTy(X:St)(F:Fr)(mb db:Nat)(b c:AV)(dl:bt)(pl:Int)(F':Fr)(Z:St)(ps:List jD):Prop:=∃a:Int,1<=a/\a<=3/\ps= [⟨14,X.nx+14,.cells [jr pl,jr a] false 0⟩]/\X.nx+20<=Z.nx/\cA db X Z/\sP Z db c dl/\(∀j,j<10->aA j F'=aA j F)/\aA 64 F'= .ptr mb 0/\aA 69 F'=b/\aA 78 F'= .sl (X.nx+14) 0 1 1 false
def aOH{o:List AO}{m:Mk}(H:Has fns)(he:o=aNW++aNn)(f:nS P S0 X mb db m LV)(hS:S0.nx<=X.nx)(p0:aA 0 F= .ptr mb 0)(p1:aA 1 F=jr pl)(hv:m.cg.length<=100000)
  (hQ:∀F' Z s a,(∀j,j<10->aA j F'=aA j F)->1<=a->a<=3->nS P S0 Z mb db {m with ia:=s,cg:=m.cg++ [⟨pl,a⟩]} LV->gK mb db m X {m with ia:=s,cg:=m.cg++ [⟨pl,a⟩]} Z->Q .normal ⟨F',inr⟩ Z):jN fns (.drw o) ⟨F,inr⟩ X Q:=by
 have aa:o.length=20:=by rw[he];rfl
 have B:=f.p.lt;have C:=f.p.ne;have f0:=cM (p:=0) f.g rfl;have f9:=cM (p:=9) f.g rfl;have D:=f.p.inf.self;refine aFk 32766 (W:=fun c=>c=db) (K:=15) (R:=aTy X F mb db m.ia m.lv m.dl pl) he rfl rfl rfl (fun X1 x1 ab ac=>?_) ?_
 .unfold aNW;refine ez p0 p1 f0 f9 D B C @Ap ?_;refine jH rfl ?_;refine ae ?_;refine aW (mN H (f.jo x1).p.dr (n:=3) az az) ?_;rintro _ X2 ⟨x2,d2,y,rfl,y1,y2⟩;refine⟨⟨x2.1,fun c d g=>x2.2 c (Ae d x1.1) g⟩,?_⟩;have w1:IntKind.i64.wrap (1+y)=1+y:=wrap_i64 au au;have G:=fun(F:Fr) (h:Ev.T AB) (a:aA 70 F=jr pl) (b:aA 76 F=jr (1+y))=>aVr (F:=F) (h:=h) a b;have I:dU (.build [jr 0,jr 0] [(0,1,.t 70),(1,1,.t 76)])=false:=rfl;have J:=fun(F:Fr) (id:Nat) (h:aA 77 F= .agg [jr pl,jr (1+y)])=>aEQ (t:=44) (z0:=jr 0) (z1:=jr 0) (x:=.t 77) (F:=F) (id:=id) h;refine ec w1 G I J ?_;refine⟨1+y,au,au,af,(by have h9:X1.nx<=X2.nx:=x2.1;omega),⟨Aq x1.1 x2.1,fun c d g=>(x2.2 c (Ae d x1.1) g).trans (x1.2 c d)⟩,d2,fun j hj=>?_,af,af,af⟩;have:j=0\/j=1\/j=2\/j=3\/j=4\/j=5\/j=6\/j=7\/j=8\/j=9:=by omega
  rcases this with rfl|rfl|rfl|rfl|rfl|rfl|rfl|rfl|rfl|rfl<;>simp only[↓sU,sD,rE,↓reduceIte,rA]
 rintro F' S' ps an ls ⟨a,a1,a2,rfl,nZ,sZ,dZ,hk,pA,pB,pC⟩ q L;have⟨ao,kZ⟩:=f.drawn sZ dZ;obtain⟨U,z⟩:∃U:St,U=⟨S'.h.set (X.nx+14) (js [jr pl,jr a]),S'.nx⟩:=⟨_,rfl⟩;have nU:U.nx=S'.nx:=by rw[z]
 have kU:∀c,c≠X.nx+14->U.h.get c=S'.h.get c:=fun c d=>by rw[z];simp only;rw[dx,if_neg d]
 have gU:U.h.get (X.nx+14)=js [jr pl,jr a]:=by rw[z];simp only;rw[dx,if_pos rfl]
 have u:∀c,c<X.nx->c≠X.nx+14:=fun c d=>by omega
 have M:nS (fun c=>P c/\c<X.nx) S0 S' mb db m LV:=(f.mono fun c d A=>⟨A,d⟩).drawn sZ dZ |>.1
 have w:nS (fun c=>P c/\c<X.nx) S0 U mb db m LV:=M.local au fun c d N=>kU c fun e=>by
  rcases N with h|h
  .refine h ⟨au,fun r=>?_,fun r=>?_,fun r=>?_,fun r=>?_⟩
   .have:=f.p.dr.lt;omega
   .have:=(f.p.nod.blk r).2;omega
   .have:=(f.p.inf.blk r).2;omega
   .have:=(f.p.vw.blk r).2;omega
  .omega
 have i:nS P S0 U mb db m LV:=w.mono fun c _ h=>h.1;have O:gK mb db m X m U:=⟨au,fun c d A=>⟨(kU c (u c d)).trans (kZ.2 c d A).1,A⟩⟩;have⟨v',V,eA,aV,nV,kV,bV⟩:=i.p.inf.push (bytes:=16) (x:=.sl (X.nx+14) 0 1 1 false) (a:=(⟨pl,a⟩:jL)) az au rfl (aKk gU rfl) rfl (show aIT [jr pl,jr a] ⟨pl,a⟩ from rfl) ay ay;have⟨kP,kM⟩:=i.p.pushI nV kV bV aV;have T:V.h.get mb=js (fE db m):=(kV mb i.p.lt fun e=>(i.p.d2 mb e).1 rfl).trans i.g;unfold aNn;refine iS (v:=v') (S1:=V) q (fun call=>?_) ?_
 .rw[cK (az:Nat.testBit 32766 14=true),fB];simp only[fO,pB,pC];rw[<-z];exact eA
 rw[cK (az:Nat.testBit 32766 14=true)];simp only[iT,dJ,dG,fG,dH,aU,aT,cP,aR,fO,bK,bE,pA,rE,↓reduceIte,rA];have Y:v'.cells=some [v']:=aV.cells;refine iS (v:=.undef) (S1:=⟨V.h.set mb (js (fE db {m with ia:=v',cg:=m.cg++ [⟨pl,a⟩]})),V.nx⟩) (az:Nat.testBit 524287 15=true) (fun call=>?_) ?_
 .rw[dE];simp only[fO,bE,rE,↓reduceIte,bK,Y,aH];exact xY (cs:=fE db m) (p:=9) (S:=V) T (au:9<10)
 rw[iL];refine⟨?_,?_⟩
 .simp only[Cg,Bg,Cr,Ci,Bu];exact L _ _
 .simp only[bK,fK];refine hQ _ _ v' a (fun j hj=>?_) a1 a2 (kP.put jh (Af _) fun c _ g=>by simp only;rw[dx,if_neg g]) ((O.trans kM).trans gK.put);rw[bE,if_neg au,bE,if_neg au,bE,if_neg au,bE,if_neg au];exact hk j hj
def FnI(mb:Nat)(X:St)(pl lev:Int)(a:AV)(n:Nat)(k:Nat)(A:bO)(Y:St):Prop:=A.inr=false/\jq X Y/\∃i:Nat,i+k=n/\aA 0 A.F= .ptr mb 0/\aA 1 A.F=jr pl/\aA 2 A.F=jr lev/\aA 3 A.F=a/\aA 9 A.F=jr (i:Int)
def aPM(P:Nat->Prop)(S0 X:St)(mb db:Nat)(m:Mk)(LV:List (Int×Int×Int))(pl lev:Int)(r:AV)(Z:St):Prop:=∃b c a,1<=a/\a<=3/\r=jr (m.cg.length:Int)/\nS P S0 Z mb db {m with va:=b,ia:=c,views:=m.views++ [(pl,lev,(m.cg.length:Int))],cg:=m.cg++ [⟨pl,a⟩]} LV/\gK mb db m X {m with va:=b,ia:=c,views:=m.views++ [(pl,lev,(m.cg.length:Int))],cg:=m.cg++ [⟨pl,a⟩]} Z
def aMA{m:Mk}{t:AV}(H:Has fns)(hM:nS P S0 X mb db m LV)(hS:S0.nx<=X.nx)(hs:bN .i64 X t l)(hl:l.length<=1000)(T:∀c,aN t=some c->PB mb db m c/\P c)(hv:m.views.length<=100000)(hi:m.cg.length<=100000):
  iK fns (.fn 73 [] []) [.ptr mb 0,jr pl,jr lev,t] X fun r Z=>(jq X Z/\∃ (i:Nat) (v:Int×Int×Int),m.views[i]? =some v/\v.1=pl/\v.2.1=lev/\r=jr v.2.2)\/aPM P S0 X mb db m LV pl lev r Z:=by
 refine cJ H.f73 (by simp) ?_;refine ae ?_;refine bS (ae ?_);refine aB (aX (Q:=fun o A' Z=>(o= .normal/\FnI mb X pl lev t m.views.length 0 A' Z)\/(o= .ret/\jq X Z/\∃ (i:Nat) (v:Int×Int×Int),m.views[i]? =some v/\v.1=pl/\v.2.1=lev/\aA 8 A'.F=jr v.2.2)) (aB (aF ?_)) ?_)
 .refine ae ?_;refine aJ (bL (FnI mb X pl lev t m.views.length) ?_ m.views.length _ _ ⟨rfl,dy _,0,au,af,af,af,af,ag⟩);rintro k ⟨F,inr⟩ Y ⟨rfl,U,i,B,f,g,n,q,u⟩;simp only at f g n q u;have w:=hM.jo U;have f2:=cM (p:=2) w.g rfl;refine fZ (ec f u f2 w.p.vw.len ?_);by_cases V:i<m.views.length;rotate_left
  .refine aK i7 (bH ?_);refine ae ?_;have aa:k=0:=by omega
   subst aa;exact .inl ⟨rfl,U,i,B,ah f,ah g,ah n,ah q,ah u⟩
  refine aM i7 (aG ?_);refine ae ?_
  have y:m.views[i]? =some m.views[i]:=Ab V;have hV:aE 4 (fun Y e a=>VwE Y (fun c=>PB mb db m c/\P c) e a) Y m.va m.views:=w.p.vw.is fun e a h=>h;obtain⟨_,bx,qx,C,aI,_,⟨aV,l',rfl,ab,aZ,_⟩,D,_⟩:=aE.at hV az y;have G:=du i
  generalize a4:m.views[i]=v at *;refine aB (aJ (aB (aF ?_)));refine im f u @dG @dH @aU @aT f2 @aY C D ?_;apply cB;intro W1 v1 M N;refine dB (b:=Y.nx) (aq) (by refine am ?_;exact bB _) N rfl rfl ?_;intro W v2 k2 z;refine am ?_;have I:jq Y W:=v2.jo v1 (Af _);have s:=U.trans I;have g0:=cM (p:=0) z rfl;have g1:=cM (p:=1) z rfl;have g2:=cM (p:=2) z rfl;have d:∀ {F':Fr} {Z:St},aA 0 F'= .ptr mb 0->aA 1 F'=jr pl->aA 2 F'=jr lev->aA 3 F'=t->aA 9 F'=jr (((i+1:Nat)):Int)->jq X Z->∃x<k,FnI mb X pl lev t m.views.length x ⟨F',false⟩ Z:=fun {F' Z} a0 a1 a2 a3 a9 j=>⟨k - 1,au,rfl,j,i+1,au,a0,a1,a2,a3,a9⟩;apply bS;by_cases J:v.1=pl;rotate_left
  .refine d8 g g0 (Aa J) ?_;refine aK (af) (aG ?_);refine ae ?_
   refine aF (dz u G ?_);exact d (ah f) (ah g) (ah n) (ah q) (af) s
  by_cases O:v.2.1=lev;rotate_left
  .refine eu g n g0 g1 (Ac J) (Aa O) ?_;refine aK (af) (aG ?_);refine ae ?_
   refine aF (dz u G ?_);exact d (ah f) (ah g) (ah n) (ah q) (af) s
  refine ez g n q g0 g1 g2 (Ac J) (Ac O) ?_;refine bJ (ae ?_);refine aW (yK H (ab.jo I) (hs.jo s) au) ?_;rintro _ Z ⟨rfl,j⟩;have K:=s.trans j;have R:=(j.2 _ (au:Y.nx<W.nx)).trans z;have g3:=cM (p:=3) R rfl;by_cases c3:l'=l
  .rw[Ac c3]
   refine aM (af) ?_;refine bS (c8 g3 ?_);refine aS (ae ?_);exact .inr ⟨K,i,v,by first | exact⟨y,J,O⟩ | exact⟨y,J,O,rfl⟩⟩
  .rw[Aa c3]
   refine aK (af) (aG ?_);refine ae ?_
   refine aF (dz u G ?_);exact d (ah f) (ah g) (ah n) (ah q) (af) K
 rintro o ⟨F,inr⟩ Z (⟨rfl,S,j,i,B,f,g,n,q,_⟩|⟨rfl,j,i,v,N,z,R,p8⟩);rotate_left
 .simp only at p8;refine c8 p8 ?_;exact .inl ⟨j,i,v,by first | exact⟨N,z,R⟩ | exact⟨N,z,R,rfl⟩⟩
 simp only at S f g n q;subst S;refine ae ?_
 have ac:=hM.jo j;refine aB (aNB rfl ac (Aq hS j.1) f g n q (hs.jo j) hl T hv ?_);intro F1 Z1 an M ao b1;refine ae ?_
 have z1:=(gK.jo (mb:=mb) (db:=db) (m:=m) j).trans b1;refine aB (aOH H rfl ao (Aq hS z1.1) ((M 0 au).trans f) ((M 1 au).trans g) hi ?_);intro F2 Z2 aw a k2 a1 a2 A b2;refine ae ?_
 have S:aA 0 F2= .ptr mb 0:=(k2 0 au).trans ((M 0 au).trans f);have f9:=cM (p:=9) A.g rfl;have L:=A.p.inf.len;have G:IntKind.i64.wrap ((((m.cg++ [(⟨pl,a⟩:jL)]).length:Nat):Int) - 1)=(m.cg.length:Int):=by
  rw[Ai,Ax,wrap_i64 au au];omega
 refine bS (ec S f9 L G ?_);refine aS (ae ?_);exact .inr ⟨an,aw,a,a1,a2,rfl,A,z1.trans b2⟩
end Go.Ev.Gl
