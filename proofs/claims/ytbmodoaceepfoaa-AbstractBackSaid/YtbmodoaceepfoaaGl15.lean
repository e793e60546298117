import Derived.Test.YtbmodoaceepfoaaGl14
set_option linter.all false
open Nat renaming reduceEqDiff -> rE, reduceAdd -> rA
set_option maxHeartbeats 0
namespace Go.Ev.Gl
variable {fns:T eY}
variable {cs:cd}{t sz n c i db mb xb:Nat}{S X X' S0 Y0:St}{b v v' xa pv z0 z1 z2:AV}{x:cT}{l:bu}{P P':Nat->Prop}{F:Fr}{inr:Bool}{LV:List (Int×Int×Int)}{Q:Out->bO->St->Prop}{h:Ev.T AB}{pl lev:Int}
def uQ{e:cd}{p:Nat}(d:p+e.length<=cs.length):(cs.take p++e++cs.drop (p+e.length))[t]? =if t<p then cs[t]? else if t<p+e.length then e[t - p]? else cs[t]? :=by
 have c:(cs.take p).length=p:=by rw[Bv];omega
 rw[Bg];by_cases a:t<p
 .rw[if_pos a,Ao au,Em a]
 .rw[if_neg a,Ap au,c];by_cases b:t<p+e.length
  .rw[if_pos b,Ao au]
  .rw[if_neg b,Ap au,Fg];congr 1;omega
def aGc{b p:Nat}{e:cd}{o:Bool}(h:S.h.get b=some (.cells cs o sz))(a:p+e.length<=cs.length):uF S b p e=some ⟨S.h.set b (some (.cells (cs.take p++e++cs.drop (p+e.length)) o sz)),S.nx⟩:=by
 simp only[uF,h,aH,aCf,put_eq,if_pos a]
def aMK{b p:Nat}{e:cd}{o:Bool}(h:S.h.get b=some (.cells cs o sz))(c:p+e.length<=cs.length)(a:e.length=n):qX (.ptr b p) n e S=some (.undef,⟨S.h.set b (some (.cells (cs.take p++e++cs.drop (p+e.length)) o sz)),S.nx⟩):=by
 simp only[qX,gD,a,aGc h c];rw[show Nat.beq n n=true from Fq n,aN];subst a;rfl
def mL{α:Type}(k:Nat)(E:cd->α->Prop)(S0 X:St)(v:AV)(l:List α):Prop:=
 (v= .ct/\l= [])\/∃b c cs,v= .sl b 0 l.length c true/\l.length<=c/\cs.length=c * k/\S0.nx<=b/\b<X.nx/\X.h.get b=some (.cells cs true k)/\0<c/\∀ (i:Nat) (a:α),l[i]? =some a->∃e:cd,e.length=k/\(∀ (j:Nat) (x:AV),e[j]? =some x->cs[i * k+j]? =some x)/\E e a
section
variable {α:Type}{k:Nat}{E E':cd->α->Prop}{S0 X X':St}{v:AV}{l:List α}
def mL.none:mL k E S0 X .ct []:=.inl ⟨rfl,rfl⟩
def mL.move(h:mL k E S0 X v l)(d:X.nx<=X'.nx)(f:∀c,aM v=some c->X'.h.get c=X.h.get c)(g:∀e a,E e a->E' e a):mL k E' S0 X' v l:=by
 rcases h with h|⟨b,c,cs,rfl,j,n,o,p,q,r,s⟩
 .exact .inl h
 .refine .inr ⟨b,c,cs,rfl,j,n,o,Ae p d,(f b rfl).trans q,r,fun i a hi=>?_⟩;have⟨e,t,u,w⟩:=s i a hi;exact⟨e,t,u,g e a w⟩
def mL.blk(h:mL k E S0 X v l)(a:aM v=some c):S0.nx<=c/\c<X.nx:=by
 rcases h with⟨rfl,_⟩|⟨b,f,cs,rfl,g,i,d,e,j,n,o⟩
 .cases a
 .cases a;exact⟨d,e⟩
def mL.is{d:St->cd->α->Prop}(h:mL k E S0 X v l)(f:∀e a,E e a->d X e a):aG k d X v l:=by
 rcases h with⟨rfl,rfl⟩|⟨b,c,cs,rfl,g,u,w,n,o,y,p⟩
 .exact .inl ⟨rfl,.inl rfl⟩
 .refine .inr ⟨b,0,c,true,cs,rfl,g,n,by unfold cI;rw[o];rfl,fun i a hi=>?_⟩;have⟨e,q,r,s⟩:=p i a hi;exact⟨e,q,fun j x t=>by rw[Am];exact r j x t,f e a s⟩
def mL.cells(h:mL k E S0 X v l):v.cells=some [v]:=by
 rcases h with⟨rfl,_⟩|⟨b,c,cs,rfl,_⟩<;>rfl
def mL.self(h:mL k E S0 X v l):cO v v=true:=by
 rcases h with⟨rfl,_⟩|⟨b,c,cs,rfl,_⟩
 .rfl
 .exact mE ..
def mL.len(h:mL k E S0 X v l):kR v=some (je (l.length:Int)):=by
 rcases h with⟨rfl,rfl⟩|⟨b,c,cs,rfl,_⟩<;>rfl
def qH{j k q:Nat}(h:i<j)(a:q<k):i * k+q<j * k:=by
 have:(i+1) * k<=j * k:=Db k h;rw[Du,Fp] at this;omega
def mL.push{bytes:Nat}{x:AV}{e:cd}{a:α}(h:mL k E S0 X v l)(U:0<k)(J:S0.nx<=X.nx)(B:mP x=some 1)(C:eU x X.h k 1=some e)(s:e.length=k)(D:E e a)(K:l.length+1<=room)(L:(l.length+1) * bytes<=room):
  ∃v' X',gG bytes k v x X=some (v',X')/\mL k E S0 X' v' (l++ [a])/\X.nx<=X'.nx/\(∀c,c<X.nx->aM v≠some c->X'.h.get c=X.h.get c)/\(∀c,aM v'=some c->aM v=some c\/X.nx<=c):=by
 rcases h with⟨rfl,rfl⟩|⟨b,c,cs,rfl,V,t,O,Q,M,R,N⟩
 .refine⟨.sl X.nx 0 1 1 true,⟨X.h.set X.nx (some (.cells e true k)),X.nx+1⟩,?_,.inr ⟨X.nx,1,e,rfl,Af _,by rw[s,Fp],J,by simp,jd,Nat.one_pos,fun i a' hi=>?_⟩,by simp,fun c p _=>(Same.alloc X _).2 c p,fun c p=>by cases p;exact .inr (Af _)⟩
  .show(bG (mP x) fun j=>bG (eU x X.h k j) fun new=>aAA .ct bytes k j new X)=_;rw[B,aH,C,aH];show qS bytes k 1 e X=_;have F:1<=room:=by simpa using K
   have G:1 * bytes<=room:=by simpa using L
   unfold qS;rw[show Nat.beq 1 0=false from rfl,aU,Ak F,aN,Ak G,aN];rfl
  .cases i with
   | zero=>
    simp at hi;subst hi;exact⟨e,s,fun j y d=>by rw[Dy,Am];exact d,D⟩
   | succ i=>simp at hi
 .by_cases p:l.length+1<=c
  .have H:l.length * k+e.length<=cs.length:=by
    rw[s,t,<-Dr];exact Db k p
   refine⟨.sl b 0 (l.length+1) c true,⟨X.h.set b (some (.cells (cs.take (l.length * k)++e++cs.drop (l.length * k+e.length)) true k)),X.nx⟩,?_,.inr ⟨b,c,cs.take (l.length * k)++e++cs.drop (l.length * k+e.length),by rw[Aj,Ba],by rw[Aj,Ba];exact p,by simp;omega,O,Q,jd,R,fun i a' hi=>?_⟩,Af _,fun A _ q=>?_,fun A g=>.inl g⟩
   .show(bG (mP x) fun j=>bG (eU x X.h k j) fun new=>aAA (.sl b 0 l.length c true) bytes k j new X)=_;rw[B,aH,C,aH];show lR bytes k b 0 l.length c true 1 e X=_;unfold lR;rw[Ak p,aN,show Nat.beq 1 0=false from rfl,aU,Am,aGc M H,aH]
   .rw[Ec] at hi;split at hi
    .rename_i f;have⟨I,u,w,z⟩:=N i a' hi;refine⟨I,u,fun j y d=>?_,z⟩;have n:j<k:=by rw[<-u];exact(Ai.1 d).1
     rw[uQ H,if_pos (qH f n)];exact w j y d
    .rename_i f;have o:i - l.length=0:=by
      rcases Ci (i - l.length) with o|o
      .exact o
      .rw[Cd (by simp;omega)] at hi;cases hi
     rw[o] at hi;cases hi;have r:i=l.length:=by omega
     subst r;refine⟨e,s,fun j y d=>?_,D⟩;have n:j<e.length:=(Ai.1 d).1;rw[uQ H,if_neg au,if_pos au,Nat.add_sub_cancel_left];exact d
   .simp only;rw[ef,if_neg (fun e=>q (by rw[e];rfl))]
  .obtain rfl:c=l.length:=by omega
   refine⟨.sl X.nx 0 (l.length+1) (l.length+1) true,⟨(X.h.set b Option.none).set X.nx (some (.cells (cs++e) true k)),X.nx+1⟩,?_,.inr ⟨X.nx,l.length+1,cs++e,by rw[Aj,Ba],by rw[Aj,Ba];exact Af _,by rw[Aj,t,s,Dr],J,by simp,jd,au,fun i a' hi=>?_⟩,by simp,fun A g q=>?_,fun A g=>by cases g;exact .inr (Af _)⟩
   .show(bG (mP x) fun j=>bG (eU x X.h k j) fun new=>aAA (.sl b 0 l.length l.length true) bytes k j new X)=_;rw[B,aH,C,aH];show lR bytes k b 0 l.length l.length true 1 e X=_;unfold lR;have w:Nat.ble (l.length+1) l.length=false:=by rw[Cj];intro h;have:=Bc h;omega
    rw[w,aU,Ak K,aN,Ak L,aN,M,aH];have z:cut cs 0 (l.length * k)=some cs:=by
     unfold cut;rw[iG,iP,Dn,if_pos au,Bd au]
    have S:Nat.beq (0+l.length * k) (mF cs)=true:=by rw[gD,t,Bl];omega
    have T:Nat.beq k k=true:=Fq k;simp only[xX,z,aH,aN,S,T,grown,fS]
   .rw[Ec] at hi;split at hi
    .rename_i f;have⟨I,u,w,z⟩:=N i a' hi;refine⟨I,u,fun j y d=>?_,z⟩;have n:j<k:=by rw[<-u];exact(Ai.1 d).1
     rw[Ao (by rw[t];exact qH f n)];exact w j y d
    .rename_i f;have o:i - l.length=0:=by
      rcases Ci (i - l.length) with o|o
      .exact o
      .rw[Cd (by simp;omega)] at hi;cases hi
     rw[o] at hi;cases hi;have r:i=l.length:=by omega
     subst r;refine⟨e,s,fun j y d=>?_,D⟩;rw[Ap au,t,Nat.add_sub_cancel_left];exact d
   .simp only;have:A≠b:=fun e=>q (by rw[e];rfl);rw[ef,if_neg au,ef,if_neg this]
def mL.set(h:mL k E S0 X v l){a:α}{e:cd}(hi:i<l.length)(o:e.length=k)(w:E e a):
  ∃b p X',eQ (.slice k) v i=some (.ptr b p)/\aM v=some b/\qX (.ptr b p) k e X=some (.undef,X')/\mL k E S0 X' v (l.set i a)/\X'.nx=X.nx/\∀c,c≠b->X'.h.get c=X.h.get c:=by
 rcases h with⟨rfl,rfl⟩|⟨b,c,cs,rfl,x,z,A,B,C,D,F⟩
 .exact absurd hi (Ca i)
 .have r:0+i * k+e.length<=cs.length:=by
   rw[o,z,Am,<-Dr];exact Db k au
  refine⟨b,0+i * k,_,?_,rfl,aMK C r o,.inr ⟨b,c,cs.take (0+i * k)++e++cs.drop (0+i * k+e.length),by rw[Aw],by rw[Aw];exact x,by simp;omega,A,B,jd,D,fun j a' g=>?_⟩,rfl,fun J d=>by simp only;rw[ef,if_neg d]⟩
  .show cC (Nat.blt i l.length) _ _=_;rw[show Nat.blt i l.length=true from Ak hi,aN]
  .rw[Cw] at g;split at g
   .rename_i G;subst G;try rw[if_pos hi] at g
    cases g;refine⟨e,o,fun q y f=>?_,w⟩;have n:q<e.length:=(Ai.1 f).1;rw[uQ r,if_neg au,if_pos au];rw[show i * k+q - (0+i * k)=q by omega];exact f
   .rename_i d;have⟨H,t,u,I⟩:=F j a' g;refine⟨H,t,fun q y f=>?_,I⟩;have n:q<k:=by rw[<-t];exact(Ai.1 f).1
    rw[uQ r];rcases Nat.lt_or_gt_of_ne d with s|s
    .have:i * k+e.length<=j * k:=by
      rw[o,<-Dr];exact Db k s
     rw[if_neg au,if_neg au];exact u q y f
    .rw[if_pos (by have:=qH s n;omega)];exact u q y f
def mL.shrink(h:mL k E S0 X v l)(e:l.length=n+1):∃v',(∀ (F:Fr) (hi:cT),gN (hi.val F)=some n->rO (.slice k) v Option.none (some hi) Option.none F=some v')/\mL k E S0 X v' l.dropLast/\aM v'=aM v:=by
 rcases h with⟨rfl,rfl⟩|⟨b,c,cs,rfl,w,f,g,j,o,p,q⟩
 .cases e
 .refine⟨.sl b 0 n c true,fun F hi r=>?_,.inr ⟨b,c,cs,by rw[List.length_dropLast,e];rfl,by rw[List.length_dropLast];omega,f,g,j,o,p,fun i a d=>?_⟩,rfl⟩
  .show aFA k b 0 l.length c true Option.none (some hi) Option.none F=_;unfold aFA;have s:lA l.length c Option.none (some hi) Option.none F=some (0,n,c):=by
    unfold lA;show(bG (some c) fun m=>bG (gN (hi.val F)) fun h=>bG (some 0) fun l'=>_)=_;rw[r];simp only[aH];rw[Ak (Af c),aN,Ak (au:n<=c),aN,Ak (Ck n),aN]
   rw[s,aH];have t:Nat.beq c 0=false:=by rw[Cj];intro h;rw[Bl] at h;omega
   simp only[t,aU,Dy,Bs,Es];rfl
  .have u:i<l.dropLast.length:=(Ai.1 d).1;rw[List.getElem?_dropLast] at d;split at d
   .exact q i a d
   .cases d
end
def zX{x n:Int}(H:Has fns)(h:1<=n)(i:n<=1000000000):iI fns (.fn 24 [] []) [je x,je n] S fun r X=>Same S X/\∃y,r=je y/\0<=y/\y<n:=by
 have d:=aK7 (.p .int) (a:=x) (b:=n) au;have e:=Int.tmod_lt_of_pos x (au:0<n);have f:=Int.lt_tmod_of_pos x (au:0<n);generalize x.tmod n=y at *;refine cK H.f24 (by simp) ?_;refine ae ?_;refine cA (ae ?_);refine cA (de d ?_);refine gH (ae ?_);by_cases c:y<0
 .have g:IntKind.i64.wrap (y+n)=y+n:=wrap_i64 au au;refine aS (iu (Ac c)) ?_;refine aL (de g ?_);refine cA (ae ?_);refine aT (ae ?_);exact⟨eu _,y+n,rfl,au,au⟩
 .refine aQ (iu (Aa c)) (aK ?_);refine ae ?_
  refine cA (ae ?_);refine aT (ae ?_);exact⟨eu _,y,rfl,au,au⟩
structure uC(X:St)(db:Nat)(lv:AV)(l:bu):Prop where
 lt:db<X.nx
 c:∃at':Nat,X.h.get db=some (.cells [lv,.int .i64 (at':Int)] false 0)/\at'<=l.length
 il:bN .i64 X lv l
 ne:aM lv≠some db
 bd:l.length<=140737488355328
def uC.move(h:uC X db b l)(d:X.nx<=X'.nx)(e:X'.h.get db=X.h.get db)(f:∀c,aM b=some c->X'.h.get c=X.h.get c):uC X' db b l:=by
 have⟨a,g,i⟩:=h.c;exact⟨Ae h.lt d,⟨a,e.trans g,i⟩,eT h.il d f,h.ne,h.bd⟩
def mJ{f:AV}{n:Int}(H:Has fns)(h:uC X db f l)(N:1<=n)(O:n<=1000000000):iI fns (.fn 16 [] []) [.ptr db 0,je n] X fun r X'=>cD db X X'/\uC X' db f l/\∃y,r=je y/\0<=y/\y<n:=by
 have⟨a,w,V⟩:=h.c;have Q:=h.bd;have sl:=bN.self h.il;refine cK H.f16 (by simp) ?_;refine ae ?_;refine cA (ae ?_);refine aD (aD (jK ?_));by_cases x:(l.length:Int)<=(a:Int)
 .simp only[↓sU,sD,rE,↓reduceIte,rA,bE,bP,bF,aB,aP,aA,aFR w,aAl w,sl,h.il.len,Ah,Ac (show(a:Int)≥(l.length:Int) from x)];refine aS (af) ?_;refine cA (ae ?_);refine aT (ae ?_);exact⟨⟨Bq _ _,fun c _ _=>rfl⟩,h.move (Bq _ _) rfl fun _ _=>rfl,0,rfl,au,au⟩
 simp only[↓sU,sD,rE,↓reduceIte,rA,bE,bP,bF,aB,aP,aA,aFR w,aAl w,sl,h.il.len,Ah,Aa (show ¬ (a:Int)≥(l.length:Int) from x)];refine aQ im (aK ?_);refine ae ?_
 have g:a<l.length:=by omega
 have R:=ed a
 have T:IntKind.i64.wrap (((a+1:Nat):Int) - 1)=(a:Int):=by rw[wrap_i64 au au];omega
 generalize o:(⟨X.h,X.nx+_⟩:St)=j;have J:j.h=X.h:=by rw[<-o]
 have U:X.nx<=j.nx:=by rw[<-o];exact Bq _ _
 clear o;have z:j.h.get db=jf [f,je (a:Int)]:=by rw[J];exact w
 refine cA (fg @bE @bF @aB @aA (aAl z) R ?_);refine fN (v:=.undef) (S1:=⟨j.h.set db (jf [f,je ((a+1:Nat):Int)]),j.nx⟩) (fun call=>by refine ew @dL @dD ?_;exact xO (cs:=[f,je (a:Int)]) (p:=1) (S:=j) z (by simp)) ?_;refine ae ?_;generalize q:(⟨j.h.set db (jf [f,je ((a+1:Nat):Int)]),j.nx⟩:St)=X1;have s:X1.h.get db=jf [f,je ((a+1:Nat):Int)]:=by rw[<-q];simp only;rw[ef,if_pos rfl]
 have u:cD db X X1:=by rw[<-q];exact⟨U,fun c _ t=>by simp only;rw[ef,if_neg t,J]⟩
 clear q;have b:bN .i64 X1 f l:=eT h.il u.1 fun c i=>u.2 c (dP h.il i) fun e=>h.ne (by rw[i,e]);have B:uC X1 db f l:=⟨Ae h.lt u.1,⟨a+1,s,g⟩,b,h.ne,h.bd⟩;have K:=b.df g;have L:=b.ld g;have⟨W,Y,C,D⟩:=bN.place b g;rw[C] at K L;have F:=B.lt;refine aD (iD (fun _=>False) ?_);intro Z x2;simp only[↓sU,sD,rE,↓reduceIte,rA,bE,bP,bF,aB,aP,aA,aFR s,aAl s,sl,F,An,T,aJ,K,L,D];refine dR rfl ?_;refine ae ?_;refine aW (zX H N O) ?_;rintro _ X3 ⟨M,y,rfl,G,I⟩;refine⟨M,?_⟩
 refine aT (ae ?_);have d:=x2.trans M;exact⟨⟨Av u.1 d.1,fun c A t=>(d.2 c (Ae A u.1)).trans (u.2 c A t)⟩,B.move d.1 (d.2 _ B.lt) fun c i=>d.2 c (dP b i),y,rfl,G,I⟩
structure Mk where
 lvl:AV
 va:AV
 na:AV
 ia:AV
 lv:AV
 most:Int
 pend:Int
 ps:Int
 zero:Bool
 small:Bool
 dl:bu
 cg:List cJ
 ch:List fU
 views:List (Int×Int×Int)
variable {m':Mk}
def PB(mb db:Nat)(m:Mk)(c:Nat):Prop:=c≠mb/\c≠db/\aM m.na≠some c/\aM m.ia≠some c/\aM m.va≠some c
def gI(mb db:Nat)(m:Mk)(X:St)(m':Mk)(X':St):Prop:=X.nx<=X'.nx/\∀c,c<X.nx->PB mb db m c->X'.h.get c=X.h.get c/\PB mb db m' c
def gI.refl{m:Mk}:gI mb db m X m X:=⟨Af _,fun _ _ h=>⟨rfl,h⟩⟩
def gI.trans{m d:Mk}{X'':St}(h:gI mb db m X m' X')(h':gI mb db m' X' d X''):gI mb db m X d X'':=
 ⟨Av h.1 h'.1,fun c e f=>by
  have⟨a,b⟩:=h.2 c e f;have⟨a',g⟩:=h'.2 c (Ae e h.1) b;exact⟨a'.trans a,g⟩⟩
def gI.same{m:Mk}(h:Same X X'):gI mb db m X m X':=⟨h.1,fun c a b=>⟨h.2 c a,b⟩⟩
def aMO(mb db:Nat)(P:Nat->Prop)(m:Mk)(X:St)(m':Mk)(X':St):Prop:=X.nx<=X'.nx/\∀c,c<X.nx->PB mb db m c->P c->X'.h.get c=X.h.get c/\PB mb db m' c
def gI.p{m:Mk}(h:gI mb db m X m' X'):aMO mb db P m X m' X':=⟨h.1,fun c a b _=>h.2 c a b⟩
def aMO.np{m:Mk}(h:aMO mb db P m X m' X'):∀c,c<X.nx->(PB mb db m c/\P c)->X'.h.get c=X.h.get c/\(PB mb db m' c/\P c):=fun c b a=>⟨(h.2 c b a.1 a.2).1,(h.2 c b a.1 a.2).2,a.2⟩
def PlE(_:St)(cs:cd)(a:Int×Int×Int):Prop:=cs= [je a.1,je a.2.1,je a.2.2]
def aIv(cs:cd)(a:fU):Prop:=cs= [je a.player,je a.cr]
def VwE(X:St)(P:Nat->Prop)(cs:cd)(a:Int×Int×Int):Prop:=∃b l,cs= [je a.1,je a.2.1,b,je a.2.2]/\bN .i64 X b l/\l.length<=1000/\∀c,aM b=some c->P c
def VwE.move{e:cd}{a:Int×Int×Int}(h:VwE X P e a)(i:X.nx<=X'.nx)(f:∀c,c<X.nx->P c->X'.h.get c=X.h.get c/\P' c):VwE X' P' e a:=by
 obtain⟨j,l,rfl,d,n,g⟩:=h;exact⟨j,l,rfl,eT d i fun c b=>(f c (dP d b) (g c b)).1,n,fun c b=>(f c (dP d b) (g c b)).2⟩
structure MkP(P:Nat->Prop)(S0 X:St)(mb db:Nat)(m:Mk)(LV:List (Int×Int×Int)):Prop where
 lt:mb<X.nx
 ge:S0.nx<=mb
 dge:S0.nx<=db
 ne:mb≠db
 dr:uC X db m.lv m.dl
 dp:∀c,aM m.lv=some c->PB mb db m c/\P c
 lev:aG 3 PlE X m.lvl LV
 levp:∀c,aM m.lvl=some c->PB mb db m c/\P c
 nod:mL 6 (aBs X fun c=>PB mb db m c/\P c) S0 X m.na m.cg
 inf:mL 2 aIv S0 X m.ia m.ch
 vw:mL 4 (VwE X fun c=>PB mb db m c/\P c) S0 X m.va m.views
 d1:∀c,aM m.na=some c->c≠mb/\c≠db/\aM m.ia≠some c/\aM m.va≠some c
 d2:∀c,aM m.ia=some c->c≠mb/\c≠db/\aM m.va≠some c
 d3:∀c,aM m.va=some c->c≠mb/\c≠db
def fD(db:Nat)(m:Mk):cd:=[.ptr db 0,m.lvl,m.va,je m.most,je m.pend,.bool m.zero,.bool m.small,je m.ps,m.na,m.ia]
structure nO(P:Nat->Prop)(S0 X:St)(mb db:Nat)(m:Mk)(LV:List (Int×Int×Int)):Prop where
 p:MkP P S0 X mb db m LV
 g:X.h.get mb=some (.cells (fD db m) false 0)
section
variable {P:Nat->Prop}{S0 X X':St}{mb db:Nat}{m m':Mk}{LV:List (Int×Int×Int)}
def aDt{k:Nat}{α:Type}{E:St->cd->α->Prop}{l:List α}(h:aG k E X v l)(a:aM v=some c):c<X.nx:=by
 rcases h with⟨_,rfl|rfl⟩|⟨b,off,cap,o,cs,rfl,_,d,_⟩
 .cases a
 .cases a
 .cases a;exact d
def MkP.of(h:MkP P S0 X mb db m LV)(K:aMO mb db P m X m' X')(g:m'.lvl=m.lvl)(i:m'.lv=m.lv)(j:m'.dl=m.dl)(b:uC X' db m.lv m.dl)(d:mL 6 (aBs X' fun c=>PB mb db m' c/\P c) S0 X' m'.na m'.cg)(e:mL 2 aIv S0 X' m'.ia m'.ch)(f:mL 4 (VwE X' fun c=>PB mb db m' c/\P c) S0 X' m'.va m'.views)
  (d1:∀c,aM m'.na=some c->c≠mb/\c≠db/\aM m'.ia≠some c/\aM m'.va≠some c) (d2:∀c,aM m'.ia=some c->c≠mb/\c≠db/\aM m'.va≠some c) (d3:∀c,aM m'.va=some c->c≠mb/\c≠db):MkP P S0 X' mb db m' LV where
 lt:=Ae h.lt K.1
 ge:=h.ge
 dge:=h.dge
 ne:=h.ne
 dr:=by rw[i,j];exact b
 dp:=fun c a=>by rw[i] at a;exact(K.np c (dP h.dr.il a) (h.dp c a)).2
 lev:=by rw[g];exact aG.moveB h.lev K.1 (fun c a=>(K.np c (aDt h.lev a) (h.levp c a)).1) fun _ _ h=>h
 levp:=fun c a=>by rw[g] at a;exact(K.np c (aDt h.lev a) (h.levp c a)).2
 nod:=d
 inf:=e
 vw:=f
 d1:=d1
 d2:=d2
 d3:=d3
def MkP.keep(h:MkP P S0 X mb db m LV)(d:X.nx<=X'.nx)(i:∀c,c<X.nx->c≠mb->c≠db->X'.h.get c=X.h.get c)(n:uC X' db m.lv m.dl)(q:m'.lvl=m.lvl)(r:m'.lv=m.lv)(s:m'.dl=m.dl)(o:m'.na=m.na)(t:m'.cg=m.cg)(j:m'.ia=m.ia)(u:m'.ch=m.ch)(f:m'.va=m.va)(w:m'.views=m.views):MkP P S0 X' mb db m' LV/\gI mb db m X m' X':=by
 have K:gI mb db m X m' X':=⟨d,fun c b p=>⟨i c b p.1 p.2.1,by unfold PB;rw[o,j,f];exact p⟩⟩;refine⟨h.of K.p q r s n ?_ ?_ ?_ ?_ ?_ ?_,K⟩
 .rw[o,t];exact h.nod.move d (fun c b=>i c (h.nod.blk b).2 (h.d1 c b).1 (h.d1 c b).2.1) fun e a g=>g.move d (gI.p K).np
 .rw[j,u];exact h.inf.move d (fun c b=>i c (h.inf.blk b).2 (h.d2 c b).1 (h.d2 c b).2.1) fun e a g=>g
 .rw[f,w];exact h.vw.move d (fun c b=>i c (h.vw.blk b).2 (h.d3 c b).1 (h.d3 c b).2) fun e a g=>g.move d (gI.p K).np
 .rw[o,j,f];exact h.d1
 .rw[j,f];exact h.d2
 .rw[f];exact h.d3
def nO.same(h:nO P S0 X mb db m LV)(a:Same X X'):nO P S0 X' mb db m LV:=
 ⟨(h.p.keep a.1 (fun c b _ _=>a.2 c b) (h.p.dr.move a.1 (a.2 _ h.p.dr.lt) fun c b=>a.2 c (dP h.p.dr.il b)) rfl rfl rfl rfl rfl rfl rfl rfl rfl).1,(a.2 _ h.p.lt).trans h.g⟩
def nO.drawn(h:nO P S0 X mb db m LV)(d:cD db X X')(e:uC X' db m.lv m.dl):nO P S0 X' mb db m LV/\gI mb db m X m X':=by
 have⟨a,b⟩:=h.p.keep (m':=m) d.1 (fun c f _ g=>d.2 c f g) e rfl rfl rfl rfl rfl rfl rfl rfl rfl;exact⟨⟨a,(d.2 _ h.p.lt h.p.ne).trans h.g⟩,b⟩
def MkP.put(h:MkP P S0 X mb db m LV)(g:X'.h.get mb=jf (fD db m))(d:X.nx<=X'.nx)(b:∀c,c<X.nx->c≠mb->X'.h.get c=X.h.get c):nO P S0 X' mb db m LV:=
 ⟨(h.keep (m':=m) d (fun c a e _=>b c a e) (h.dr.move d (b _ h.dr.lt h.ne.symm) fun c a=>b c (dP h.dr.il a) (h.dp c a).1.1) rfl rfl rfl rfl rfl rfl rfl rfl rfl).1,g⟩
def nO.local(h:nO P S0 X mb db m LV)(f:X.nx<=X'.nx)(g:∀c,c<X.nx->(¬PB mb db m c\/P c)->X'.h.get c=X.h.get c):nO P S0 X' mb db m LV:=by
 have K:aMO mb db P m X m X':=⟨f,fun c b d j=>⟨g c b (.inr j),d⟩⟩;refine⟨h.p.of K rfl rfl rfl (h.p.dr.move f (g _ h.p.dr.lt (.inl fun d=>d.2.1 rfl)) fun c b=>g c (dP h.p.dr.il b) (.inr (h.p.dp c b).2)) (h.p.nod.move f (fun c b=>g c (h.p.nod.blk b).2 (.inl fun d=>d.2.2.1 b)) fun e a i=>i.move f K.np) (h.p.inf.move f (fun c b=>g c (h.p.inf.blk b).2 (.inl fun d=>d.2.2.2.1 b)) fun e a i=>i) (h.p.vw.move f (fun c b=>g c (h.p.vw.blk b).2 (.inl fun d=>d.2.2.2.2 b)) fun e a i=>i.move f K.np) h.p.d1 h.p.d2 h.p.d3,?_⟩;exact(g _ h.p.lt (.inl fun d=>d.1 rfl)).trans h.g
def MkP.mono(h:MkP P S0 X mb db m LV)(f:∀c,c<X.nx->P c->P' c):MkP P' S0 X mb db m LV where
 lt:=h.lt
 ge:=h.ge
 dge:=h.dge
 ne:=h.ne
 dr:=h.dr
 dp:=fun c b=>⟨(h.dp c b).1,f c (dP h.dr.il b) (h.dp c b).2⟩
 lev:=h.lev
 levp:=fun c b=>⟨(h.levp c b).1,f c (aDt h.lev b) (h.levp c b).2⟩
 nod:=h.nod.move (Af _) (fun _ _=>rfl) fun e a g=>g.move (Af _) fun c b d=>⟨rfl,d.1,f c b d.2⟩
 inf:=h.inf
 vw:=h.vw.move (Af _) (fun _ _=>rfl) fun e a g=>g.move (Af _) fun c b d=>⟨rfl,d.1,f c b d.2⟩
 d1:=h.d1
 d2:=h.d2
 d3:=h.d3
def nO.mono(h:nO P S0 X mb db m LV)(a:∀c,c<X.nx->P c->P' c):nO P' S0 X mb db m LV:=⟨h.p.mono a,h.g⟩
def MkP.pushN(h:MkP P S0 X mb db m LV){l':List cJ}(d:X.nx<=X'.nx)(i:∀c,c<X.nx->aM m.na≠some c->X'.h.get c=X.h.get c)(n:∀c,aM v'=some c->aM m.na=some c\/X.nx<=c)(o:mL 6 (aBs X fun c=>PB mb db m c/\P c) S0 X' v' l'):MkP P S0 X' mb db {m with na:=v',cg:=l'} LV/\gI mb db m X {m with na:=v',cg:=l'} X':=by
 have K:gI mb db m X {m with na:=v',cg:=l'} X':=⟨d,fun c b f=>⟨i c b f.2.2.1,f.1,f.2.1,fun e=>(n c e).elim (fun g=>f.2.2.1 g) fun g=>absurd b (Nat.not_lt.2 g),f.2.2.2.1,f.2.2.2.2⟩⟩;have old:∀ {c},aM m.na=some c->c<X.nx:=fun b=>(h.nod.blk b).2;refine⟨h.of K.p rfl rfl rfl (h.dr.move d (i _ h.dr.lt fun e=>(h.d1 _ e).2.1 rfl) fun c b=>i c (dP h.dr.il b) (h.dp c b).1.2.2.1) (o.move (Af _) (fun _ _=>rfl) fun e a j=>j.move d (gI.p K).np) (h.inf.move d (fun c b=>i c (h.inf.blk b).2 fun e=>(h.d1 c e).2.2.1 b) fun e a j=>j) (h.vw.move d (fun c b=>i c (h.vw.blk b).2 fun e=>(h.d1 c e).2.2.2 b) fun e a j=>j.move d (gI.p K).np) (fun c b=>?_) h.d2 h.d3,K⟩;rcases n c b with g|g
 .exact h.d1 c g
 .exact⟨ax h.lt,ax h.dr.lt,fun e=>by have:=(h.inf.blk e).2;omega,fun e=>by have:=(h.vw.blk e).2;omega⟩
def MkP.pushI(h:MkP P S0 X mb db m LV){l':List fU}(f:X.nx<=X'.nx)(i:∀c,c<X.nx->aM m.ia≠some c->X'.h.get c=X.h.get c)(j:∀c,aM v'=some c->aM m.ia=some c\/X.nx<=c)(o:mL 2 aIv S0 X' v' l'):MkP P S0 X' mb db {m with ia:=v',ch:=l'} LV/\gI mb db m X {m with ia:=v',ch:=l'} X':=by
 have K:gI mb db m X {m with ia:=v',ch:=l'} X':=⟨f,fun c b g=>⟨i c b g.2.2.2.1,g.1,g.2.1,g.2.2.1,fun e=>(j c e).elim (fun d=>g.2.2.2.1 d) fun d=>absurd b (Nat.not_lt.2 d),g.2.2.2.2⟩⟩;refine⟨h.of K.p rfl rfl rfl (h.dr.move f (i _ h.dr.lt fun e=>(h.d2 _ e).2.1 rfl) fun c b=>i c (dP h.dr.il b) (h.dp c b).1.2.2.2.1) (h.nod.move f (fun c b=>i c (h.nod.blk b).2 (h.d1 c b).2.2.1) fun e a n=>n.move f (gI.p K).np) o (h.vw.move f (fun c b=>i c (h.vw.blk b).2 fun e=>(h.d2 c e).2.2 b) fun e a n=>n.move f (gI.p K).np) (fun c b=>⟨(h.d1 c b).1,(h.d1 c b).2.1,fun e=>?_,(h.d1 c b).2.2.2⟩) (fun c b=>?_) h.d3,K⟩
 .rcases j c e with d|d
  .exact(h.d1 c b).2.2.1 d
  .have:=(h.nod.blk b).2;omega
 .rcases j c b with d|d
  .exact h.d2 c d
  .exact⟨ax h.lt,ax h.dr.lt,fun e=>by have:=(h.vw.blk e).2;omega⟩
def MkP.pushV(h:MkP P S0 X mb db m LV){l':List (Int×Int×Int)}(f:X.nx<=X'.nx)(i:∀c,c<X.nx->aM m.va≠some c->X'.h.get c=X.h.get c)(n:∀c,aM v'=some c->aM m.va=some c\/X.nx<=c)(o:mL 4 (VwE X fun c=>PB mb db m c/\P c) S0 X' v' l'):MkP P S0 X' mb db {m with va:=v',views:=l'} LV/\gI mb db m X {m with va:=v',views:=l'} X':=by
 have K:gI mb db m X {m with va:=v',views:=l'} X':=⟨f,fun c b g=>⟨i c b g.2.2.2.2,g.1,g.2.1,g.2.2.1,g.2.2.2.1,fun e=>(n c e).elim (fun d=>g.2.2.2.2 d) fun d=>absurd b (Nat.not_lt.2 d)⟩⟩;refine⟨h.of K.p rfl rfl rfl (h.dr.move f (i _ h.dr.lt fun e=>(h.d3 _ e).2 rfl) fun c b=>i c (dP h.dr.il b) (h.dp c b).1.2.2.2.2) (h.nod.move f (fun c b=>i c (h.nod.blk b).2 (h.d1 c b).2.2.2) fun e a j=>j.move f (gI.p K).np) (h.inf.move f (fun c b=>i c (h.inf.blk b).2 (h.d2 c b).2.2) fun e a j=>j) (o.move (Af _) (fun _ _=>rfl) fun e a j=>j.move f (gI.p K).np) (fun c b=>⟨(h.d1 c b).1,(h.d1 c b).2.1,(h.d1 c b).2.2.1,fun e=>?_⟩) (fun c b=>⟨(h.d2 c b).1,(h.d2 c b).2.1,fun e=>?_⟩) (fun c b=>?_),K⟩
 .rcases n c e with d|d
  .exact(h.d1 c b).2.2.2 d
  .have:=(h.nod.blk b).2;omega
 .rcases n c e with d|d
  .exact(h.d2 c b).2.2 d
  .have:=(h.inf.blk b).2;omega
 .rcases n c b with d|d
  .exact h.d3 c d
  .exact⟨ax h.lt,ax h.dr.lt⟩
end
def aTO(X:St)(F:Fr)(db:Nat)(a pv:AV)(dl:bu)(F':Fr)(Z:St)(ps:List iR):Prop:=∃w:Int, -3<=w/\w<=3/\ps= [⟨8,X.nx+8,.cells [je w] false 0⟩]/\X.nx+12<=Z.nx/\cD db X Z/\uC Z db a dl/\(∀j,j<6->aC j F'=aC j F)/\aC 17 F'=pv/\aC 24 F'= .sl (X.nx+8) 0 1 1 false
def aMT{o:List AO}{m:Mk}{k p f xw:AV}(H:Has fns)(he:o=aNR++aNy)(d:nO P S0 X mb db m LV)(p0:aC 0 F= .ptr mb 0)(p4:aC 4 F= .ptr xb 0)(gx:X.h.get xb=jf [k,p,f,xa,xw,pv])(J:PB mb db m xb/\¬P xb)(lx:xb<Y0.nx)(hY:Y0.nx<=X.nx)(D:fP 1 Y0 X pv l.length (bD l))(L:∀c,aM pv=some c->PB mb db m c/\¬P c)(hP:∀c,X.nx<=c->¬P c)(hl:l.length<=1000)
  (hQ:∀F' Z pv' w,(∀j,j<6->aC j F'=aC j F)->nO P S0 Z mb db m LV->X.nx<=Z.nx->(∀c,c<X.nx->PB mb db m c->c≠xb->aM pv≠some c->Z.h.get c=X.h.get c)->Z.h.get xb=jf [k,p,f,xa,xw,pv']->fP 1 Y0 Z pv' (l++ [w]).length (bD (l++ [w]))->(∀c,aM pv'=some c->X.nx<=c)-> -3<=w->w<=3->Q .normal ⟨F',inr⟩ Z):jP fns (.drw o) ⟨F,inr⟩ X Q:=by
 have aZ:o.length=12:=by rw[he];rfl
 have u:xb<X.nx:=Ae lx hY;have M:=d.p.lt;have A:xb≠db:=J.1.2.1;have N:=d.p.ne;have O:=cH (p:=0) d.g rfl;have sp:=D.self;refine oO (W:=fun c=>c=db) (K:=9) (R:=aTO X F db m.lv pv m.dl) he rfl rfl (fun X1 x1 a0 a1=>?_) ?_
 .have T:=cH (p:=5) gx rfl;unfold aNR;simp only[↓sU,sD,rE,↓reduceIte,rA,p0,p4,bE,bP,bF,aB,aP,aA,T,O,sp,u,M,A,N,An];refine jI rfl (ae (aW (mJ H (d.same x1).p.dr (n:=7) az az) ?_));rintro _ X2 ⟨x2,d2,y,rfl,y1,y2⟩;refine⟨⟨x2.1,fun c a q=>x2.2 c (Ae a x1.1) q⟩,?_⟩;have Y:IntKind.i64.wrap (y - 3)=y - 3:=wrap_i64 au au;have aa:=fun(F:Fr) (id:Nat) (h:aC 23 F=je (y - 3))=>jS (t:=3) (z:=je 0) (x:=.t 23) (F:=F) (id:=id) (k:=.i64) (n:=y - 3) h;refine ew Y aa ?_;refine⟨y - 3,au,au,af,(by have h9:X1.nx<=X2.nx:=x2.1;omega),⟨Av x1.1 x2.1,fun c a q=>(x2.2 c (Ae a x1.1) q).trans (x1.2 c a)⟩,d2,fun j hj=>?_,by refine⟨?_,?_⟩<;>simp only[↓sU,sD,rE,↓reduceIte,rA]⟩;have:j=0\/j=1\/j=2\/j=3\/j=4\/j=5:=by omega
  rcases this with rfl|rfl|rfl|rfl|rfl|rfl<;>simp only[↓sU,sD,rE,↓reduceIte,rA]
 rintro F' g ps hs ls ⟨w,Y,w2,rfl,nZ,G,dZ,hk,pA,pB⟩ r ab;have ac:aC 4 F'= .ptr xb 0:=(hk 4 au).trans p4;have m1:∀i,i<9->Nat.testBit 511 i=true:=by decide
 have an:=(d.drawn G dZ).1;obtain⟨U,I⟩:∃U:St,U=⟨g.h.set (X.nx+8) (jf [je w]),g.nx⟩:=⟨_,rfl⟩;have nU:U.nx=g.nx:=by rw[I]
 have kU:∀c,c≠X.nx+8->U.h.get c=g.h.get c:=fun c a=>by rw[I];simp only;rw[ef,if_neg a]
 have gU:U.h.get (X.nx+8)=jf [je w]:=by rw[I];simp only;rw[ef,if_pos rfl]
 have b:∀ {c},aM pv=some c->Y0.nx<=c/\c<X.nx:=fun a=>⟨(D.blk a).1,(D.blk a).2.1⟩;have ao:fP 1 ⟨U.h,Y0.nx⟩ U pv l.length (bD l):=D.move au fun c a=>by
  rw[kU c (by have:=(b a).2;omega)];exact G.2 c (b a).2 (L c a).1.2.1
 have⟨pv',V,eA,gA,bA,nA,rA⟩:=fP.push (bytes:=8) (t:=X.nx+8) (w:=w) ao ⟨by show Y0.nx<=U.nx;omega,fun _ _=>rfl⟩ gU ay ay;have aw:g.h.get xb=jf [k,p,f,xa,xw,pv]:=(G.2 xb u A).trans gx;have aI:V.h.get xb=jf [k,p,f,xa,xw,pv]:=by
  rw[rA xb au (fun e=>by have:=(b e).1;omega),kU xb au];exact aw
 have B:∀ {c},aM pv'=some c->c=U.nx:=fun a=>by rw[bA] at a;exact(Bh a).symm
 unfold aNy;refine iQ (v:=pv') (S1:=V) (r _ m1) (fun call=>?_) ?_
 .rw[cL (az:Nat.testBit 511 8=true),fK];simp only[fE,pA,pB];rw[<-I];exact eA
 rw[cL (az:Nat.testBit 511 8=true)];simp only[iW,dH,aB,aA,aP,aU,fE,bL,bH,ac,rE,↓reduceIte,rA];have aV:pv'.cells=some [pv']:=fP.cells gA;refine iQ (v:=.undef) (S1:=⟨V.h.set xb (jf [k,p,f,xa,xw,pv']),V.nx⟩) (az:Nat.testBit 2047 9=true) (fun call=>?_) ?_
 .rw[dL];simp only[fE,bH,rE,↓reduceIte,bL,aV,aH];exact xO (cs:=[k,p,f,xa,xw,pv]) (p:=5) (S:=V) aI (by simp)
 rw[iC];refine⟨?_,?_⟩
 .simp only[Ce,Bg,Da,Cf,Bw];exact ab _ _ _ m1
 .simp only[bL,fC];have kV:∀c,c<g.nx->c≠X.nx+8->c≠xb->aM pv≠some c->(V.h.set xb (jf [k,p,f,xa,xw,pv'])).get c=g.h.get c:=fun c a h1 h2 h3=>by
   rw[ef,if_neg h2,rA c au h3,kU c h1]
  refine hQ _ _ pv' w (fun j hj=>?_) (an.local (by show g.nx<=V.nx;omega) fun c a s=>?_) (by show X.nx<=V.nx;omega) (fun c a hp h1 h2=>?_) jd ?_ (fun c a=>by have:=B a;omega) Y w2
  .rw[bH,if_neg au,bH,if_neg au];exact hk j hj
  .refine kV c a (fun e=>?_) (fun e=>?_) (fun e=>?_)
   .rcases s with h|h
    .refine h ⟨au,?_,fun C=>?_,fun C=>?_,fun C=>?_⟩
     .have:=d.p.dr.lt;omega
     .have:=(d.p.nod.blk C).2;omega
     .have:=(d.p.inf.blk C).2;omega
     .have:=(d.p.vw.blk C).2;omega
    .exact hP c au h
   .rcases s with h|h
    .exact h (by rw[e];exact J.1)
    .exact J.2 (by rw[<-e];exact h)
   .rcases s with h|h
    .exact h (L c e).1
    .exact(L c e).2 h
  .simp only;rw[kV c au au  h1 h2];exact G.2 c a hp.2.1
  .refine fP.move (S:=V) (by exact gA) (Af _) fun c a=>?_;have:=B a;simp only;rw[ef,if_neg au]
def aSA(X:St)(F:Fr)(db:Nat)(a pv:AV)(dl:bu)(F':Fr)(Z:St)(ps:List iR):Prop:=∃w:Int,1<=w/\w<=3/\ps= [⟨8,X.nx+8,.cells [je w] false 0⟩]/\X.nx+12<=Z.nx/\cD db X Z/\uC Z db a dl/\(∀j,j<16->aC j F'=aC j F)/\aC 140 F'=pv/\aC 147 F'= .sl (X.nx+8) 0 1 1 false
def aNT{o:List AO}{m:Mk}{k p f xp:AV}(H:Has fns)(he:o=aNH++aM4)(d:nO P S0 X mb db m LV)(p0:aC 0 F= .ptr mb 0)(p4:aC 11 F= .ptr xb 0)(gx:X.h.get xb=jf [k,p,f,xa,pv,xp])(J:PB mb db m xb/\¬P xb)(lx:xb<Y0.nx)(hY:Y0.nx<=X.nx)(D:fP 1 Y0 X pv l.length (bD l))(L:∀c,aM pv=some c->PB mb db m c/\¬P c)(hP:∀c,X.nx<=c->¬P c)(hl:l.length<=1000)
  (hQ:∀F' Z pv' w,(∀j,j<16->aC j F'=aC j F)->nO P S0 Z mb db m LV->X.nx<=Z.nx->(∀c,c<X.nx->PB mb db m c->c≠xb->aM pv≠some c->Z.h.get c=X.h.get c)->Z.h.get xb=jf [k,p,f,xa,pv',xp]->fP 1 Y0 Z pv' (l++ [w]).length (bD (l++ [w]))->(∀c,aM pv'=some c->X.nx<=c)->1<=w->w<=3->Q .normal ⟨F',inr⟩ Z):jP fns (.drw o) ⟨F,inr⟩ X Q:=by
 have aZ:o.length=12:=by rw[he];rfl
 have u:xb<X.nx:=Ae lx hY;have M:=d.p.lt;have A:xb≠db:=J.1.2.1;have N:=d.p.ne;have O:=cH (p:=0) d.g rfl;have sp:=D.self;refine oO (W:=fun c=>c=db) (K:=9) (R:=aSA X F db m.lv pv m.dl) he rfl rfl (fun X1 x1 a0 a1=>?_) ?_
 .have T:=cH (p:=4) gx rfl;unfold aNH;simp only[↓sU,sD,rE,↓reduceIte,rA,p0,p4,bE,bP,bF,aB,aP,aA,T,O,sp,u,M,A,N,An];refine jI rfl (ae (aW (mJ H (d.same x1).p.dr (n:=3) az az) ?_));rintro _ X2 ⟨x2,d2,y,rfl,y1,y2⟩;refine⟨⟨x2.1,fun c a q=>x2.2 c (Ae a x1.1) q⟩,?_⟩;have Y:IntKind.i64.wrap (1+y)=1+y:=wrap_i64 au au;have aa:=fun(F:Fr) (id:Nat) (h:aC 146 F=je (1+y))=>jS (t:=3) (z:=je 0) (x:=.t 146) (F:=F) (id:=id) (k:=.i64) (n:=1+y) h;refine ew Y aa ?_;refine⟨1+y,au,au,af,(by have h9:X1.nx<=X2.nx:=x2.1;omega),⟨Av x1.1 x2.1,fun c a q=>(x2.2 c (Ae a x1.1) q).trans (x1.2 c a)⟩,d2,fun j hj=>?_,by refine⟨?_,?_⟩<;>simp only[↓sU,sD,rE,↓reduceIte,rA]⟩;have:j=0\/j=1\/j=2\/j=3\/j=4\/j=5\/j=6\/j=7\/j=8\/j=9\/j=10\/j=11\/j=12\/j=13\/j=14\/j=15:=by omega
  rcases this with rfl|rfl|rfl|rfl|rfl|rfl|rfl|rfl|rfl|rfl|rfl|rfl|rfl|rfl|rfl|rfl<;>simp only[↓sU,sD,rE,↓reduceIte,rA]
 rintro F' g ps hs ls ⟨w,Y,w2,rfl,nZ,G,dZ,hk,pA,pB⟩ r ab;have ac:aC 11 F'= .ptr xb 0:=(hk 11 au).trans p4;have m1:∀i,i<9->Nat.testBit 511 i=true:=by decide
 have an:=(d.drawn G dZ).1;obtain⟨U,I⟩:∃U:St,U=⟨g.h.set (X.nx+8) (jf [je w]),g.nx⟩:=⟨_,rfl⟩;have nU:U.nx=g.nx:=by rw[I]
 have kU:∀c,c≠X.nx+8->U.h.get c=g.h.get c:=fun c a=>by rw[I];simp only;rw[ef,if_neg a]
 have gU:U.h.get (X.nx+8)=jf [je w]:=by rw[I];simp only;rw[ef,if_pos rfl]
 have b:∀ {c},aM pv=some c->Y0.nx<=c/\c<X.nx:=fun a=>⟨(D.blk a).1,(D.blk a).2.1⟩;have ao:fP 1 ⟨U.h,Y0.nx⟩ U pv l.length (bD l):=D.move au fun c a=>by
  rw[kU c (by have:=(b a).2;omega)];exact G.2 c (b a).2 (L c a).1.2.1
 have⟨pv',V,eA,gA,bA,nA,rA⟩:=fP.push (bytes:=8) (t:=X.nx+8) (w:=w) ao ⟨by show Y0.nx<=U.nx;omega,fun _ _=>rfl⟩ gU ay ay;have aw:g.h.get xb=jf [k,p,f,xa,pv,xp]:=(G.2 xb u A).trans gx;have aI:V.h.get xb=jf [k,p,f,xa,pv,xp]:=by
  rw[rA xb au (fun e=>by have:=(b e).1;omega),kU xb au];exact aw
 have B:∀ {c},aM pv'=some c->c=U.nx:=fun a=>by rw[bA] at a;exact(Bh a).symm
 unfold aM4;refine iQ (v:=pv') (S1:=V) (r _ m1) (fun call=>?_) ?_
 .rw[cL (az:Nat.testBit 511 8=true),fK];simp only[fE,pA,pB];rw[<-I];exact eA
 rw[cL (az:Nat.testBit 511 8=true)];simp only[iW,dH,aB,aA,aP,aU,fE,bL,bH,ac,rE,↓reduceIte,rA];have aV:pv'.cells=some [pv']:=fP.cells gA;refine iQ (v:=.undef) (S1:=⟨V.h.set xb (jf [k,p,f,xa,pv',xp]),V.nx⟩) (az:Nat.testBit 2047 9=true) (fun call=>?_) ?_
 .rw[dL];simp only[fE,bH,rE,↓reduceIte,bL,aV,aH];exact xO (cs:=[k,p,f,xa,pv,xp]) (p:=4) (S:=V) aI (by simp)
 rw[iC];refine⟨?_,?_⟩
 .simp only[Ce,Bg,Da,Cf,Bw];exact ab _ _ _ m1
 .simp only[bL,fC];have kV:∀c,c<g.nx->c≠X.nx+8->c≠xb->aM pv≠some c->(V.h.set xb (jf [k,p,f,xa,pv',xp])).get c=g.h.get c:=fun c a h1 h2 h3=>by
   rw[ef,if_neg h2,rA c au h3,kU c h1]
  refine hQ _ _ pv' w (fun j hj=>?_) (an.local (by show g.nx<=V.nx;omega) fun c a s=>?_) (by show X.nx<=V.nx;omega) (fun c a hp h1 h2=>?_) jd ?_ (fun c a=>by have:=B a;omega) Y w2
  .rw[bH,if_neg au,bH,if_neg au];exact hk j hj
  .refine kV c a (fun e=>?_) (fun e=>?_) (fun e=>?_)
   .rcases s with h|h
    .refine h ⟨au,?_,fun C=>?_,fun C=>?_,fun C=>?_⟩
     .have:=d.p.dr.lt;omega
     .have:=(d.p.nod.blk C).2;omega
     .have:=(d.p.inf.blk C).2;omega
     .have:=(d.p.vw.blk C).2;omega
    .exact hP c au h
   .rcases s with h|h
    .exact h (by rw[e];exact J.1)
    .exact J.2 (by rw[<-e];exact h)
   .rcases s with h|h
    .exact h (L c e).1
    .exact(L c e).2 h
  .simp only;rw[kV c au au  h1 h2];exact G.2 c a hp.2.1
  .refine fP.move (S:=V) (by exact gA) (Af _) fun c a=>?_;have:=B a;simp only;rw[ef,if_neg au]
noncomputable def aTh:List AO:=[oq 39 (.dk 5 (.t 4)),
om 40 1 (ld 39),
oq 41 (.dk 5 (.t 4)),
om 42 4 (ld 41),
om 43 12 (.df (.slice 1) (.t 42) (ci 0)),
om 44 28 (ld 43),
om 45 60 (.un .neg (.t 44)),
om 46 127 (.df (.slice 1) (.t 40) (ci 1))]
noncomputable def aS2:List AO:=[mt 47 0,
om 48 1 (.cw (.t 47)),
om 49 3 (.dk 7 (.t 48)),
om 50 7 (.dk 1 (.t 49)),
om 51 15 (ld 50),
mt 52 1,
oq 53 (.ld true 6 (.t 4)),
om 54 127 (.df (.slice 6) (.t 51) (.t 52))]
def MkP.fresh{m:Mk}(h:MkP P S0 X mb db m LV)(a:X.nx<=c):PB mb db m c:=
 ⟨ax h.lt,ax h.dr.lt,fun e=>by have:=(h.nod.blk e).2;omega,fun e=>by have:=(h.inf.blk e).2;omega,fun e=>by have:=(h.vw.blk e).2;omega⟩
def nO.setN{m:Mk}{e:cd}{x:cJ}(h:nO P S0 X mb db m LV)(hi:i<m.cg.length)(g:aBs X (fun c=>PB mb db m c/\P c) e x):
  ∃b p X',eQ (.slice 6) m.na i=some (.ptr b p)/\b<X.nx/\qX (.ptr b p) 6 e X=some (.undef,X')/\X'.nx=X.nx/\nO P S0 X' mb db {m with cg:=m.cg.set i x} LV/\gI mb db m X {m with cg:=m.cg.set i x} X':=by
 have a:e.length=6:=by obtain⟨_,_,_,rfl,_⟩:=g;rfl
 have⟨b,p,X',n,d,o,q,r,j⟩:=h.p.nod.set hi a g;have s:=(h.p.nod.blk d).2;have⟨t,u⟩:=h.p.pushN (v':=m.na) (l':=m.cg.set i x) (X':=X') au (fun c _ f=>j c fun e=>f (by rw[e];exact d)) (fun c f=>.inl f) q;exact⟨b,p,X',n,s,o,r,⟨t,(j mb fun e=>(h.p.d1 b d).1 e.symm).trans h.g⟩,u⟩
structure aRu(ps:Int)(x:cJ):Prop where
 kind:x.kind=3
 player:x.player=0
 info:x.info=0
 next:x.next= []
 wts:x.weights= []
 len:(x.pay.length:Int)=ps
 pay:∀w∈x.pay, -3<=w/\w<=3
def aR4{F:Fr}{h:Ev.T AB}{a:Int}:gO (.build [je 0,je 0,je 0,.ct,.ct,.ct] [(0,1,.c (je a))]) F h=some (.agg [je a,je 0,je 0,.ct,.ct,.ct]):=rfl
def aSU(P:Nat->Prop)(S0 X a:St)(mb db at_:Nat)(m:Mk)(LV:List (Int×Int×Int))(k:Nat)(A:bO)(Y:St):Prop:=A.inr=false/\nO P S0 Y mb db m LV/\a.nx<=Y.nx/\(∀c,c<X.nx->PB mb db m c->Y.h.get c=X.h.get c)/\∃ (pv:AV) (l:bu),l.length+k=m.ps.toNat/\(∀w∈l, -3<=w/\w<=3)/\Y.h.get X.nx=jf [je 3,je 0,je 0,.ct,.ct,pv]/\fP 1 a Y pv l.length (bD l)/\(∀c,aM pv=some c->PB mb db m c)/\aC 0 A.F= .ptr mb 0/\aC 1 A.F=je (at_:Int)/\aC 4 A.F= .ptr X.nx 0/\aC 5 A.F=je (l.length:Int)
def aLC{at_:Nat}{m:Mk}(H:Has fns)(hM:nO P S0 X mb db m LV)(ac:at_<m.cg.length)(bk:1<=m.ps/\m.ps<=4):
  iI fns (.fn 72 [] []) [.ptr mb 0,je (at_:Int)] X fun _ Z=>∃x,aRu m.ps x/\nO (fun c=>P c\/X.nx<=c) S0 Z mb db {m with cg:=m.cg.set at_ x} LV/\gI mb db m X {m with cg:=m.cg.set at_ x} Z:=by
 have an:nO (fun c=>P c/\c<X.nx) S0 X mb db m LV:=hM.mono fun c d z=>⟨z,d⟩;have N:=fun(F:Fr) (h:Ev.T AB)=>aR4 (F:=F) (h:=h) (a:=3);refine cK H.f72 (by simp) ?_;refine ae ?_;refine cA (fl N ?_);refine bS ?_;intro X1 x1 n1 g1;refine cQ (b:=X.nx) (cs':=[je 3,je 0,je 0,.ct,.ct,.ct]) (aq) (by refine am ?_;exact aY _) g1 rfl rfl ?_;intro X2 x2 n2 g2;refine am ?_;have s2:Same X X2:=x2.same x1 (Af _);have ao:=an.same s2;have lx:X.nx<X2.nx:=by omega
 have aw:PB mb db m X.nx:=hM.p.fresh (Af _);refine aD (bB (Q:=fun o A Y=>o= .normal/\aSU (fun c=>P c/\c<X.nx) S0 X X2 mb db at_ m LV 0 A Y) (aD (aL ?_)) ?_)
 .refine ae ?_;refine aO (bX (aSU (fun c=>P c/\c<X.nx) S0 X X2 mb db at_ m LV) ?_ m.ps.toNat _ _ ⟨rfl,ao,Af _,fun c d _=>s2.2 c d,.ct,[],by simp,fun w hw=>(by cases hw),g2,.inl ⟨rfl,rfl,rfl⟩,fun c d=>(by cases d),af,af,af,ag⟩);rintro k ⟨F,inr⟩ Y ⟨t,u,L,B,pv,l,C,f,D,q,O,g,s,r,M⟩;simp only at t g s r M;subst t;have f7:=cH (p:=7) u.g rfl;have R:(m.ps.toNat:Int)=m.ps:=Ee au;refine gH (fh g M @bE @bF @aB @aA f7 ?_);by_cases T:(l.length:Int)<m.ps;rotate_left
  .refine aQ (iu (Aa T)) (bT ?_);refine ae ?_;obtain rfl:k=0:=by omega
   exact⟨rfl,u,L,B,pv,l,C,f,D,q,O,by refine⟨?_,?_,?_,?_⟩<;>simp only[↓sU,sD,rE,↓reduceIte,rA,g,s,r,M]⟩
  refine aS (iu (Ac T)) (aK ?_);refine ae ?_
  have w1:IntKind.i64.wrap ((l.length:Int)+1)=((l.length+1:Nat):Int):=by rw[wrap_i64 au au];omega
  refine aD (aO ?_);refine aMT (Y0:=X2) (mb:=mb) (db:=db) (xb:=X.nx) (m:=m) (LV:=LV) (pv:=pv) (l:=l) H rfl u (ah g) (ah r) D ⟨aw,fun h=>Nat.lt_irrefl _ h.2⟩ lx L q (fun c d=>⟨O c d,fun h=>by have:=(q.blk d).1;omega⟩) (fun c d h=>au) au ?_;intro F' Z pv' w hk U nZ kZ gZ aI aV w2 w3;have t:=hk 0 au;have q1:=hk 1 au;have q4:=hk 4 au;have q5:=hk 5 au;simp only[↓sU,sD,rE,↓reduceIte,rA,g,s,r,M] at t q1 q4 q5;refine ae ?_
  refine aL (ew q5 w1 ?_);exact⟨k - 1,au,rfl,U,au,fun c d z=>(kZ c au z au (fun e=>by have:=(q.blk e).1;omega)).trans (B c d z),pv',l++ [w],by rw[Aj,Ba];omega,fun v hv=>by
   rcases Bi.1 hv with h|h
   .exact f v h
   .rw[Cc.1 h];exact⟨w2,w3⟩,gZ,aI,fun c d=>u.p.fresh (aV c d),ah t,ah q1,ah q4,by refine ae ?_;rw[Aj,Ba]⟩
 rintro o ⟨F,inr⟩ Y ⟨rfl,t,u,L,B,pv,l,C,f,D,q,O,g,s,r,M⟩;simp only at t g s r;subst t;have R:(m.ps.toNat:Int)=m.ps:=Ee au;have f5:=cH (p:=5) u.g rfl;have f7:=cH (p:=7) u.g rfl;have V:=cH (p:=5) D rfl;have aZ:X.nx<Y.nx:=by omega
 refine ae ?_
 refine aD (bB (Q:=fun o A Z=>o= .normal/\A.inr=false/\nO (fun c=>P c/\c<X.nx) S0 Z mb db m LV/\X2.nx<=Z.nx/\(∀c,c<X.nx->PB mb db m c->Z.h.get c=X.h.get c)/\(∃l':bu,l'.length=m.ps.toNat/\(∀w∈l', -3<=w/\w<=3)/\Z.h.get X.nx=jf [je 3,je 0,je 0,.ct,.ct,pv]/\fP 1 X2 Z pv l'.length (bD l'))/\aC 0 A.F= .ptr mb 0/\aC 1 A.F=je (at_:Int)/\aC 4 A.F= .ptr X.nx 0) (aD (aL ?_)) ?_)
 .by_cases hz:m.zero=true/\m.ps=2
  .have⟨hz,a0⟩:=hz;rw[hz] at f5;refine fh g @bE @bF @aB @aA f5 f7 ?_;refine aS (iu (Ac a0)) ?_;have bm:l.length=2:=by omega
   have G:0<l.length:=by omega
   have W:1<l.length:=by omega
   have y:=q.is;have i0:=y.df G;have i1:=y.df W;have v0:=y.ld G;have I:=q.self;rcases q with⟨_,h,_⟩|⟨b,rfl,a1,bn,a2,bp⟩
   .omega
   have a3:∀j,eQ (.slice 1) (.sl b 0 l.length l.length true) j=if j<l.length then some (.ptr b (0+j * 1)) else none:=fun j=>by
    show cC (Nat.blt j l.length) _ _=_;rw[dB];by_cases h:j<l.length
    .rw[if_pos h,if_pos (show Nat.blt j l.length=true from Ak h)]
    .rw[if_neg h,if_neg (show ¬Nat.blt j l.length=true from fun e=>h (Bc (show Nat.ble (j+1) l.length=true from e)))]
   have aa:=a3 1;rw[if_pos W] at aa;have bq:=f _ (aOc G);have w1:IntKind.i64.wrap (-(l.getD 0 0))= -(l.getD 0 0):=wrap_i64 au au;refine sI (pre:=aTh) (K:=8) (m:=255) (n:=1) (x:=.t 46) (v:=.t 45) rfl rfl rfl rfl ?_;unfold aTh;simp only[↓sU,sD,rE,↓reduceIte,rA,r,aB,aP,aA,V,I,aJ6,i0,v0,aNZ,w1,show gN (je 1)=some 1 from rfl,aa];simp only[dD,aH];have a5:=yI (S:=⟨Y.h,Y.nx+9⟩) (p:=0+1 * 1) (w:= -(l.getD 0 0)) a2 au;refine⟨_,a5,?_⟩;have a8:PB mb db m b:=O b rfl;refine⟨u.local (Bq _ _) fun c d ba=>?_,by show X2.nx<=Y.nx+9;omega,fun c d z=>?_,⟨l.set (0+1 * 1) (-(l.getD 0 0)),by rw[Aw];omega,fun w hw=>?_,?_,.inr ⟨b,by rw[Aw],a1,by show b<Y.nx+9;omega,jd,by simp [bD]⟩⟩,g,s⟩
   .simp only;rw[ef,if_neg];intro e;subst e;rcases ba with h|h
    .exact h a8
    .have:=h.2;omega
   .simp only;rw[ef,if_neg au];exact B c d z
   .rcases List.mem_or_eq_of_mem_set hw with h|h
    .exact f w h
    .omega
   .simp only;rw[ef,if_neg au];exact D
  .have bj:∀ (o:Out) (A:bO) (Z:St),True:=fun _ _ _=>trivial;have ab:(∃l':bu,l'.length=m.ps.toNat/\(∀w∈l', -3<=w/\w<=3)/\Y.h.get X.nx=jf [je 3,je 0,je 0,.ct,.ct,pv]/\fP 1 X2 Y pv l'.length (bD l')):=⟨l,au,f,D,q⟩;cases J:m.zero with
   | false=>
    rw[J] at f5;refine fg g @bE @bF @aB @aA f5 ?_;refine aQ (af) (aK ?_);refine ez g s r ?_;exact⟨u,L,B,ab⟩
   | true=>
    rw[J] at f5;refine fh g @bE @bF @aB @aA f5 f7 ?_;refine aQ (iu (Aa (show ¬m.ps=2 from fun h=>hz ⟨J,h⟩))) (aK ?_);refine ez g s r ?_;exact⟨u,L,B,ab⟩
 clear g s r M f5 f7 V aZ q O f D B L u C l;rintro o ⟨F,inr⟩ Z ⟨rfl,t,U,nZ,kZ,⟨l,bs,f,gZ,q⟩,g,s,r⟩;simp only at t g s r;subst t;refine ae ?_
 have f8:=cH (p:=8) U.g rfl;have bb:=ldN gZ;have bd:=U.p.nod.self;have I:=q.self;have sx:=uX (k:=.i64) (x0:=3) (x1:=0) (x2:=0) (a:=.ct) (b:=.ct) (c:=pv) rfl rfl I;have be:nO (fun c=>P c\/X.nx<=c) S0 ⟨Z.h,Z.nx+9⟩ mb db m LV:=(U.same (Same.nx Z 9)).mono fun c _ h=>.inl h.1;have y:bN .i64 ⟨Z.h,Z.nx+9⟩ pv l:=(q.step (Same.nx Z 9)).is;have⟨b,p,X',e1,e2,e3,e4,e5,e6⟩:=be.setN (i:=at_) (e:=[je 3,je 0,je 0,.ct,.ct,pv]) (x:=⟨3,0,0,[],[],l⟩) ac ⟨.ct,.ct,pv,rfl,.inl ⟨rfl,.inl rfl⟩,.inl ⟨rfl,.inl rfl⟩,y,fun c d=>by
  rcases d with d|d|d
  .cases d
  .cases d
  .have h9:=(q.blk d).1;exact⟨hM.p.fresh au,.inr au⟩⟩
 refine sI (pre:=aS2) (K:=8) (m:=255) (n:=6) (x:=.t 54) (v:=.t 53) rfl rfl rfl rfl ?_;unfold aS2;simp only[↓sU,sD,rE,↓reduceIte,rA,g,s,r,bE,bP,bF,aB,aP,aA,f8,bd,bb,sx,aJ,e1];rw[show(AV.agg [je 3,je 0,je 0,.ct,.ct,pv]).cells=some [je 3,je 0,je 0,.ct,.ct,pv] from aY _,aH];refine⟨X',e3,_,rfl,⟨3,0,0,[],[],l⟩,⟨rfl,rfl,rfl,rfl,rfl,by show(l.length:Int)=_;omega,f⟩,e5,⟨by rw[e4];show X.nx<=Z.nx+9;omega,fun c d z=>?_⟩⟩;have⟨k1,k2⟩:=e6.2 c (by show c<Z.nx+9;omega) z;exact⟨k1.trans (kZ c d z),k2⟩
def hot(o:AO):Bool:=match o.op with | .q q=>eE q | .a _=>false | .x _=>true
def aNB(I:Nat->Prop)(D:DS):Prop:=(∀e∈D.hs,I e.1)/\∀l∈D.ls,I l.i
theorem aPt{I:Nat->Prop}{call:fX}{o:AO}{base:Nat}{D D':DS}(h:tV o i base call D=some D')(hi:hot o=true->I i)(f:aNB I D):aNB I D':=by
 unfold tV at h;cases n:fT o.grd D.F with
 | false=>rw[n,aU] at h;cases h;exact f
 | true=>
  rw[n,aN] at h;have⟨d,op,g,m⟩:=o;cases op with
  | q q=>
   have h:bG (gO q D.F D.S.h) (fun v=>some (⟨cU d D.F v,D.S,D.ps,D.hs,cC (eE q) (⟨q,D.F,v,i,m⟩::D.ls) D.ls⟩:DS))=some D':=h;cases b:gO q D.F D.S.h with
   | none=>rw[b] at h;cases h
   | some v=>
    rw[b,aH] at h;cases h;refine⟨f.1,fun l c=>?_⟩;simp only at c;cases j:eE q with
    | false=>rw[j,aU] at c;exact f.2 l c
    | true=>
     rw[j,aN] at c;rcases Bp.1 c with rfl|c
     .exact hi j
     .exact f.2 l c
  | a a=>
   have h:bG (uH a D.F (base+i)) (fun r=>some (⟨cU d D.F r.1,D.S,⟨i,base+i,r.2⟩::D.ps,D.hs,D.ls⟩:DS))=some D':=h;cases b:uH a D.F (base+i) with
   | none=>rw[b] at h;cases h
   | some v=>rw[b,aH] at h;cases h;exact f
  | x x=>
   have h:cC (kN D.hs m) (bG (evX x call D.F ⟨(cP m D.ps D.S.h).2,D.S.nx⟩) fun r=>some (⟨cU d D.F r.1,r.2,(cP m D.ps D.S.h).1,(i,m,r.2.h)::D.hs,D.ls⟩:DS)) none=some D':=h;cases c:kN D.hs m with
   | false=>rw[c,aU] at h;cases h
   | true=>
    rw[c,aN] at h;cases b:evX x call D.F ⟨(cP m D.ps D.S.h).2,D.S.nx⟩ with
    | none=>rw[b] at h;cases h
    | some v=>
     rw[b,aH] at h;cases h;refine⟨fun e b=>?_,f.2⟩;rcases Bp.1 b with rfl|b
     .exact hi rfl
     .exact f.1 e b
theorem aHO{I:Nat->Prop}{call:fX}{base:Nat}:∀ {l:List AO} {i:Nat} {D D':DS},xM l i base call D=some D'->(∀j o,l[j]? =some o->hot o=true->I (i+j))->aNB I D->aNB I D'
 | [],i,D,D',h,_,a=>by cases h;exact a
 | o::os,i,D,D',h,d,a=>by
  have h:bG (tV o i base call D) (fun D'=>xM os (i+1) base call D')=some D':=h;cases b:tV o i base call D with
  | none=>rw[b] at h;cases h
  | some g=>
   rw[b,aH] at h;exact aHO h (fun j e f c=>by have:=d (j+1) e f c;rwa [show i+1+j=i+(j+1) by omega]) (aPt b (fun c=>d 0 o rfl c) a)
theorem aD5{W:Nat->Prop}{d:T AB}{base K m:Nat}{h':T AB}{r:List (Nat×Nat×T AB)}{l:mC}(h:cO l.v l.v=true/\aCt W base l.q l.F/\gO l.q l.F d=some l.v)(p:l.mask<2 ^ K)(q:Nat.testBit m l.i=true):∀ {c:List (Nat×Nat×T AB)} {a:T AB},(∀e∈c,∀b,b<base->¬W b->e.2.2.get b=d.get b)->(∀b,b<base->¬W b->a.get b=d.get b)->fA l (c++(K,m,h')::r) a=true
 | [],a,_,f=>by
  have g:oY l.v (gO l.q l.F a)=true:=by rw[h.2.1.ev f,h.2.2];exact h.1
  have j:Nat.testBit l.mask K=false:=Nat.testBit_lt_two_pow p;show fA l ((K,m,h')::r) a=true;unfold fA;rw[j,aU,g,aN,q,aN]
 | (i,n,o)::s,a,c,f=>by
  have g:oY l.v (gO l.q l.F a)=true:=by rw[h.2.1.ev f,h.2.2];exact h.1
  have j:fA l (s++(K,m,h')::r) o=true:=aD5 h p q (fun e t=>c e (by simp [t])) (c (i,n,o) (by simp));show fA l ((i,n,o)::(s++(K,m,h')::r)) a=true;unfold fA;rw[g,j];cases Nat.testBit l.mask i<;>cases Nat.testBit n l.i<;>rfl
def aFm(g:Nat){W:Nat->Prop}{a pre suf:List AO}{K:Nat}{A:bO}{R:Fr->St->List iR->Prop}(b:a=pre++suf)(w:pre.length=K)(z:(pre.all fun o=>decide (o.mask<2 ^ K))=true)(B:((List.range K).all fun j=>match pre[j]? with | some o=> !hot o || Nat.testBit g j | none=>true)=true)
  (h:∀S1,Same S S1->S1.h=S.h->S1.nx=S.nx+a.length->gF fns W S.h S.nx pre 0 A.F S1 [] none R)
  (C:∀F q ps d ls,R F q ps->kN d g=true->(∀h' r,iB S.h (d.reverse++(K,g,h')::r) ls=true)->wpd fns suf K S.nx ⟨F,q,ps,d,ls⟩ fun D'=>iB S.h D'.hs.reverse D'.ls=true/\Q .normal ⟨D'.F,A.inr⟩ ⟨(cP (2 ^ a.length - 1) D'.ps D'.S.h).2,D'.S.nx⟩):jP fns (.drw a) A S Q:=by
 apply qZ;have⟨n,D',s,G,x⟩:=nG (fns:=fns) (i:=0) (D:=⟨A.F,⟨S.h,S.nx+a.length⟩,[],[],[]⟩) (last:=none) ⟨fun _ _ _=>rfl,Bq _ _,fun e b=>(by cases b),fun l c=>(by cases c),fun p H=>(by cases H)⟩ rfl (h ⟨S.h,S.nx+a.length⟩ (Same.nx S _) rfl rfl);have low:Low K D':=aEF s au (fun o t=>by have:=Dp.1 z o t;simpa using this) ⟨fun e b=>(by cases b),fun l c=>(by cases c)⟩;have f:aNB (fun i=>Nat.testBit g i=true) D':=aHO s (fun j o y t=>by
  have u:j<K:=by rw[<-w];exact(Ai.1 y).1
  have:=Dp.1 B j (Dk.2 u);rw[y] at this;simp only[t,Cm,Bool.false_or] at this
  rwa [Am]) ⟨fun e b=>(by cases b),fun l c=>(by cases c)⟩
 have⟨F,q,ps,d,ls⟩:=D';have I:=C F q ps d ls G (by
  cases d with
  | nil=>rfl
  | cons e r=>exact f.1 e (Bk ..)) (fun h' r=>nT fun l c=>aD5 (x.lds l c) (low.2 l c).2 (f.2 l c) (fun e b=>x.chain e (List.mem_reverse.1 b)) (fun _ _ _=>rfl))
 have:wpd fns a 0 S.nx ⟨A.F,⟨S.h,S.nx+a.length⟩,[],[],[]⟩ fun D'=>iB S.h D'.hs.reverse D'.ls=true/\Q .normal ⟨D'.F,A.inr⟩ ⟨(cP (2 ^ a.length - 1) D'.ps D'.S.h).2,D'.S.nx⟩:=by
  subst b;refine aKU ⟨n,_,s,?_⟩;rw[Am,w];exact I
 exact this
def aQ6{id:Nat}{a c d z3:AV}(e:x.val F= .agg [a,b,c,d]):uH (.dd t 4 1 [z0,z1,z2,z3] [(0,x)]) F id=some (.sl id 0 1 1 false,.cells [a,b,c,d] false 0):=by
 show(bG (eI (repeatL [z0,z1,z2,z3] 1) [(0 * 4,4,x.val F)]) fun cs=>some (AV.sl id 0 1 1 false,AB.cells cs false 0))=_;rw[e];show(bG (bG (AV.cells (.agg [a,b,c,d])) _) _)=_;rw[aY,aH];rfl
def aJh{id:Nat}{a c:AV}(d:x.val F= .agg [a,b,c]):uH (.dd t 3 1 [z0,z1,z2] [(0,x)]) F id=some (.sl id 0 1 1 false,.cells [a,b,c] false 0):=by
 show(bG (eI (repeatL [z0,z1,z2] 1) [(0 * 3,3,x.val F)]) fun cs=>some (AV.sl id 0 1 1 false,AB.cells cs false 0))=_;rw[d];show(bG (bG (AV.cells (.agg [a,b,c])) _) _)=_;rw[aY,aH];rfl
def aJY{id:Nat}{a:AV}(c:x.val F= .agg [a,b]):uH (.dd t 2 1 [z0,z1] [(0,x)]) F id=some (.sl id 0 1 1 false,.cells [a,b] false 0):=by
 show(bG (eI (repeatL [z0,z1] 1) [(0 * 2,2,x.val F)]) fun cs=>some (AV.sl id 0 1 1 false,AB.cells cs false 0))=_;rw[c];show(bG (bG (AV.cells (.agg [a,b])) _) _)=_;rw[aY,aH];rfl
def aJ3{o:Bool}(h:S.h.get t=some (.cells cs o sz))(a:cs.length=n):eU (.sl t 0 1 1 false) S.h n 1=some cs:=by
 show bG (cI S.h t) (fun c=>cut c 0 (1 * n))=_;unfold cI;rw[h];show cut cs 0 (1 * n)=some cs;unfold cut;rw[iG,iP,Dn,Fp,if_pos au,Bd au]
def aUa{n:Int}{a:AV}(b:aC 50 F=je pl)(c:aC 51 F=je lev)(d:aC 52 F=a)(e:aC 58 F=je n)(f:a.cells=some [a]):gO (.build [je 0,je 0,.ct,je 0] [(0,1,.t 50),(1,1,.t 51),(2,1,.t 52),(3,1,.t 58)]) F h=some (.agg [je pl,je lev,a,je n]):=by
 show(bG (eI _ (dJ F [(0,1,.t 50),(1,1,.t 51),(2,1,.t 52),(3,1,.t 58)])) fun cs=>some (AV.agg cs))=_;simp only[dJ,show(cT.t 50).val F=je pl from b,show(cT.t 51).val F=je lev from c,show(cT.t 52).val F=a from d,show(cT.t 58).val F=je n from e,eI,dD,f,aH];rfl
def aUA{a:Int}(b:aC 70 F=je pl)(c:aC 76 F=je a):gO (.build [je 0,je 0] [(0,1,.t 70),(1,1,.t 76)]) F h=some (.agg [je pl,je a]):=by
 show(bG (eI _ (dJ F [(0,1,.t 70),(1,1,.t 76)])) fun cs=>some (AV.agg cs))=_;simp only[dJ,show(cT.t 70).val F=je pl from b,show(cT.t 76).val F=je a from c,eI,dD,aH];rfl
def gI.put{m:Mk}{w:Option AB}:gI mb db m X m ⟨X.h.set mb w,X.nx⟩:=
 ⟨Af _,fun c _ a=>⟨by simp only;rw[ef,if_neg a.1],a⟩⟩
def aMY{k:IntKind}(h:bN k X v l):v.cells=some [v]:=bN.cells h
def aTS(X:St)(F:Fr)(mb:Nat)(a b:AV)(pl lev n:Int)(F':Fr)(Z:St)(ps:List iR):Prop:=ps= [⟨15,X.nx+15,.cells [je pl,je lev,b,je n] false 0⟩]/\Z.h=X.h/\Z.nx=X.nx+20/\(∀j,j<10->aC j F'=aC j F)/\aC 45 F'= .ptr mb 0/\aC 49 F'=a/\aC 60 F'= .sl (X.nx+15) 0 1 1 false
def aNh{i:List AO}{m:Mk}{g:AV}(N:i=aOZ++aNk)(n:nO P S0 X mb db m LV)(hS:S0.nx<=X.nx)(p0:aC 0 F= .ptr mb 0)(p1:aC 1 F=je pl)(p2:aC 2 F=je lev)(p3:aC 3 F=g)(O:bN .i64 X g l)(hl:l.length<=1000)(w:∀c,aM g=some c->PB mb db m c/\P c)(hv:m.views.length<=100000)
  (hQ:∀F' Z r,(∀j,j<10->aC j F'=aC j F)->nO P S0 Z mb db {m with va:=r,views:=m.views++ [(pl,lev,(m.ch.length:Int))]} LV->gI mb db m X {m with va:=r,views:=m.views++ [(pl,lev,(m.ch.length:Int))]} Z->Q .normal ⟨F',inr⟩ Z):jP fns (.drw i) ⟨F,inr⟩ X Q:=by
 have s:i.length=20:=by rw[N];rfl
 have y:=n.p.lt;have f2:=cH (p:=2) n.g rfl;have f9:=cH (p:=9) n.g rfl;have z:=n.p.vw.self;have A:=n.p.inf.self;refine aFm 65534 (W:=fun _=>False) (K:=16) (R:=aTS X F mb m.va g pl lev (m.ch.length:Int)) N rfl rfl rfl (fun X1 x1 B C=>?_) ?_
 .have D:=fun(F:Fr) (h:Ev.T AB) (a:aC 50 F=je pl) (b:aC 51 F=je lev) (c:aC 52 F=g) (d:aC 58 F=je (m.ch.length:Int))=>aUa (F:=F) (h:=h) a b c d (aMY O);have G:eE (.build [je 0,je 0,.ct,je 0] [(0,1,.t 50),(1,1,.t 51),(2,1,.t 52),(3,1,.t 58)])=false:=rfl;have H:=fun(F:Fr) (id:Nat) (h:aC 59 F= .agg [je pl,je lev,g,je (m.ch.length:Int)])=>aQ6 (t:=166) (z0:=je 0) (z1:=je 0) (z2:=.ct) (z3:=je 0) (x:=.t 59) (F:=F) (id:=id) h;unfold aOZ;simp only[↓sU,sD,rE,↓reduceIte,rA,p0,p1,p2,p3,bE,bP,bF,aB,aP,aA,f2,f9,z,A,y,An,n.p.inf.len,D,G,H];refine⟨rfl,B,by rw[C,s],fun j T=>?_,by refine⟨?_,?_,?_⟩<;>simp only[↓sU,sD,rE,↓reduceIte,rA]⟩;have:j=0\/j=1\/j=2\/j=3\/j=4\/j=5\/j=6\/j=7\/j=8\/j=9:=by omega
  rcases this with rfl|rfl|rfl|rfl|rfl|rfl|rfl|rfl|rfl|rfl<;>simp only[↓sU,sD,rE,↓reduceIte,rA]
 rintro F' Y ps aa ls ⟨rfl,hZ,nZ,hk,pA,pB,pC⟩ o I;obtain⟨U,u⟩:∃U:St,U=⟨Y.h.set (X.nx+15) (jf [je pl,je lev,g,je (m.ch.length:Int)]),Y.nx⟩:=⟨_,rfl⟩;have nU:U.nx=X.nx+20:=by rw[u];exact nZ
 have q:Same X U:=⟨au,fun c hc=>by rw[u];simp only;rw[ef,if_neg au,hZ]⟩;have gU:U.h.get (X.nx+15)=jf [je pl,je lev,g,je (m.ch.length:Int)]:=by rw[u];simp only;rw[ef,if_pos rfl]
 have f:=n.same q;have⟨v',V,eA,aV,nV,kV,bV⟩:=f.p.vw.push (bytes:=48) (x:=.sl (X.nx+15) 0 1 1 false) (a:=(pl,lev,(m.ch.length:Int))) az au rfl (aJ3 gU rfl) rfl ⟨g,l,rfl,O.same q,hl,w⟩ ay ay;have⟨kP,kM⟩:=f.p.pushV nV kV bV aV;have J:V.h.get mb=jf (fD db m):=(kV mb f.p.lt fun e=>(f.p.d3 mb e).1 rfl).trans f.g;unfold aNk;refine iQ (v:=v') (S1:=V) o (fun call=>?_) ?_
 .rw[cL (az:Nat.testBit 65534 15=true),fK];simp only[fE,pB,pC];rw[<-u];exact eA
 rw[cL (az:Nat.testBit 65534 15=true)];simp only[iW,dH,bE,bP,bF,aB,aA,aP,aU,fE,bL,bH,pA,rE,↓reduceIte,rA];have L:v'.cells=some [v']:=aV.cells;refine iQ (v:=.undef) (S1:=⟨V.h.set mb (jf (fD db {m with va:=v',views:=m.views++ [(pl,lev,(m.ch.length:Int))]})),V.nx⟩) (az:Nat.testBit 524287 16=true) (fun call=>?_) ?_
 .rw[dL];simp only[fE,bH,rE,↓reduceIte,bL,L,aH];exact xO (cs:=fD db m) (p:=2) (S:=V) J (au:2<10)
 rw[iC];refine⟨?_,?_⟩
 .simp only[Ce,Bg,Da,Cf,Bw];exact I _ _
 .simp only[bL,fC];refine hQ _ _ v' (fun j T=>?_) (kP.put jd (Af _) fun c _ M=>by simp only;rw[ef,if_neg M]) (((gI.same q).trans kM).trans gI.put);rw[bH,if_neg au,bH,if_neg au,bH,if_neg au];exact hk j T
def aSY(X:St)(F:Fr)(mb db:Nat)(b c:AV)(dl:bu)(pl:Int)(F':Fr)(Z:St)(ps:List iR):Prop:=∃a:Int,1<=a/\a<=3/\ps= [⟨14,X.nx+14,.cells [je pl,je a] false 0⟩]/\X.nx+20<=Z.nx/\cD db X Z/\uC Z db c dl/\(∀j,j<10->aC j F'=aC j F)/\aC 64 F'= .ptr mb 0/\aC 69 F'=b/\aC 78 F'= .sl (X.nx+14) 0 1 1 false
def aOv{o:List AO}{m:Mk}(H:Has fns)(he:o=aNA++aM1)(f:nO P S0 X mb db m LV)(hS:S0.nx<=X.nx)(p0:aC 0 F= .ptr mb 0)(p1:aC 1 F=je pl)(hv:m.ch.length<=100000)
  (hQ:∀F' Z s a,(∀j,j<10->aC j F'=aC j F)->1<=a->a<=3->nO P S0 Z mb db {m with ia:=s,ch:=m.ch++ [⟨pl,a⟩]} LV->gI mb db m X {m with ia:=s,ch:=m.ch++ [⟨pl,a⟩]} Z->Q .normal ⟨F',inr⟩ Z):jP fns (.drw o) ⟨F,inr⟩ X Q:=by
 have ab:o.length=20:=by rw[he];rfl
 have C:=f.p.lt;have D:=f.p.ne;have f0:=cH (p:=0) f.g rfl;have f9:=cH (p:=9) f.g rfl;have G:=f.p.inf.self;refine aFm 32766 (W:=fun c=>c=db) (K:=15) (R:=aSY X F mb db m.ia m.lv m.dl pl) he rfl rfl rfl (fun X1 x1 ac an=>?_) ?_
 .unfold aNA;simp only[↓sU,sD,rE,↓reduceIte,rA,p0,p1,bE,bP,bF,aB,aP,aA,f0,f9,G,C,D,An];refine jI rfl (ae (aW (mJ H (f.same x1).p.dr (n:=3) az az) ?_));rintro _ X2 ⟨x2,d2,y,rfl,y1,y2⟩;refine⟨⟨x2.1,fun c d g=>x2.2 c (Ae d x1.1) g⟩,?_⟩;have w1:IntKind.i64.wrap (1+y)=1+y:=wrap_i64 au au;have I:=fun(F:Fr) (h:Ev.T AB) (a:aC 70 F=je pl) (b:aC 76 F=je (1+y))=>aUA (F:=F) (h:=h) a b;have J:eE (.build [je 0,je 0] [(0,1,.t 70),(1,1,.t 76)])=false:=rfl;have L:=fun(F:Fr) (id:Nat) (h:aC 77 F= .agg [je pl,je (1+y)])=>aJY (t:=44) (z0:=je 0) (z1:=je 0) (x:=.t 77) (F:=F) (id:=id) h;refine fe w1 I J L ?_;refine⟨1+y,au,au,af,(by have h9:X1.nx<=X2.nx:=x2.1;omega),⟨Av x1.1 x2.1,fun c d g=>(x2.2 c (Ae d x1.1) g).trans (x1.2 c d)⟩,d2,fun j hj=>?_,by refine⟨?_,?_,?_⟩<;>simp only[↓sU,sD,rE,↓reduceIte,rA]⟩;have:j=0\/j=1\/j=2\/j=3\/j=4\/j=5\/j=6\/j=7\/j=8\/j=9:=by omega
  rcases this with rfl|rfl|rfl|rfl|rfl|rfl|rfl|rfl|rfl|rfl<;>simp only[↓sU,sD,rE,↓reduceIte,rA]
 rintro F' u ps ao ls ⟨a,a1,a2,rfl,nZ,sZ,dZ,hk,pA,pB,pC⟩ q M;have⟨aw,kZ⟩:=f.drawn sZ dZ;obtain⟨U,A⟩:∃U:St,U=⟨u.h.set (X.nx+14) (jf [je pl,je a]),u.nx⟩:=⟨_,rfl⟩;have nU:U.nx=u.nx:=by rw[A]
 have kU:∀c,c≠X.nx+14->U.h.get c=u.h.get c:=fun c d=>by rw[A];simp only;rw[ef,if_neg d]
 have gU:U.h.get (X.nx+14)=jf [je pl,je a]:=by rw[A];simp only;rw[ef,if_pos rfl]
 have w:∀c,c<X.nx->c≠X.nx+14:=fun c d=>by omega
 have N:nO (fun c=>P c/\c<X.nx) S0 u mb db m LV:=(f.mono fun c d B=>⟨B,d⟩).drawn sZ dZ |>.1
 have z:nO (fun c=>P c/\c<X.nx) S0 U mb db m LV:=N.local au fun c d O=>kU c fun e=>by
  rcases O with h|h
  .refine h ⟨au,fun r=>?_,fun r=>?_,fun r=>?_,fun r=>?_⟩
   .have:=f.p.dr.lt;omega
   .have:=(f.p.nod.blk r).2;omega
   .have:=(f.p.inf.blk r).2;omega
   .have:=(f.p.vw.blk r).2;omega
  .omega
 have i:nO P S0 U mb db m LV:=z.mono fun c _ h=>h.1;have T:gI mb db m X m U:=⟨au,fun c d B=>⟨(kU c (w c d)).trans (kZ.2 c d B).1,B⟩⟩;have⟨v',V,eA,aV,nV,kV,bV⟩:=i.p.inf.push (bytes:=16) (x:=.sl (X.nx+14) 0 1 1 false) (a:=(⟨pl,a⟩:fU)) az au rfl (aJ3 gU rfl) rfl (show aIv [je pl,je a] ⟨pl,a⟩ from rfl) ay ay;have⟨kP,kM⟩:=i.p.pushI nV kV bV aV;have Y:V.h.get mb=jf (fD db m):=(kV mb i.p.lt fun e=>(i.p.d2 mb e).1 rfl).trans i.g;unfold aM1;refine iQ (v:=v') (S1:=V) q (fun call=>?_) ?_
 .rw[cL (az:Nat.testBit 32766 14=true),fK];simp only[fE,pB,pC];rw[<-A];exact eA
 rw[cL (az:Nat.testBit 32766 14=true)];simp only[iW,dH,bE,bP,bF,aB,aA,aP,aU,fE,bL,bH,pA,rE,↓reduceIte,rA];have aa:v'.cells=some [v']:=aV.cells;refine iQ (v:=.undef) (S1:=⟨V.h.set mb (jf (fD db {m with ia:=v',ch:=m.ch++ [⟨pl,a⟩]})),V.nx⟩) (az:Nat.testBit 524287 15=true) (fun call=>?_) ?_
 .rw[dL];simp only[fE,bH,rE,↓reduceIte,bL,aa,aH];exact xO (cs:=fD db m) (p:=9) (S:=V) Y (au:9<10)
 rw[iC];refine⟨?_,?_⟩
 .simp only[Ce,Bg,Da,Cf,Bw];exact M _ _
 .simp only[bL,fC];refine hQ _ _ v' a (fun j hj=>?_) a1 a2 (kP.put jd (Af _) fun c _ g=>by simp only;rw[ef,if_neg g]) ((T.trans kM).trans gI.put);rw[bH,if_neg au,bH,if_neg au,bH,if_neg au,bH,if_neg au];exact hk j hj
def FnI(mb:Nat)(X:St)(pl lev:Int)(a:AV)(n:Nat)(k:Nat)(A:bO)(Y:St):Prop:=A.inr=false/\Same X Y/\∃i:Nat,i+k=n/\aC 0 A.F= .ptr mb 0/\aC 1 A.F=je pl/\aC 2 A.F=je lev/\aC 3 A.F=a/\aC 9 A.F=je (i:Int)
def aPq(P:Nat->Prop)(S0 X:St)(mb db:Nat)(m:Mk)(LV:List (Int×Int×Int))(pl lev:Int)(r:AV)(Z:St):Prop:=∃b c a,1<=a/\a<=3/\r=je (m.ch.length:Int)/\nO P S0 Z mb db {m with va:=b,ia:=c,views:=m.views++ [(pl,lev,(m.ch.length:Int))],ch:=m.ch++ [⟨pl,a⟩]} LV/\gI mb db m X {m with va:=b,ia:=c,views:=m.views++ [(pl,lev,(m.ch.length:Int))],ch:=m.ch++ [⟨pl,a⟩]} Z
def aMf{m:Mk}{t:AV}(H:Has fns)(hM:nO P S0 X mb db m LV)(hS:S0.nx<=X.nx)(hs:bN .i64 X t l)(hl:l.length<=1000)(T:∀c,aM t=some c->PB mb db m c/\P c)(hv:m.views.length<=100000)(hi:m.ch.length<=100000):
  iI fns (.fn 73 [] []) [.ptr mb 0,je pl,je lev,t] X fun r Z=>(Same X Z/\∃ (i:Nat) (v:Int×Int×Int),m.views[i]? =some v/\v.1=pl/\v.2.1=lev/\r=je v.2.2)\/aPq P S0 X mb db m LV pl lev r Z:=by
 refine cK H.f73 (by simp) ?_;refine ae ?_;refine cA (ae ?_);refine aD (bB (Q:=fun o A' Z=>(o= .normal/\FnI mb X pl lev t m.views.length 0 A' Z)\/(o= .ret/\Same X Z/\∃ (i:Nat) (v:Int×Int×Int),m.views[i]? =some v/\v.1=pl/\v.2.1=lev/\aC 8 A'.F=je v.2.2)) (aD (aL ?_)) ?_)
 .refine ae ?_;refine aO (bX (FnI mb X pl lev t m.views.length) ?_ m.views.length _ _ ⟨rfl,eu _,0,au,af,af,af,af,ag⟩);rintro k ⟨F,inr⟩ Y ⟨u,U,i,C,f,g,n,q,w⟩;simp only at u f g n q w;subst u;have y:=hM.same U;have f2:=cH (p:=2) y.g rfl;refine gH (fj f w @bE @bF @aB @aA f2 y.p.vw.len ?_);by_cases V:i<m.views.length;rotate_left
  .refine aQ im (bT ?_);refine ae ?_;have aa:k=0:=by omega
   subst aa;exact .inl ⟨rfl,U,i,C,by refine⟨?_,?_,?_,?_,?_⟩<;>simp only[↓sU,sD,rE,↓reduceIte,rA,f,g,n,q,w]⟩
  refine aS im (aK ?_);refine ae ?_
  have z:m.views[i]? =some m.views[i]:=Ab V;have hV:aG 4 (fun Y e a=>VwE Y (fun c=>PB mb db m c/\P c) e a) Y m.va m.views:=y.p.vw.is fun e a h=>h;obtain⟨_,bx,qx,D,aI,_,⟨aV,l',rfl,ab,aZ,_⟩,G,_⟩:=aG.at hV az z;have I:=ed i
  generalize a5:m.views[i]=v at *;refine aD (aO (aD (aL ?_)));simp only[↓aF,aE,rE,↓reduceIte,rA,f,w,bE,bF,aB,aA,f2,aJ,D,G];refine bS ?_;intro W1 v1 N O;refine cQ (b:=Y.nx) (aq) (by refine am ?_;exact aY _) O rfl rfl ?_;intro W v2 k2 A;refine am ?_;have J:Same Y W:=v2.same v1 (Af _);have s:=U.trans J;have g0:=cH (p:=0) A rfl;have g1:=cH (p:=1) A rfl;have g2:=cH (p:=2) A rfl;have d:∀ {F':Fr} {Z:St},aC 0 F'= .ptr mb 0->aC 1 F'=je pl->aC 2 F'=je lev->aC 3 F'=t->aC 9 F'=je (((i+1:Nat)):Int)->Same X Z->∃x<k,FnI mb X pl lev t m.views.length x ⟨F',false⟩ Z:=fun {F' Z} a0 a1 a2 a3 a9 j=>⟨k - 1,au,rfl,j,i+1,au,a0,a1,a2,a3,a9⟩;refine cA ?_;by_cases K:v.1=pl;rotate_left
  .refine ff g @aB @aA g0 (Aa K) ?_;refine aQ (af) (aK ?_);refine ae ?_
   refine aL (ew w I ?_);exact d (ah f) (ah g) (ah n) (ah q) (af) s
  by_cases R:v.2.1=lev;rotate_left
  .refine fj g n @aB @aA g0 g1 (Ac K) (Aa R) ?_;refine aQ (af) (aK ?_);refine ae ?_
   refine aL (ew w I ?_);exact d (ah f) (ah g) (ah n) (ah q) (af) s
  simp only[↓sU,sD,rE,↓reduceIte,rA,g,n,q,aB,aA,g0,g1,g2,Ac K,Ac R];refine bK (ae ?_);refine aW (aC3 H (ab.same J) (hs.same s) au) ?_;rintro _ Z ⟨rfl,j⟩;have L:=s.trans j;have S:=(j.2 _ (au:Y.nx<W.nx)).trans A;have g3:=cH (p:=3) S rfl;by_cases c3:l'=l
  .rw[Ac c3]
   refine aS (af) ?_;refine cA (ez @aB @aA g3 ?_);refine aT (ae ?_);exact .inr ⟨L,i,v,by first | exact⟨z,K,R⟩ | exact⟨z,K,R,rfl⟩⟩
  .rw[Aa c3]
   refine aQ (af) (aK ?_);refine ae ?_
   refine aL (ew w I ?_);exact d (ah f) (ah g) (ah n) (ah q) (af) L
 rintro o ⟨F,inr⟩ Z (⟨rfl,u,j,i,C,f,g,n,q,_⟩|⟨rfl,j,i,v,O,A,S,p8⟩);rotate_left
 .simp only at p8;refine de p8 ?_;exact .inl ⟨j,i,v,by first | exact⟨O,A,S⟩ | exact⟨O,A,S,rfl⟩⟩
 simp only at u f g n q;subst u;refine ae ?_
 have ac:=hM.same j;refine aD (aNh rfl ac (Av hS j.1) f g n q (hs.same j) hl T hv ?_);intro F1 Z1 an N ao b1;refine ae ?_
 have z1:=(gI.same (mb:=mb) (db:=db) (m:=m) j).trans b1;refine aD (aOv H rfl ao (Av hS z1.1) ((N 0 au).trans f) ((N 1 au).trans g) hi ?_);intro F2 Z2 aw a k2 a1 a2 B b2;refine ae ?_
 have u:aC 0 F2= .ptr mb 0:=(k2 0 au).trans ((N 0 au).trans f);have f9:=cH (p:=9) B.g rfl;have M:=B.p.inf.len;have I:IntKind.i64.wrap ((((m.ch++ [(⟨pl,a⟩:fU)]).length:Nat):Int) - 1)=(m.ch.length:Int):=by
  rw[Aj,Ba,wrap_i64 au au];omega
 refine cA (fj u @bE @bF @aB @aA f9 M I ?_);refine aT (ae ?_);exact .inr ⟨an,aw,a,a1,a2,rfl,B,z1.trans b2⟩
end Go.Ev.Gl
