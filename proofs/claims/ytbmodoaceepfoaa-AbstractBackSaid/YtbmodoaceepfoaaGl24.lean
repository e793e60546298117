import Derived.Test.YtbmodoaceepfoaaGl23
set_option linter.all false
open Nat renaming reduceEqDiff -> rE, reduceAdd -> rA
set_option maxHeartbeats 0
namespace Go.Ev.Gl
variable {fns:T eY}
variable {i b c j n d1 d2 m1 ty lp ob:Nat}{g:aX}{first l:bu}{L:bt}{X X' S U S0 Z:St}{v rv iv:AV}{P:Nat->Prop}{key:Nat->Nat}{F:Fr}{last:Option Nat}{Q:Out->bO->St->Prop}{cs:cd}
structure eR where
 neg:Bool
 num:ce
 den:ce
variable {r:List eR}{x y:eR}{R M:Nat->List eR}
def aAO(S:St)(cs:cd)(x:eR):Prop:=∃nv a,cs= [.bool x.neg,nv,a]/\iL S nv x.num/\iL S a x.den
def qD:aCG aAO:=fun⟨a,b,h,d,e⟩ c=>⟨a,b,h,d.same c,e.same c⟩
def lN(S:St)(cs:cd)(L:List eR):Prop:=∃a,cs= [a]/\aG 3 aAO S a L
def iJ:aCG lN:=fun⟨a,h,b⟩ c=>⟨a,h,aG.same (E:=aAO) qD b c⟩
def aFY(x:eR):Prop:=x.num.length * 4<=140737488355328/\x.den.length * 4<=140737488355328
def aEe(s:List (List eR)):Prop:=∀r∈s,∀x∈r,aFY x
def aFB(g:aX)(L:bt)(first:bu):Prop:=vC g.ch.length (tY g.ch.length (L.map (dx g))) first
def aP1(g:aX)(L:bt)(z:AV)(K:bu->bt->AV->Prop)(r:AV):Prop:=(pM g L≠0/\r= .tup [z,je (pM g L)])\/(pM g L=0/\∃first,aFB g L first/\((Dup g L first/\r= .tup [z,je 13])\/(¬Dup g L first/\∃act,sL g L first act/\K first act r)))
def sG(l:List fU)(s:List (List eR)):Prop:=s.length=l.length/\∀ (i:Nat) (x:fU) (r:List eR),l[i]? =some x->s[i]? =some r->x.cr=(r.length:Int)
def aNm:eR:=⟨false,[],[]⟩
def qG(s:List (List eR))(i a:Nat):eR:=(s.getD i []).getD a aNm
def aFG{s:List (List eR)}{a:Nat}(b:s[i]? =some r)(c:a<r.length):r[a]? =some (qG s i a):=by
 unfold qG;rw[Ad (l:=s),b,Ad];show _=some (r[a]?.getD _);rw[Ab c];rfl
def iM(g:aX)(first:bu)(act:bt):ce:=(jR g first act g.cg.length 0 0 []).dt
def mS(first:bu)(i:Nat):Nat:=(first.getD i 0).toNat
def aAe(act:bt)(i a:Nat):Nat:=((act.getD i []).getD a 0).toNat
def aLm(g:aX)(first:bu)(act:bt)(s:List (List eR)):Prop:=∀i a,i<g.ch.length->a<fJ g i->qG s i a=qG s (mS first i) (aAe act i a)
def xT(g:aX)(dt:ce):List fU:=dt.map fun r:Nat=>cv g (r:Int)
def uB(g:aX)(first:bu)(dt:ce):Prop:=dt.Nodup/\∀r∈dt,r<g.ch.length/\first.getD r 0=(r:Int)
def aP5{dt:ce}{r:Nat}(h:uB g first dt)(f:r<g.ch.length/\first.getD r 0=(r:Int)):uB g first (qP dt r).1:=by
 unfold qP;split
 .exact h
 .rename_i i;refine⟨List.nodup_append.2 ⟨h.1,by simp,fun a j b d e=>?_⟩,fun x c=>?_⟩
  .rw[Cc] at d;subst d;subst e;exact i j
  .rcases Bi.1 c with c|c
   .exact h.2 x c
   .rw[Cc] at c;subst c;exact f
theorem aIb{g:aX}{first:bu}{lay:Nat->Nat->ce->aDm}:∀ {l:bu} (_:∀k∈l,∀i dt,uB g first dt->uB g first (lay k.toNat i dt).dt) {i:Nat} {dt:ce},uB g first dt->uB g first (fZ lay l i dt).2.dt
 | [],_,_,_=>fun h=>h
 | y::l,h,i,dt=>fun a=>by
  unfold fZ;exact aIb (l:=l) (fun k b=>h k (Bf _ b)) (h y (Bk ..) i dt a)
theorem aKW{g:aX}{L:bt}{first:bu}{act:bt}(G:eO g)(c:pX g act)(d:aFB g L first):∀ {f o i:Nat} {dt:ce},o<g.cg.length->uB g first dt->uB g first (jR g first act f o i dt).dt
 | 0,_,_,_=>fun _ h=>h
 | f+1,o,i,dt=>fun a h=>by
  unfold jR;refine aIb (fun k b i dt j=>?_) ?_
  .have l:=pY G c a;obtain⟨q,e,rfl⟩:=Cp (l.mem_iff.1 b);have:=G.kids o a q e;rw[Ad,Ab e] at this;simp only[Eb] at this;exact aKW G c d au j
  .unfold jC;split
   .rename_i b;have⟨m,p,_⟩:=G.inf o a b;exact aP5 h (zG d au)
   .exact h
def aDR{act:bt}(G:eO g)(a:pX g act)(b:aFB g L first):uB g first (iM g first act):=aKW G a b G.n1 ⟨List.nodup_nil,fun _ h=>by cases h⟩
def aH5{act:bt}(f:¬Dup g L first)(k:sL g L first act){r a:Nat}(c:r<g.ch.length)(d:first.getD r 0=(r:Int))(i:a<fJ g r):aAe act r a=a:=by
 have⟨b,l,j,e⟩:=k.at_ r a c i;rw[d,Ay] at j e;unfold aAe;rw[l,Ay];rcases Dw a b with h|h|h
 .exact absurd ⟨r,a,b,c,d,h,j,e⟩ f
 .exact h.symm
 .exact absurd ⟨r,b,a,c,d,h,i,.symm e⟩ f
def aM3{k:IntKind}(h:bN k X v l)(e:X.nx<=X'.nx)(f:∀c,aM v=some c->X'.h.get c=X.h.get c):bN k X' v l:=by
 rcases h with h|⟨b,off,cap,o,cs,rfl,i,j,a,d⟩
 .exact .inl h
 .exact .inr ⟨b,off,cap,o,cs,rfl,i,Ae j e,by unfold cI;rw[f b rfl];exact a,d⟩
def qR(S:St)(P:Nat->Prop)(e:cd)(x:eR):Prop:=∃nv a,e= [.bool x.neg,nv,a]/\iL S nv x.num/\iL S a x.den/\∀c,(aM nv=some c\/aM a=some c)->P c
def qR.move{b:St}{P':Nat->Prop}{e:cd}(h:qR S P e x)(o:S.nx<=b.nx)(f:∀c,c<S.nx->P c->b.h.get c=S.h.get c/\P' c):qR b P' e x:=by
 have⟨nv,p,q,j,m,d⟩:=h;have k:∀ {v:AV} {l:ce},iL S v l->(∀c,aM v=some c->P c)->iL b v l:=fun i r=>aM3 i o fun c a=>(f c (dP i a) (r c a)).1;exact⟨nv,p,q,k j fun c a=>d c (.inl a),k m fun c a=>d c (.inr a),fun c a=>(f c (by rcases a with a|a;exact dP j a;exact dP m a) (d c a)).2⟩
def qR.raw{e:cd}(h:qR S P e x):aAO S e x:=by
 have⟨nv,a,b,c,d,_⟩:=h;exact⟨nv,a,b,c,d⟩
def MxW(lp ob:Nat)(cs:cd)(c:Nat):Prop:=c=lp\/c=ob\/∃a∈cs,aM a=some c
structure Mx(lp:Nat)(S0 X:St)(ob n:Nat)(cs:cd)(L:Nat->List eR):Prop where
 ho:X.h.get ob=some (.cells cs false 0)
 lt:ob<X.nx
 hl:cs.length=n
 lo:lp<S0.nx
 le:S0.nx<=X.nx
 ne:ob≠lp
 gr:∀ (j:Nat) (a:AV),cs[j]? =some a->mL 3 (qR X fun c=>¬MxW lp ob cs c) S0 X a (L j)
 no:∀a∈cs,aM a≠some ob
 dj:∀ (j k:Nat) (a b:AV),j≠k->cs[j]? =some a->cs[k]? =some b->∀c,aM a=some c->aM b≠some c
section
variable {lp ob n:Nat}{S0 X X':St}{cs:cd}{L:Nat->List eR}
def Mx.move(h:Mx lp S0 X ob n cs L)(b:X.nx<=X'.nx)(f:∀c,c<X.nx->c≠lp->X'.h.get c=X.h.get c):Mx lp S0 X' ob n cs L:=
 ⟨(f _ h.lt h.ne).trans h.ho,Ae h.lt b,h.hl,h.lo,Av h.le b,h.ne,fun j a i=>(h.gr j a i).move b (fun c d=>f c ((h.gr j a i).blk d).2 (by have:=((h.gr j a i).blk d).1;have:=h.lo;omega)) fun _ _ l=>l.move b fun c d k=>⟨f c d fun e=>k (.inl e),k⟩,h.no,h.dj⟩
def Mx.blk(h:Mx lp S0 X ob n cs L){a:AV}(b:a∈cs)(d:aM a=some c):S0.nx<=c/\c<X.nx:=by
 have⟨j,e⟩:=Ez.1 b;exact(h.gr j a e).blk d
def Mx.high(h:Mx lp S0 X ob n cs L)(f:X.nx<=c):¬MxW lp ob cs c:=by
 rintro(e|e|⟨a,b,d⟩)
 .have:=h.lo;have:=h.le;omega
 .have:=h.lt;omega
 .have:=(h.blk b d).2;omega
def Mx.push(h:Mx lp S0 X ob n cs L){a a':AV}{l:List eR}(hi:cs[i]? =some a)(z:X.nx<=X'.nx)(F:X'.h.get ob=jf (cs.set i a'))(G:mL 3 (qR X' fun c=>¬MxW lp ob cs c/\aM a'≠some c) S0 X' a' l)(A:∀c,aM a'=some c->aM a=some c\/X.nx<=c)(D:∀c,c<X.nx->c≠ob->aM a≠some c->X'.h.get c=X.h.get c):Mx lp S0 X' ob n (cs.set i a') (fun j=>if j=i then l else L j):=by
 have u:=Ar hi;have get:∀ (j:Nat) (c:AV),(cs.set i a')[j]? =some c->(j=i/\c=a')\/(j≠i/\cs[j]? =some c):=fun j c f=>by
  rw[Cw] at f;split at f
  .rename_i e;split at f
   .exact .inl ⟨e.symm,(Bh f).symm⟩
   .cases f
  .rename_i e;exact .inr ⟨fun H=>e H.symm,f⟩
 have I:∀c,c<X.nx->¬MxW lp ob cs c->X'.h.get c=X.h.get c/\¬MxW lp ob (cs.set i a') c:=fun c q o=>by
  refine⟨D c q (fun e=>o (.inr (.inl e))) fun e=>o (.inr (.inr ⟨a,u,e⟩)),?_⟩;rintro(e|e|⟨b,p,s⟩)
  .exact o (.inl e)
  .exact o (.inr (.inl e))
  .have⟨j,f⟩:=Ez.1 p;rcases get j b f with⟨rfl,rfl⟩|⟨_,f⟩
   .rcases A c s with s|s
    .exact o (.inr (.inr ⟨a,u,s⟩))
    .omega
   .exact o (.inr (.inr ⟨b,Ar f,s⟩))
 refine⟨F,Ae h.lt z,by rw[Aw];exact h.hl,h.lo,Av h.le z,h.ne,fun j c f=>?_,fun b p e=>?_,fun j k x y r J E c q m=>?_⟩
 .rcases get j c f with⟨rfl,rfl⟩|⟨v,f⟩
  .simp only[↓reduceIte];refine G.move (Af _) (fun _ _=>rfl) fun _ _ B=>B.move (Af _) fun d _ o=>⟨rfl,?_⟩;rintro(e|e|⟨b,p,s⟩)
   .exact o.1 (.inl e)
   .exact o.1 (.inr (.inl e))
   .have⟨k,t⟩:=Ez.1 p;rcases get k b t with⟨rfl,rfl⟩|⟨_,t⟩
    .exact o.2 s
    .exact o.1 (.inr (.inr ⟨b,Ar t,s⟩))
  .simp only[if_neg v];refine(h.gr j c f).move z (fun d C=>D d ((h.gr j c f).blk C).2 (fun e=>h.no c (Ar f) (by rw[C,e])) (h.dj j i c a v f hi d C)) fun _ _ B=>B.move z I
 .have⟨j,f⟩:=Ez.1 p;rcases get j b f with⟨rfl,rfl⟩|⟨_,f⟩
  .rcases A _ e with e|e
   .exact h.no a u e
   .have:=h.lt;omega
  .exact h.no b (Ar f) e
 .rcases get j x J with⟨rfl,rfl⟩|⟨v,f⟩
  .rcases get k y E with⟨rfl,rfl⟩|⟨w,t⟩
   .exact r rfl
   .rcases A c q with q|q
    .exact h.dj j k a y r hi t c q m
    .have:=((h.gr k y t).blk m).2;omega
  .rcases get k y E with⟨rfl,rfl⟩|⟨w,t⟩
   .rcases A c m with m|m
    .exact h.dj j k x a r f hi c q m
    .have:=((h.gr j x f).blk q).2;omega
   .exact h.dj j k x y r f t c q m
theorem Mx.is(h:Mx lp S0 X ob n cs L):aG 1 lN X (.sl ob 0 n n false) ((List.range n).map L):=by
 refine .inr ⟨ob,0,n,false,cs,by simp,by simp,h.lt,by unfold cI;rw[h.ho];rfl,fun i l hi=>?_⟩;rw[Az,Bb] at hi;obtain⟨f,a,rfl⟩:=hi;have b:i<n:=by have:=(Ai.1 a).1;rwa [Bj] at this
 rw[Br b] at a;cases a;have c:cs[i]? =some (cs[i]'(by rw[h.hl];exact b)):=Ab _;refine⟨[cs[i]'(by rw[h.hl];exact b)],rfl,fun j x d=>?_,_,rfl,(h.gr i _ c).is fun _ _ e=>e.raw⟩;cases j with
 | zero=>
  cases d;rw[Am,Dm,Bs];exact c
 | succ j=>simp at d
def RowK(key:Nat->Nat)(T:Nat->List eR)(s a j:Nat):List eR:=if key j<s then T j else if key j=s then(T j).take a else []
def Mx.ext{L':Nat->List eR}(h:Mx lp S0 X ob n cs L)(e:∀j,j<n->L j=L' j):Mx lp S0 X ob n cs L':=
 ⟨h.ho,h.lt,h.hl,h.lo,h.le,h.ne,fun j a b=>by have:=(Ai.1 b).1;rw[<-e j (by rw[<-h.hl];exact this)];exact h.gr j a b,h.no,h.dj⟩
def aFJ{T:Nat->List eR}{s a:Nat}(c:key i=s)(k:(T i)[a]? =some x)(d:∀j,j<n->key j=s->j=i)(f:j<n):(if j=i then RowK key T s a i++ [x] else RowK key T s a j)=RowK key T s (a+1) j:=by
 unfold RowK;by_cases e:j=i
 .rw[if_pos e,e,if_neg au,if_pos c,if_neg au,if_pos c,Bx,k];rfl
 .rw[if_neg e];by_cases b:key j<s
  .rw[if_pos b,if_pos b]
  .rw[if_neg b,if_neg b,if_neg (fun h=>e (d j f h)),if_neg (fun h=>e (d j f h))]
def aLu{T:Nat->List eR}{s a:Nat}(h:key j=s->(T j).length<=a):RowK key T s a j=RowK key T (s+1) 0 j:=by
 unfold RowK;by_cases c:key j<s
 .rw[if_pos c,if_pos au]
 .rw[if_neg c];by_cases b:key j=s
  .rw[if_pos b,if_pos au,Bd (h b)]
  .rw[if_neg b,if_neg au];split
   .rfl
   .rfl
end
def aP3(_:St)(cs:cd)(x:Int):Prop:=cs= [.int .u32 x]
def aLD:aCG aP3:=fun h _=>h
def toU(h:bN .u32 S v l):aG 1 aP3 S v l:=by
 rcases h with h|⟨b,off,cap,o,cs,rfl,f,k,c,d⟩
 .exact .inl h
 .refine .inr ⟨b,off,cap,o,cs,rfl,f,k,c,fun i a hi=>⟨[.int .u32 a],rfl,fun j x e=>?_,rfl⟩⟩;cases j with
  | zero=>simp at e;subst e;rw[Dm,Bs];exact d i a hi
  | succ j=>simp at e
def ofU(h:aG 1 aP3 S v l):bN .u32 S v l:=by
 rcases h with h|⟨b,off,cap,o,cs,rfl,j,k,c,d⟩
 .exact .inl h
 .refine .inr ⟨b,off,cap,o,cs,rfl,j,k,c,fun i a hi=>?_⟩;have⟨e,_,m,f⟩:=d i a hi;have f:e= [.int .u32 a]:=f;subst f;have:=m 0 _ rfl;rw[Dm,Bs] at this;exact this
def aOY{l:ce}(f:S.h.get b=jf [])(d:b<S.nx)(h:iL S v l)(k:l.length * 4<=140737488355328):
  ∃r a,gG 4 1 (.sl b 0 0 0 false) v S=some (r,a)/\Same S a/\iL a r l/\∀c,aM r=some c->c=b\/S.nx<=c:=by
 have⟨r,a,e,i,s,j⟩:=aMI (bytes:=4) (E:=aP3) (l:=l.map Int.ofNat) aLD Nat.one_pos f d (toU h) (by rw[Al];unfold room;omega) (by rw[Al];unfold room;omega);exact⟨r,a,e,s,ofU i,j⟩
def aC9{a b:AV}{l m:ce}(H:Has fns)(h:iL S a l)(q:iL S b m)(I:m.length * 4<=140737488355328):iI fns (.fn 62 [] []) [a,b] S fun r S'=>r= .bool (decide (l=m))/\Same S S':=by
 refine cK H.f62 (by simp) ?_;refine ai ?_;refine cA (ai ?_);refine gH (ie h.len q.len ?_);by_cases f:l.length=m.length
 .refine aQ io (aK ?_);refine ai ?_;refine gH (ai ?_);refine bB (Q:=fun o C S'=>Same S S'/\((o= .normal/\l=m)\/(o= .ret/\aC 4 C.F= .bool false/\l≠m))) ?_ ?_
  .refine aO (bX (aSd S a b l m) ?_ l.length _ _ ⟨rfl,rfl,Af _,0,au,aj,aj,aj,by simp⟩);rintro k ⟨F,inr⟩ S' ⟨x,y,s,i,D,j,t,p,c⟩;simp only at x j t p;subst x;have d:=aLf y s;have u:=h.same d;have v:=q.same d;refine gH ?_;simp only[↓aF,aE,rE,↓reduceIte,j,p,h.len];by_cases hi:i<l.length
   .refine aS io (aK ?_);refine ai ?_;have z:=u.ld hi;have A:=v.ld (i:=i) au;rw[Ad] at z A;have t1:l.take (i+1)=l.take i++ [l[i]?.getD 0]:=by rw[Bx,Ab hi];rfl
    have t2:m.take (i+1)=m.take i++ [m[i]?.getD 0]:=by rw[Bx,Ab (by omega:i<m.length)];rfl
    refine aD (aO (aD (jK ?_)));refine fh j t p (h.df hi) (q.df (au:i<m.length)) z A ?_;by_cases e:l[i]?.getD 0=m[i]?.getD 0
    .refine aQ (by simp only[↓aF,aE,rE,↓reduceIte,e];simp) (aK ?_);refine ai ?_;refine aL ?_;have E:=ed i
     refine ie p E ?_;exact⟨k - 1,au,rfl,y,by simp;omega,i+1,au,ak j,ak t,aj,by rw[t1,t2,c,e]⟩
    .refine aS (by simp only[↓aF,aE,rE,↓reduceIte];simp;omega) ?_;refine cA (ai ?_);refine aT (ai ?_);exact⟨d.trans (Same.nx S' _),.inr (by rintro rfl;exact e rfl)⟩
   .refine aQ io (bT ?_);refine ai ?_;rw[Bd au,Bd au] at c;exact⟨d,.inl c⟩
  rintro o ⟨F,inr⟩ S' ⟨d,⟨rfl,G⟩|⟨rfl,B,w⟩⟩
  .refine ai ?_;refine cA (ai ?_);refine aT (gy (Ac G) ?_);exact d
  .simp only at B;refine ie B (Aa w) ?_;exact d
 .refine aS io ?_;refine cA (ai ?_);refine aT ?_;have:¬l=m:=by rintro rfl;exact f rfl
  refine gy (Aa this) ?_;exact eu _
def aCT{a b:AV}{m:bu}(H:Has fns)(w:bN .u32 S a l)(y:bN .u32 S b m)(K:l.length * 4<=140737488355328):iI fns (.fn 71 [] []) [a,b] S fun r S'=>r= .bool (decide (l=m))/\Same S S':=by
 refine cK H.f71 (by simp) ?_;refine am ?_;refine cA (am ?_);refine gH (ft w.len y.len @Ah ?_);by_cases z:l.length=m.length;rotate_left
 .rw[Aa (show ¬l=m from fun e=>z (by rw[e]))];refine aS io ?_;refine cA (am ?_);refine aT (am ?_);exact eu _
 refine aQ io (aK ?_);refine am ?_
 refine aD (bB (Q:=fun o C X=>(o= .normal/\aQe S a b l m 0 C X)\/(o= .ret/\Same S X/\l≠m/\aC 4 C.F= .bool false)) (aD (aL ?_)) ?_)
 .refine fo w.len @Ah ?_;refine aO (bX (aQe S a b l m) ?_ l.length _ _ ⟨rfl,eu _,0,au,rfl,by refine⟨?_,?_,?_,?_⟩<;>simp only[↓aF,aE,rE,↓reduceIte,rA]⟩);rintro k ⟨F,inr⟩ X ⟨q,f,i,s,t,u,v,j,d⟩;simp only at q u v j d;subst q;refine cA (fo j d ?_);by_cases p:i<l.length
  .refine aD (aS io (aK ?_));refine am ?_
   have c:i<m.length:=by omega
   have E:=(w.same f).df p;have G:=(w.same f).ld p;have I:=(y.same f).df c;have lb:=(y.same f).ld c;have J:=ed i
   refine aD (aO (aD (aL ?_)));refine fl d ?_;refine aD (jK ?_);refine gj u v @aJ E I G lb ?_;have el:l.getD i 0=l[i]:=by rw[Ad,Ab p];rfl
   have em:m.getD i 0=m[i]:=by rw[Ad,Ab c];rfl
   by_cases x:l.getD i 0=m.getD i 0
   .refine aQ (iz (Aa (show ¬l.getD i 0≠m.getD i 0 from fun h=>h x))) (aK ?_);refine am ?_
    refine aL (fo d J ?_);refine⟨k - 1,au,rfl,f.trans (Same.nx _ _),i+1,au,?_,by refine⟨?_,?_,?_,?_⟩<;>simp only[↓aF,aE,rE,↓reduceIte,rA,u,v,j]⟩;rw[Bx,Bx,t,Ab p,Ab c,<-el,<-em,x]
   .refine aS (iz (Ac (show l.getD i 0≠m.getD i 0 from x))) ?_;refine cA (am ?_);refine aT (am ?_);exact .inr ⟨f.trans (Same.nx _ _),fun e=>x (by rw[e])⟩
  .refine aD (aQ io (bT ?_));refine am ?_;have A:k=0:=by omega
   subst A;exact .inl ⟨rfl,f,i,s,t,by refine⟨?_,?_,?_,?_⟩<;>simp only[↓aF,aE,rE,↓reduceIte,rA,u,v,j,d]⟩
 rintro o ⟨F,inr⟩ X (⟨rfl,q,f,i,s,t,u,v,j,d⟩|⟨rfl,f,B,D⟩);rotate_left
 .simp only at D;refine fl D ?_;rw[Aa B];exact⟨rfl,f⟩
 simp only at q;subst q;rw[Bd au,Bd au] at t;rw[Ac t];refine am ?_
 refine cA (am ?_);refine aT (am ?_);exact f
def aBy{l:ce}(H:Has fns)(h:iL S v l)(j:l.length * 4<=140737488355328):iI fns (.fn 60 [] []) [v] S fun r X=>Same S X/\iL X r l/\∀c,aM r=some c->S.nx<=c:=by
 refine cK H.f60 (by simp) ?_;refine ae ?_;refine cA (ae ?_);by_cases a:v= .ct
 .have d:l= []:=by
   rcases h with⟨h,_⟩|⟨b,off,cap,o,cs,rfl,_⟩
   .exact List.map_eq_nil_iff.1 h
   .cases a
  subst a;subst d;have f:nH .eql (.p .slice) .ct .ct=some (.bool true):=rfl;refine gH (de f ?_);refine aS (af) ?_;refine cA (ae ?_);refine aT (ae ?_);exact⟨eu S,.inl ⟨rfl,.inl rfl⟩,fun c i=>by cases i⟩
 .have f:nH .eql (.p .slice) v .ct=some (.bool false):=by
   rcases h with⟨_,rfl|rfl⟩|⟨b,off,cap,o,cs,rfl,_⟩
   .exact absurd rfl a
   .rfl
   .rfl
  refine gH (de f ?_);refine aQ (af) (aK ?_);refine ae ?_
  refine cA ?_;refine fW sK ?_;intro S1 s1 q k;refine am ?_;have⟨r,s,e,s2,m,p⟩:=aOY k au (h.same s1) j;refine fN (fun call=>by refine fl @fK ?_;exact e) ?_;refine am ?_;refine aT (am ?_);exact⟨s1.trans s2,m,fun c i=>by rcases p c i with rfl|h<;>omega⟩
def aCJ{e:cd}(H:Has fns)(h:aAO S e x)(C:aFY x):iI fns (.fn 40 [] []) [.agg e] S fun r D=>Same S D/\∃E,r= .agg E/\qR D (fun c=>S.nx<=c) E x:=by
 obtain⟨nv,J,rfl,F,G⟩:=h;refine cK H.f40 (by simp) ?_;refine ai ?_;refine cA ?_;refine cR (by simp only[↓aF,aE,rE,↓reduceIte,aY];rfl) ?_;intro S1 u K v;refine bS ?_;intro I m M w;refine ai ?_;have a:I.h.get S.nx=jf [.bool x.neg,nv,J]:=by rw[m.2 _ au];exact v
 have o:=u.trans m;have p:S.nx<I.nx:=by omega
 have q:¬S.nx=S1.nx:=by omega
 refine aD (iD (fun c=>c=S1.nx) ?_);intro N j;have d:=o.trans j;have U:=j.1;simp only[↓sU,sD,rE,↓reduceIte,rA,aB,aA,aP,jB a,aBH a,p,q,An,zK F];refine dR rfl ?_;refine ae ?_;refine aW (aBy H (F.same d) C.1) ?_;rintro y V ⟨f,s,O⟩;refine⟨f,?_⟩;have W:=f.1;refine fj @aB @aA @aP (jX a) p q @An (zK G) ?_;refine dR rfl ?_;refine ae ?_;refine aW (aBy H (G.same (d.trans f)) C.2) ?_;rintro z Q ⟨i,t,R⟩;refine⟨i,?_⟩;refine ff @mK @aR2 @aJr (aEO s) (aEO t) ?_;have A:Q.h.get S1.nx=jf [.bool false,.ct,.ct]:=by
  rw[i.2 _ au,f.2 _ au,j.2 _ au];exact w
 refine aID (b:=S1.nx) rfl (af) (by simp only[↓sU,sD,rE,↓reduceIte,rA,aY];rfl) A rfl rfl rfl ?_;intro Y k T B;refine ae ?_;refine aT (ew @dE (ld3 B) ?_);refine⟨k.same (d.trans (f.trans i)) au,_,rfl,qR.move (P:=fun c=>N.nx<=c) ⟨y,z,rfl,s.same i,t,fun c l=>?_⟩ k.1 fun c l Z=>⟨k.2 c l au,au⟩⟩;rcases l with l|l
 .exact O c l
 .have:=R c l;omega
def zL:x=y↔x.neg=y.neg/\x.num=y.num/\x.den=y.den:=by
 cases x;cases y;simp only[eR.mk.injEq]
theorem aEn:∀ {l m:ce},l.map Int.ofNat=m.map Int.ofNat->l=m
 | [],[],_=>rfl
 | [],_::_,h=>by cases h
 | _::_,[],h=>by cases h
 | a::l,b::m,h=>by
  simp only[Dg,List.cons.injEq] at h;rw[Int.ofNat.inj h.1,aEn h.2]
def aIN{e f:cd}(H:Has fns)(B:aAO S e x)(C:aAO S f y)(i:aFY x):iI fns (.fn 61 [] []) [.agg e,.agg f] S fun r j=>Same S j/\∃t,r= .bool t/\(t=true↔x=y):=by
 obtain⟨nv,w,rfl,D,E⟩:=B;obtain⟨mv,ev,rfl,G,I⟩:=C;refine cK H.f61 (by simp) ?_;refine ai ?_;refine cA ?_;refine cR (by simp only[↓aF,aE,rE,↓reduceIte,aY];rfl) ?_;intro S1 p J q;refine cR (by simp only[↓aF,aE,rE,↓reduceIte,aY];rfl) ?_;intro K d M b;refine ai ?_;have c:=p.trans d;have k:K.h.get S.nx=jf [.bool x.neg,nv,w]:=by rw[d.2 _ au];exact q
 refine aD (bB (Q:=fun o N j=>o= .normal/\Same S j/\∃t,aC 4 N.F= .bool t/\(t=true↔x=y)) ?_ ?_)
 .refine aL ?_;by_cases l:x.neg=y.neg
  .simp only[↓aF,aE,rE,↓reduceIte,aB,aA,jB k,jB b,aBH k,aBH b,aDC,l,Dq];refine bK (ai ?_);refine aW (aCT H (D.same c) (G.same c) (by rw[Al];exact i.1)) ?_;rintro _ z ⟨rfl,a⟩;have s:z.h.get S.nx=jf [.bool x.neg,nv,w]:=by rw[a.2 _ au];exact k
   have u:z.h.get S1.nx=jf [.bool y.neg,mv,ev]:=by rw[a.2 _ au];exact b
   by_cases m:x.num=y.num
   .refine ik m @Fm @aB @aA (jX s) (jX u) ?_;refine bK (ai ?_);refine aW (aCT H (E.same (c.trans a)) (I.same (c.trans a)) (by rw[Al];exact i.2)) ?_;rintro _ O ⟨rfl,v⟩
    refine⟨c.trans (a.trans v),_,rfl,?_⟩;rw[Cl,zL];exact⟨fun h=>⟨l,m,aEn h⟩,fun h=>by rw[h.2.2]⟩
   .refine gy (Aa (show ¬x.num.map Int.ofNat=y.num.map Int.ofNat from fun h=>m (aEn h))) ?_;refine⟨c.trans a,_,rfl,?_⟩;rw[zL];exact⟨nofun,fun h=>absurd h.2.1 m⟩
  .have:(x.neg==y.neg)=false:=by simpa using l
   refine ik @aB @aA (jB k) (jB b) @aDC this ?_;refine⟨c,_,rfl,?_⟩;rw[zL];exact⟨nofun,fun h=>absurd h.1 l⟩
 .rintro o ⟨F,inr⟩ j ⟨rfl,c,t,A,i⟩;simp only at A;refine ai ?_;refine aT (gy A ?_);exact⟨c,_,rfl,i⟩
def aI0{e f:cd}(H:Has fns)(B:aAO S e x)(C:aAO S f y)(i:aFY y):iI fns (.fn 42 [] []) [.agg e,.agg f] S fun r j=>Same S j/\∃t,r= .bool t/\(t=true↔x=y):=by
 obtain⟨nv,w,rfl,D,E⟩:=B;obtain⟨mv,ev,rfl,G,I⟩:=C;refine cK H.f42 (by simp) ?_;refine ai ?_;refine cA ?_;refine cR (by simp only[↓aF,aE,rE,↓reduceIte,aY];rfl) ?_;intro S1 p J q;refine cR (by simp only[↓aF,aE,rE,↓reduceIte,aY];rfl) ?_;intro K d M b;refine ai ?_;have c:=p.trans d;have k:K.h.get S.nx=jf [.bool x.neg,nv,w]:=by rw[d.2 _ au];exact q
 refine aD (bB (Q:=fun o N j=>o= .normal/\Same S j/\∃t,aC 4 N.F= .bool t/\(t=true↔x=y)) ?_ ?_)
 .refine aL ?_;by_cases l:x.neg=y.neg
  .simp only[↓aF,aE,rE,↓reduceIte,aB,aA,jB k,jB b,aBH k,aBH b,aDC,l,Dq];refine bK (ai ?_);refine aW (aC9 H (D.same c) (G.same c) i.1) ?_;rintro _ z ⟨rfl,a⟩;have s:z.h.get S.nx=jf [.bool x.neg,nv,w]:=by rw[a.2 _ au];exact k
   have u:z.h.get S1.nx=jf [.bool y.neg,mv,ev]:=by rw[a.2 _ au];exact b
   by_cases m:x.num=y.num
   .refine ik m @Fm @aB @aA (jX s) (jX u) ?_;refine bK (ai ?_);refine aW (aC9 H (E.same (c.trans a)) (I.same (c.trans a)) i.2) ?_;rintro _ O ⟨rfl,v⟩
    refine⟨c.trans (a.trans v),_,rfl,?_⟩;rw[Cl,zL];exact⟨fun h=>⟨l,m,h⟩,fun h=>h.2.2⟩
   .refine gy (Aa (show ¬x.num=y.num from m)) ?_;refine⟨c.trans a,_,rfl,?_⟩;rw[zL];exact⟨nofun,fun h=>absurd h.2.1 m⟩
  .have:(x.neg==y.neg)=false:=by simpa using l
   refine ik @aB @aA (jB k) (jB b) @aDC this ?_;refine⟨c,_,rfl,?_⟩;rw[zL];exact⟨nofun,fun h=>absurd h.1 l⟩
 .rintro o ⟨F,inr⟩ j ⟨rfl,c,t,A,i⟩;simp only at A;refine ai ?_;refine aT (gy A ?_);exact⟨c,_,rfl,i⟩
def aBz{s:List (List eR)}(h:aG 1 lN X v s)(hi:s[i]? =some r):∃b q rv,eQ (.slice 1) v i=some (.ptr b q)/\b<X.nx/\eK (.ptr b q) false 1 X.h=some rv/\aG 3 aAO X rv r:=by
 obtain⟨e,b,q,a,c,j,⟨rv,rfl,d⟩,_,f⟩:=aG.at h az hi;exact⟨b,q,rv,a,c,f 0 rv rfl,d⟩
def aQT{a:Nat}(h:aG 3 aAO X rv r)(f:r[a]? =some x):∃b q e,eQ (.slice 3) rv a=some (.ptr b q)/\b<X.nx/\eK (.ptr b q) true 3 X.h=some (.agg e)/\aAO X e x:=by
 have⟨e,b,q,c,i,k,j,d,_⟩:=aG.at h az f;exact⟨b,q,e,c,i,d,j⟩
def aMZ{e:cd}(h:aAO X e x):cO (.agg e) (.agg e)=true:=by
 obtain⟨nv,a,rfl,b,c⟩:=h;show kK [.bool x.neg,nv,a] [.bool x.neg,nv,a]=true;simp only[kK,zK b,zK c,zY,aN]
def OkJ(l:List fU)(s:List (List eR))(j:Nat):Prop:=∀ (x:fU) (r:List eR),l[j]? =some x->s[j]? =some r->x.cr=(r.length:Int)
def aLd{p a n:Int}(H:Has fns)(b:kR v=some (je n)):iI fns (.fn 58 [] []) [.agg [je p,je a],v] S fun r c=>Same S c/\r= .bool (decide (a=n)):=by
 refine cK H.f58 (by simp) ?_;refine am ?_;refine cA ?_;refine cR (by refine am ?_;exact aY _) ?_;intro S1 s1 e d;refine am ?_;refine cA (fe @aB @aA (aAl d) b ?_);refine aT (ae ?_);exact s1
def aSQ(S:St)(iv a:AV)(l:List fU)(s:List (List eR))(k:Nat)(A:bO)(X:St):Prop:=A.inr=false/\Same S X/\∃i,i+k=l.length/\(∀j,j<i->OkJ l s j)/\aC 1 A.F=a/\aC 2 A.F= .fn 58 [] []/\aC 15 A.F=iv/\aC 16 A.F=je (l.length:Int)/\aC 17 A.F=je (i:Int)
def aN7{D:AV}{l:List fU}{s:List (List eR)}(H:Has fns)(hi:aG 2 cE S iv l)(P:aG 1 lN S D s)(hl:l.length<=10000000):iI fns (.fn 57 [] []) [iv,D,.fn 58 [] []] S fun r W=>Same S W/\∃t,r= .bool t/\(t=true↔sG l s):=by
 refine cK H.f57 (by simp) ?_;refine ae ?_;refine cA (ae ?_);refine gH (ez hi.len P.len @Ah ?_);by_cases v:l.length=s.length;rotate_left
 .refine aS im ?_;refine cA (ae ?_);refine aT (ae ?_);exact⟨eu _,_,rfl,nofun,fun h=>absurd h.1.symm v⟩
 refine aQ im (aK ?_);refine ae ?_
 refine aD (bB (Q:=fun o R X=>(o= .normal/\aSQ S iv D l s 0 R X)\/(o= .ret/\Same S X/\¬sG l s/\aC 6 R.F= .bool false)) (aD (aL ?_)) ?_)
 .refine ew hi.len @Ah ?_;refine aO (bX (aSQ S iv D l s) ?_ l.length _ _ ⟨rfl,eu _,0,au,fun j h=>absurd h (Ca j),af,af,af,af,ag⟩);rintro k ⟨F,inr⟩ X ⟨w,m,i,y,G,z,A,c,d,a⟩;simp only at w z A c d a;subst w;refine cA (ew d a ?_);by_cases p:i<l.length;rotate_left
  .refine aD (aQ im (bT ?_));refine ae ?_;obtain rfl:k=0:=by omega
   exact .inl ⟨rfl,m,i,y,G,by refine⟨?_,?_,?_,?_,?_⟩<;>simp only[↓sU,sD,rE,↓reduceIte,rA,z,A,c,d,a]⟩
  refine aD (aS im (aK ?_));refine ae ?_
  have⟨e,br,qr,J,Y,_,K,M,_⟩:=aG.at (aG.same (E:=cE) cB hi m) az (Ab p);have K:e= [je l[i].player,je l[i].cr]:=K;subst K;have u:i<s.length:=by omega
  have w1:=ed i
  refine aD (aO (aD (aL ?_)));refine fx c a @aJ J M ?_;refine bS ?_;intro V1 v1 k1 g1;refine am ?_
  refine cQ (b:=X.nx) (aq) (by refine am ?_;exact aY _) g1 rfl rfl ?_;intro V v2 k2 g2;refine am ?_;have T:Same X V:=v2.same v1 (Af _);have⟨b,q,rv,ia,_,N,hr⟩:=aBz (aG.same (E:=lN) iJ P (m.trans T)) (Ab u);refine cA (fu z @aJ ia N ?_);refine cA (fo A (aCZ g2) ?_);refine bK (am ?_);refine aW (aLd H hr.len) ?_;rintro _ Z ⟨sZ,rfl⟩;have B:=m.trans (T.trans sZ);by_cases f:l[i].cr=((s[i].length:Nat):Int)
  .refine ez @fY (Ac f) @Cm ?_;refine aQ (af) (aK ?_);refine ae ?_
   refine aL (ew a w1 ?_);refine⟨k - 1,au,rfl,B,i+1,au,fun j hj=>?_,by refine⟨?_,?_,?_,?_,?_⟩<;>simp only[↓sU,sD,rE,↓reduceIte,rA,z,A,c,d]⟩;by_cases e:j=i
   .subst e;intro x r C I;rw[Ab p] at C;rw[Ab u] at I;cases C;cases I;exact f
   .exact G j au
  .refine ez @fY (Aa f) @Dl ?_;refine aS (af) ?_;refine cA (ae ?_);refine aT (ae ?_);exact .inr ⟨B,fun h=>f (h.2 i _ _ (Ab p) (Ab u))⟩
 rintro o ⟨F,inr⟩ X (⟨rfl,w,m,i,y,G,z,A,c,d,a⟩|⟨rfl,m,O,U⟩);rotate_left
 .simp only at U;refine de U ?_;exact⟨m,_,rfl,nofun,fun h=>absurd h O⟩
 simp only at w;subst w;refine ae ?_
 refine cA (ae ?_);refine aT (ae ?_);exact⟨m,_,rfl,fun _=>⟨v.symm,fun j x r C I=>G j (by have:=(Ai.1 C).1;omega) x r C I⟩,fun _=>rfl⟩
def aAy{a:AV}{l:List fU}{s:List (List eR)}(H:Has fns)(hi:aG 2 cE S iv l)(b:aG 1 lN S a s)(c:l.length<=10000000):iI fns (.fn 38 [] []) [iv,a] S fun r d=>Same S d/\∃t,r= .bool t/\(t=true↔sG l s):=by
 refine cK H.f38 (by simp) ?_;refine ae ?_;refine cA (ae ?_);refine cA (ae ?_);refine bK (ae ?_);refine aW (aN7 H hi b c) ?_;rintro _ Z ⟨e,t,rfl,f⟩
 refine aT (ae ?_);exact⟨e,t,rfl,f⟩
def aA8{s:List (List eR)}(h:sG g.ch s)(hi:i<g.ch.length):∃r,s[i]? =some r/\r.length=fJ g i:=by
 have a:i<s.length:=by rw[h.1];exact hi
 refine⟨s[i],Ab a,?_⟩;have:=h.2 i _ _ (Ab hi) (Ab a);have e:cv g (i:Int)=g.ch[i]:=by
  unfold cv;rw[Ay,Ad,Ab hi];rfl
 unfold fJ;rw[e];omega
def aCB{j:AV}{s:List (List eR)}{a:Nat}(v:aG 1 lN X j s)(f:Same X X')(w:aEe s)(h:s[i]? =some r)(x:a<r.length):∃b q rv c d e,eQ (.slice 1) j i=some (.ptr b q)/\b<X.nx/\eK (.ptr b q) false 1 X'.h=some rv/\cO rv rv=true/\eQ (.slice 3) rv a=some (.ptr c d)/\c<X.nx/\eK (.ptr c d) true 3 X'.h=some (.agg e)/\cO (.agg e) (.agg e)=true/\aAO X' e (qG s i a)/\aFY (qG s i a):=by
 have k:=aFG h x;have⟨b,q,rv,y,l,m,o⟩:=aBz v h;have⟨c,d,e,z,p,t,u⟩:=aQT o k;rw[<-jH f l] at m;rw[<-jH f p] at t;exact⟨b,q,rv,c,d,e,y,l,m,aG.self o,z,p,t,aMZ u,qD u f,w r (Ar h) _ (Ar k)⟩
def aCq(h:bN .i64 X v l)(d:Same X X')(hi:i<l.length)(e:l.getD i 0=(n:Int)):∃b q,eQ (.slice 1) v i=some (.ptr b q)/\b<X.nx/\eK (.ptr b q) false 1 X'.h=some (je (n:Int)):=by
 have⟨b,q,f,a,c⟩:=uD h hi;rw[e,<-jH d a] at c;exact⟨b,q,f,a,c⟩
section
variable {g:aX}{L:bt}{first:bu}{act:bt}
def aOn{a:Nat}(h:aG 1 nK X v act)(l:Same X X')(k:sL g L first act)(hi:i<g.ch.length)(m:a<fJ g i):∃b q rv d j,eQ (.slice 1) v i=some (.ptr b q)/\b<X.nx/\eK (.ptr b q) false 1 X'.h=some rv/\cO rv rv=true/\eQ (.slice 1) rv a=some (.ptr d j)/\d<X.nx/\eK (.ptr d j) false 1 X'.h=some (je ((aAe act i a:Nat):Int)):=by
 have f:i<act.length:=by rw[k.len];exact hi
 obtain⟨e,b,q,t,o,_,⟨rv,rfl,p⟩,_,u⟩:=aG.at h az (Ab f);have r:act.getD i []=act[i]:=by rw[Ad,Ab f];rfl
 have c:=k.row i hi;obtain⟨y,s,_⟩:=k.at_ i a hi m;rw[r] at c s;obtain⟨d,j,w,x,z⟩:=aCq (n:=aAe act i a) p l (by rw[c];exact m) (by unfold aAe;rw[r,s];rfl);exact⟨b,q,rv,d,j,t,o,(jH l o).trans (u 0 rv rfl),bN.self p,w,x,z⟩
def aNV(b:sL g L first act){a:Nat}(hi:i<g.ch.length)(c:a<fJ g i):aAe act i a<fJ g (mS first i):=by
 have⟨y,d,e,_⟩:=b.at_ i a hi c;unfold aAe mS;rw[d,Ay];exact e
def aI5(a:aFB g L first)(hi:i<g.ch.length):first.getD i 0=((mS first i:Nat):Int)/\mS first i<g.ch.length/\mS first (mS first i)=mS first i:=by
 have⟨r,b,c⟩:=aGB a i hi;have:=(zG a hi).2;unfold mS;exact⟨au,au,au⟩
def aTG(d:St)(g:aX)(first:bu)(act:bt)(l:List (List eR))(s a:Nat)(Y:St):Prop:=d.nx<Y.nx/\(∀c,c<d.nx->Y.h.get c=d.h.get c)/\∀i b,i<g.ch.length->vU g s a (i,b)->qG l i b=qG l (mS first i) (aAe act i b)
def aSS(a:St)(g:aX)(first:bu)(act:bt)(l:List (List eR))(rb:Nat)(Y:St):Prop:=a.nx<=Y.nx/\(∀c,c<a.nx->c≠rb->Y.h.get c=a.h.get c)/\Y.h.get rb=jf [.bool false]/\¬aLm g first act l
def aMy(G:eO g){s:Nat}(a:s<g.ch.length):0<=(cv g (s:Int)).cr/\(cv g (s:Int)).cr<=10000:=by
 have⟨f1,_,_⟩:=G.fst s a;rw[xV G a];have:=G.nxt _ f1;omega
def aFF{nv fv av I:AV}{l:List (List eR)}(H:Has fns)(G:eO g)(hL:∀m∈L,gT g m)(hO:aFB g L first)(hA:sL g L first act)(hi:aG 2 cE S iv g.ch)(hf:bN .i64 S fv first)(K:aG 1 nK S av act)(u:aG 1 lN S I l)(ht:aEe l)(x:sG g.ch l):
  iI fns (.fn 41 [] []) [.agg [fv,av],.agg [je g.cm,nv,iv],I] S fun r S'=>Same S S'/\∃t,r= .bool t/\(t=true↔aLm g first act l):=by
 have bk:=G.ni;refine cK H.f41 (by simp) ?_;refine am ?_;refine cA ?_;refine cR (by refine am ?_;exact aY _) ?_;intro S1 s1 n1 g1;refine am ?_;refine cR (by refine am ?_;exact aY _) ?_;intro S2 s2 n2 g2
 refine cR (cs:=[I]) (by refine am ?_;exact lK u) ?_;intro O s3 n3 g3
 refine bS ?_;intro V s4 n4 g4;refine am ?_
 have d:=s1.trans (s2.trans (s3.trans s4));have c1:V.h.get S.nx=_:=(s4.2 _ au).trans ((s3.2 _ au).trans ((s2.2 _ au).trans g1));have c2:V.h.get S1.nx=_:=(s4.2 _ au).trans ((s3.2 _ au).trans g2);have c3:V.h.get S2.nx=_:=(s4.2 _ au).trans g3;refine aD (bB (Q:=fun o A' Y=>aC 6 A'.F= .ptr O.nx 0/\A'.inr=false/\∃j,Same V j/\((o= .normal/\aTG j g first act l g.ch.length 0 Y)\/(o= .ret/\aSS j g first act l O.nx Y))) (aD (aL ?_)) ?_)
 .refine ez @aB @aA (iS c2) ?_;refine bK (ae ?_);refine aW (nI H (lK hi)) ?_;rintro _ j ⟨v0,bc,rfl,bm,aa,ab⟩
  have k:=d.trans v0;have lV:=v0.1;have d1:=(v0.2 _ au).trans c1;have d3:=(v0.2 _ au).trans c3;have d4:=(v0.2 _ au).trans g4;refine aO (tE (S:=S) (g:=g) (iv:=iv) (R:=aSS j g first act l O.nx) (J:=aTG j g first act l) H rfl (af) hi au (fun s u=>aMy G u) ab aa (fun s a Y h=>⟨⟨by have:=k.1;have:=h.1;omega,fun c f=>(h.2.1 c (ax k.1)).trans (k.2 c f)⟩,h.1⟩) (fun s a Y Y' h hn M=>⟨ax h.1,fun c f=>(M c (ax h.1) au).trans (h.2.1 c f),h.2.2⟩) (fun Y Y' h hn M=>?_) (fun Y hn M=>⟨hn,M,fun i b _ v=>?_⟩) (fun s Y u h=>⟨h.1,h.2.1,fun i b hi v=>h.2.2 i b hi (aEN v)⟩) (fun s a Y u K h=>?_) (fun Y h=>?_) (fun Y h=>?_))
  .have⟨h1,y,A,h4⟩:=h;exact⟨au,fun c f B=>(M c au au).trans (y c f B),(M _ au au).trans A,h4⟩
  .unfold vU at v;simp only at v;omega
  ·-- a choice
   refine cA (ae ?_);refine aL (ae ?_);intro bl;have⟨h1,y,A⟩:=h;generalize w:(⟨Y.h.set j.nx bl,Y.nx⟩:St)=Y';have nY:Y'.nx=Y.nx:=by rw[<-w]
   have N:∀c,c<j.nx->Y'.h.get c=j.h.get c:=fun c f=>by rw[<-w];simp only;rw[ef,if_neg au];exact y c f
   have z:Y'.h.get j.nx=bl:=by rw[<-w];simp only;rw[ef,if_pos rfl]
   clear w;have sY:Same S Y':=⟨ax k.1,fun c f=>(N c (ax k.1)).trans (k.2 c f)⟩;have y1:=(N _ au).trans d1;have y3:=(N _ au).trans d3;have y4:=(N _ au).trans d4;obtain⟨f1,f2,_⟩:=aI5 hO u;obtain⟨r,hr,ac⟩:=aA8 x u;obtain⟨r',an,P⟩:=aA8 x f2;have ao:=aNV hA u K;obtain⟨b1,q1,rv,b2,q2,e,i1,l1,aw,aI,i2,l2,aV,aZ,hE,hT⟩:=aCB (aG.same (E:=lN) iJ ‹aG 1 lN S I l› sY) (eu _) ht hr (by rw[ac];exact K);obtain⟨b3,q3,bn,b4,q4,e',i3,l3,ld3,a0,i4,l4,a1,a2,a3,_⟩:=aCB (aG.same (E:=lN) iJ ‹aG 1 lN S I l› sY) (eu _) ht an (a:=aAe act s a) (by rw[P];exact ao);obtain⟨b5,q5,i5,l5,a5⟩:=aCq (hf.same sY) (eu _) (i:=s) (by rw[vC.len hO];exact u) f1;obtain⟨b6,q6,bp,b7,q7,i6,l6,a8,ba,i7,l7,bb⟩:=aOn (aG.same (E:=nK) fM ‹aG 1 nK S av act› sY) (eu _) hA u K;have bd:=cH (p:=0) y3 rfl;have be:S.nx<Y'.nx:=by omega
   have bj:S2.nx<Y'.nx:=by omega
   refine aO (aD (iD (fun _=>False) ?_));intro Z1 z1;simp only[↓sU,sD,rE,↓reduceIte,rA,aB,aP,aA,bd,aFR y1,aAl y1,be,bj,An,aJ,aG.self ‹aG 1 lN S I l›,bN.self hf,aG.self ‹aG 1 nK S av act›,i1,l1,aw,aI,i2,l2,aV,aZ,i3,l3,ld3,a0,i4,l4,a1,a2,i5,l5,a5,i6,l6,a8,ba,i7,l7,bb];refine dR rfl ?_;refine ae ?_;refine aW (aIN H (qD hE z1) (qD a3 z1) hT) ?_;rintro _ Z ⟨sZ,t,rfl,T⟩;refine⟨sZ,?_⟩;refine de @fY ?_;have q:=z1.trans sZ;have bq:=q.1;cases t
   .refine aS (iu @Dl) ?_;have z4:=(q.2 _ au).trans y4;refine cA (fl @bL ?_);refine cQ (b:=O.nx) (cs':=[.bool false]) (aq) (by simp only[↓aF,aE,rE,↓reduceIte,rA];rfl) z4 rfl rfl ?_;intro W C w2 w3;refine am ?_
    refine aT ?_;simp only at C w2 w3;have nW:=C.1;simp only at nW;refine⟨(C.2 _ (by simp only;omega) au).trans ((q.2 _ au).trans z),au,.inr ⟨rfl,au,fun c f B=>(C.2 _ (by simp only;omega) B).trans ((q.2 _ au).trans (N c f)),w3,fun hS=>?_⟩⟩;have:=T.2 (hS s a u K);cases this
   .refine aQ (iu @Cm) (aK ?_);refine de @bL ?_;refine⟨(q.2 _ au).trans z,au,.inl ⟨by simp only;omega,fun c f=>(q.2 _ au).trans (N c f),fun i b hi v=>?_⟩⟩;rcases zS v with v|v
    .exact A i b hi v
    .cases v;exact T.1 rfl
  .refine ae ?_;exact⟨j,v0,.inl h⟩
  .refine ae ?_;exact⟨j,v0,.inr h⟩
 rintro o ⟨F,inr⟩ Y ⟨U,q0,j,v0,⟨rfl,h1,y,A⟩|⟨rfl,h1,y,A,h4⟩⟩;rotate_left
 .simp only at U;have lV:=v0.1;have D:=cH (p:=0) A rfl;refine ft @dE U D ?_;exact⟨⟨ax d.1,fun c f=>(y c (ax d.1) au).trans ((d.trans v0).2 c f)⟩,_,rfl,nofun,fun h=>absurd h h4⟩
 simp only at U q0;subst q0;have lV:=v0.1;refine am ?_
 refine cA (am ?_);refine cQ (b:=O.nx) (cs':=[.bool true]) (ar U) (by simp only[↓aF,aE,rE,↓reduceIte,rA];rfl) ((y _ au).trans ((v0.2 _ au).trans g4)) rfl rfl ?_;intro W C w2 w3;refine am ?_
 refine aT ?_;have D:=cH (p:=0) w3 rfl;refine ft @dE U D ?_;have nW:=C.1;refine⟨⟨ax d.1,fun c f=>(C.2 c (ax d.1) au).trans ((y c (ax d.1)).trans ((d.trans v0).2 c f))⟩,_,rfl,fun _ i a hi K=>?_,fun _=>rfl⟩;refine A i a hi ?_;unfold vU;simp only;omega
end
def aTR{t:Nat}{k p f:AV}{o:Bool}{sz:Nat}(h:S.h.get t=some (.cells [k,p,f] o sz)):eU (.sl t 0 1 1 false) S.h 3 1=some [k,p,f]:=by
 show bG (cI S.h t) (fun cs=>cut cs 0 (1 * 3))=_;unfold cI;rw[h];rfl
def aL5{W:Nat->Prop}{D:Ev.T AB}{base k o p:Nat}{Q:Fr->St->List iR->Prop}{m:List AO}{l:List eR}{e:cd}(I:kE last p=true)(q:Nat.testBit p k=true)(J:aC c F= .agg e)(K:aC o F=rv)(s:o≠d1)(M:mL 3 (qR U P) S0 U rv l)(E:qR U P e x)(t:∀c,P c->c≠base+k/\aM rv≠some c)(N:∀c,aM rv=some c->W c)(hb:base+k<U.nx)(u:∀c,aM rv=some c->c<base)(hS:S0.nx<=base)(hl:l.length<=100000)
  (O:∀d V,mL 3 (qR V fun c=>P c/\aM d≠some c) S0 V d (l++ [x])->U.nx<=V.nx->(∀c,c<U.nx->c≠base+k->aM rv≠some c->V.h.get c=U.h.get c)->(∀c,aM d=some c->aM rv=some c\/U.nx<=c)->gF fns W D base m (k+2) (cU (some d2) (cU (some d1) F (.sl (base+k) 0 1 1 false)) d) V [] (some (k+1)) Q):
  gF fns W D base (⟨some d1,.a (.dd ty 3 1 [.bool false,.ct,.ct] [(0,.t c)]),none,m1⟩::⟨some d2,.x (.app ty 3 56 (.t o) (.t d1)),none,p⟩::m) k F U [] last Q:=by
 obtain⟨nv,v,rfl,i1,i2,i3⟩:=id E;rw[aJ1,aJh (x:=.t c) (a:=.bool x.neg) (b:=nv) (c:=v) J,lT];obtain⟨j,i⟩:∃j:St,j=⟨U.h.set (base+k) (jf [.bool x.neg,nv,v]),U.nx⟩:=⟨_,rfl⟩;have R:j.h.get (base+k)=jf [.bool x.neg,nv,v]:=by rw[i];simp only;rw[ef,if_pos rfl]
 have n1:j.nx=U.nx:=by rw[i]
 have w:∀c,c≠base+k->j.h.get c=U.h.get c:=fun c f=>by rw[i];simp only;rw[ef,if_neg f]
 have mv:∀e a,qR U P e a->qR j P e a:=fun _ _ h=>h.move au fun c _ f=>⟨w c (t c f).1,f⟩;have y:mL 3 (qR j P) S0 j rv l:=M.move au (fun c f=>w c (by have:=u c f;omega)) mv;have⟨d,V,S,T,G,z,H⟩:=mL.push (bytes:=56) (x:=.sl (base+k) 0 1 1 false) y az au rfl (aTR R) rfl (mv _ _ E) ay ay;refine oS (r:=d) (S1:=V) I ?_ ?_ ?_
 .rw[cL q];simp only[<-i,fE,bH,if_neg s,El,K];exact S
 .rw[cL q,<-i];exact⟨G,fun c f A=>z c au fun h=>A (N c h)⟩
 rw[cL q];refine O d V (T.move (Af _) (fun _ _=>rfl) fun e a h=>h.move G fun c f B=>⟨z c f (t c B).2,B,fun C=>?_⟩) au (fun c f Y Z=>(z c au Z).trans (w c Y)) fun c f=>?_
 .rcases H c C with h|h
  .exact(t c B).2 h
  .omega
 .rcases H c f with h|h
  .exact .inl h
  .exact .inr au
def MxR(lp ob:Nat)(S0 Z:St)(cs:cd)(rv:AV)(i:Nat)(l:List eR)(p v:Nat)(F:Fr)(V:St)(ps:List iR):Prop:=ps= []/\aC p F= .ptr ob i/\Z.nx<=V.nx/\(∀c,c<Z.nx->aM rv≠some c->V.h.get c=Z.h.get c)/\mL 3 (qR V fun c=>¬MxW lp ob cs c/\aM (aC v F)≠some c) S0 V (aC v F) l/\∀c,aM (aC v F)=some c->aM rv=some c\/Z.nx<=c
def aNz{K p v m:Nat}{inr:Bool}{l:List eR}{b:List AO}(r:Mx lp S0 Z ob n cs R)(hi:cs[i]? =some rv)(C:b=b.dropLast++ [⟨none,.x (.st 1 (.t p) (.t v)),none,m⟩])(D:b.dropLast.length=K)(E:(b.dropLast.all fun o=>decide (o.mask<2 ^ K))=true)(s:∀i,i<K->Nat.testBit m i=true)
  (h:∀X1,Same Z X1->X1.h=Z.h->X1.nx=Z.nx+b.length->gF fns (fun c=>aM rv=some c) Z.h Z.nx b.dropLast 0 F X1 [] none (MxR lp ob S0 Z cs rv i l p v))
  (G:∀F' V cs',Z.nx<=V.nx->(∀c,c<Z.nx->c≠ob->aM rv≠some c->V.h.get c=Z.h.get c)->Mx lp S0 V ob n cs' (fun j=>if j=i then l else R j)->Q .normal ⟨F',inr⟩ V):jP fns (.drw b) ⟨F,inr⟩ Z Q:=by
 have t:=(Ai.1 hi).1;refine oO (W:=fun c=>aM rv=some c) C D E h ?_;rintro F' V ps H ls ⟨rfl,I,y,u,z,A⟩ f w;have x:V.h.get ob=jf cs:=(u _ r.lt (r.no rv (Ar hi))).trans r.ho;refine iQ (v:=.undef) (S1:=⟨V.h.set ob (jf (cs.set i (aC v F'))),V.nx⟩) (f _ s) (fun call=>?_) ?_
 .rw[dL];simp only[fE,I,bL,z.cells,aH];exact xO (cs:=cs) (p:=i) (S:=V) x t
 rw[iC];have J:∀c,c<V.nx->¬MxW lp ob cs c->(V.h.set ob (jf (cs.set i (aC v F')))).get c=V.h.get c:=fun c _ d=>by rw[ef,if_neg fun e=>d (.inr (.inl e))]
 refine⟨?_,?_⟩
 .simp only[Ce];exact w _ _ _ s
 .simp only[bL,fC];refine G _ _ _ y (fun c d k q=>?_) (r.push hi y jd ?_ A fun c d k q=>?_)
  .simp only;rw[ef,if_neg k];exact u c d q
  .refine z.move (Af _) (fun c d=>?_) fun e a M=>M.move (Af _) fun c d B=>⟨J c d B.1,B⟩;simp only;rw[ef,if_neg fun e=>?_];rcases A c d with h|h
   .exact r.no rv (Ar hi) (by rw[h,e])
   .have:=r.lt;omega
  .simp only;rw[ef,if_neg k];exact u c d q
def aKH{k d3 r m p s z N:Nat}{e:cd}(j:Mx lp S0 Z ob n cs R)(hi:cs[i]? =some rv)(d:Same Z U)(A:qR U (fun c=>N<=c) e x)(hN:Z.nx+k<N)(B:N<=U.nx)(C:aC c F= .agg e)(D:aC r F=rv)(E:aC m F= .sl ob 0 n n false)(G:aC p F=je (i:Int))(H:r≠d1/\m≠d1/\m≠d2/\p≠d1/\p≠d2/\d2≠d3)(I:kE last s=true)(J:Nat.testBit s k=true)(K:(R i).length<=100000):
  gF fns (fun c=>aM rv=some c) Z.h Z.nx [⟨some d1,.a (.dd ty 3 1 [.bool false,.ct,.ct] [(0,.t c)]),none,m1⟩,⟨some d2,.x (.app ty 3 56 (.t r) (.t d1)),none,s⟩,⟨some d3,.q (.df (.slice 1) (.t m) (.t p)),none,z⟩] k F U [] last (MxR lp ob S0 Z cs rv i (R i++ [x]) d3 d2):=by
 have⟨M,O,Q,S,T,y⟩:=H;have t:=Ar hi;have u:i<n:=by rw[<-j.hl];exact(Ai.1 hi).1
 have v:=j.le;refine aL5 (S0:=S0) (P:=fun c=>¬MxW lp ob cs c/\c≠Z.nx+k) (l:=R i) (x:=x) I J C D M ((j.gr i rv hi).move d.1 (fun c a=>d.2 c (j.blk t a).2) fun _ _ h=>h.move d.1 fun c a f=>⟨d.2 c a,f,au⟩) (A.move (Af _) fun c _ f=>⟨rfl,j.high au,au⟩) (fun c f=>⟨f.2,fun h=>f.1 (.inr (.inr ⟨rv,t,h⟩))⟩) (fun c h=>h) au (fun c a=>(j.blk t a).2) v K fun q V W nV Y bV=>?_;have w:=fQ (b:=ob) (o:=false) u;have q1:aC m (cU (some d2) (cU (some d1) F (.sl (Z.nx+k) 0 1 1 false)) q)= .sl ob 0 n n false:=by rw[bH,if_neg Q,bH,if_neg O,E]
 have q2:aC p (cU (some d2) (cU (some d1) F (.sl (Z.nx+k) 0 1 1 false)) q)=je (i:Int):=by rw[bH,if_neg T,bH,if_neg S,G]
 refine fe q1 q2 @aJ w ?_;refine⟨rfl,by rw[bH,if_pos rfl],ax d.1,fun c a hr=>(Y c (ax d.1) au hr).trans (d.2 c a),?_,?_⟩
 .rw[bH,if_neg y,bH,if_pos rfl];exact W.move (Af _) (fun _ _=>rfl) fun _ _ h=>h.move (Af _) fun c _ f=>⟨rfl,f.1.1,f.2⟩
 .rw[bH,if_neg y,bH,if_pos rfl];intro c a;rcases bV c a with h|h
  .exact .inl h
  .exact .inr (ax d.1)
def aLX:RowK key M 0 0 j= []:=by
 unfold RowK;rw[if_neg (Ca _)];split
 .rfl
 .rfl
def aMR{f:cT}{p q:Nat}{P T:AC}{A:bO}(H:Has fns)(G:eO g)(hi:A.inr=false)(Z:f.val A.F= .fn 59 [] [.ptr b 0])(hv:aG 2 cE S iv g.ch)(C:Same S X)(aa:S.nx<=ob)(hb:X.h.get b=jf [iv])(D:b<X.nx)(E:X.h.get ob=jf (List.replicate n .ct))(F:ob<X.nx)(hT:∀j s,j<n->key j=s->s<g.ch.length->(M j).length<=fJ g s)
  (u:∀s a Y cs,s<g.ch.length->a<fJ g s->Mx X.nx ⟨X.h,X.nx+1⟩ Y ob n cs (RowK key M s a)->(∀c,c<X.nx->c≠ob->Y.h.get c=X.h.get c)->jP fns P ⟨cU (some q) (cU (some p) A.F (je (s:Int))) (je (a:Int)),true⟩ Y fun o U v=>o= .normal/\v=Y/\∀Y',Mx X.nx ⟨X.h,X.nx+1⟩ Y' ob n cs (RowK key M s a)->(∀c,c<X.nx->c≠ob->Y'.h.get c=X.h.get c)->jP fns T U Y' fun o _ V=>o= .normal/\Y'.nx<=V.nx/\(∀c,c<=X.nx->c≠ob->V.h.get c=Y'.h.get c)/\∃cs',Mx X.nx ⟨X.h,X.nx+1⟩ V ob n cs' (RowK key M s (a+1)))
  (w:∀Y cs,Same S Y->Mx X.nx ⟨X.h,X.nx+1⟩ Y ob n cs (RowK key M g.ch.length 0)->(∀c,c<X.nx->c≠ob->Y.h.get c=X.h.get c)->Q .normal A Y):jP fns (.rng f [p,q] P T) A X Q:=by
 have ab:=G.ni;have an:=C.1;refine tE (S:=S) (R:=fun _=>False) (J:=fun s a Y=>X.nx<Y.nx/\(∀c,c<X.nx->c≠ob->Y.h.get c=X.h.get c)/\∃cs,Mx X.nx ⟨X.h,X.nx+1⟩ Y ob n cs (RowK key M s a)) H hi Z hv au (fun s x=>aMy G x) hb D (fun s a Y h=>⟨⟨au,fun c i=>(h.2.1 c au au).trans (C.2 c i)⟩,h.1⟩) (fun s a Y Y' h z y=>?_) (fun _ _ h=>h.elim) (fun Y z y=>?_) (fun s Y x h=>?_) (fun s a Y x I h=>?_) (fun Y h=>?_) (fun _ h=>h.elim)
 .have⟨B,r,cs,t⟩:=h;exact⟨au,fun c i l=>(y c au au).trans (r c i l),cs,t.move z y⟩
 .refine⟨z,fun c i _=>y c i,_,(y ob F).trans E,au,Aq,by simp only;omega,z,au,fun j a m=>?_,fun a I=>?_,fun j k a c _ m _ d hd=>?_⟩
  .rw[Ch] at m;split at m
   .cases m;rw[aLX];exact .none
   .cases m
  .rw[(List.mem_replicate.1 I).2];intro h;cases h
  .rw[Ch] at m;split at m
   .cases m;cases hd
   .cases m
 .have⟨B,r,cs,t⟩:=h;exact⟨B,r,cs,t.ext fun j m=>aLu fun e=>hT j s m e x⟩
 .have⟨B,r,cs,t⟩:=h;refine bB (u s a Y cs x I t r) ?_;rintro o U v ⟨rfl,rfl,K⟩;refine⟨rfl,rfl,fun bl=>?_⟩;have N:∀c,c≠X.nx->(v.h.set X.nx bl).get c=v.h.get c:=fun c i=>by rw[ef,if_neg i]
  refine bB (K ⟨v.h.set X.nx bl,v.nx⟩ (t.move (Af _) fun c _ i=>N c i) fun c i l=>(N c au).trans (r c i l)) ?_;rintro o A2 V ⟨rfl,W,O,cs',hV⟩;simp only at W O;refine⟨(O _ (Af _) au).trans (by rw[ef,if_pos rfl]),W,.inl ⟨rfl,au,fun c i l=>(O c au l).trans ((N c au).trans (r c i l)),cs',hV⟩⟩
 .have⟨B,r,cs,t⟩:=h;exact w Y cs ⟨au,fun c i=>(r c au au).trans (C.2 c i)⟩ t r
end Go.Ev.Gl
