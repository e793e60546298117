import Derived.Test.YtiiplmagnlcpbaaGreatDoorEv1
import Derived.Deep.MidRow
import Derived.Deep.AppendSrc
import Derived.Below
import Derived.Calls
import Derived.Laws.Entries
import Derived.Laws.Strings
import Derived.Lib.Split
set_option linter.unusedSimpArgs false
set_option linter.unusedVariables false
namespace Go.Ev
theorem aN{α:Sort _}(a b:α):bO true a b=a:=rfl
theorem aR{α:Sort _}(a b:α):bO false a b=b:=rfl
theorem bQ{α:Sort _}(c:Bool)(a b:α):bO c a b=if c=true then a else b:=by cases c<;>simp [bO]
theorem uL{α β:Type}(f:α->Option β):aU none f=none:=rfl
theorem aH{α β:Type}(a:α)(f:α->Option β):aU (some a) f=f a:=rfl
theorem aA{α β:Type}{x:Option α}{f:α->Option β}{b:β}(h:aU x f=some b):∃a,x=some a/\f a=some b:=by
 cases x with
 | none=>simp [uL] at h
 | some a=>exact⟨a,rfl,h⟩
theorem bJ{α:Type}{c:Bool}{a:Option α}{r:α}(h:bO c a none=some r):c=true/\a=some r:=by
 cases c
 ·simp [aR] at h
 ·exact⟨rfl,h⟩
namespace T
variable {α:Type}
theorem get_e(k:Nat):(T.e:T α).get k=none:=rfl
theorem aBp(l r:T α)(v:Option α)(k:Nat):(T.n l v r).get k=if k=0 then v else if k % 2=1 then l.get (k / 2) else r.get (k / 2 - 1):=by
 show bO (Nat.beq k 0) v (bO (Nat.beq (Nat.mod k 2) 1) (l.get (Nat.div k 2)) (r.get (Nat.sub (Nat.div k 2) 1)))=_;rw[bQ,bQ];simp only[Az];rfl
theorem aSV(k:Nat)(x:Option α):(T.e:T α).set k x=single (k+1) k x:=rfl
theorem aS7(l r:T α)(v:Option α)(k:Nat)(x:Option α):
  (T.n l v r).set k x=if k=0 then .n l x r else if k % 2=1 then .n (l.set (k / 2) x) v r else .n l v (r.set (k / 2 - 1) x):=by
 show bO (Nat.beq k 0) (T.n l x r) (bO (Nat.beq (Nat.mod k 2) 1) (T.n (l.set (Nat.div k 2) x) v r) (T.n l v (r.set (Nat.sub (Nat.div k 2) 1) x)))=_;rw[bQ,bQ];simp only[Az];rfl
theorem aH7(f k:Nat)(x:Option α):single (f+1) k x=if k=0 then .n .e x .e else if k % 2=1 then .n (single f (k / 2) x) none .e else .n .e none (single f (k / 2 - 1) x):=by
 show bO (Nat.beq k 0) (T.n .e x .e) (bO (Nat.beq (Nat.mod k 2) 1) (T.n (single f (Nat.div k 2) x) none .e) (T.n .e none (single f (Nat.sub (Nat.div k 2) 1) x)))=_;rw[bQ,bQ];simp only[Az];rfl
theorem aAx(x:Option α):∀ (f k j:Nat),k<f->(single f k x).get j=if j=k then x else none
 | 0,k,j,h=>by omega
 | f+1,k,j,h=>by
  rw[aH7];by_cases k0:k=0
  ·subst k0;simp only[Cq];rw[aBp];by_cases j0:j=0<;>simp [j0,get_e]
  ·rw[if_neg k0];by_cases k1:k % 2=1
   ·rw[if_pos k1,aBp];by_cases j0:j=0
    ·subst j0;rw[if_pos rfl,if_neg au]
    ·rw[if_neg j0];by_cases j1:j % 2=1
     ·rw[if_pos j1,aAx x f (k / 2) (j / 2) au];by_cases e:j=k
      ·subst e;simp
      ·rw[if_neg e,if_neg au]
     ·rw[if_neg j1,get_e,if_neg au]
   ·rw[if_neg k1,aBp];by_cases j0:j=0
    ·subst j0;rw[if_pos rfl,if_neg au]
    ·rw[if_neg j0];by_cases j1:j % 2=1
     ·rw[if_pos j1,get_e,if_neg au]
     ·rw[if_neg j1,aAx x f (k / 2 - 1) (j / 2 - 1) au];by_cases e:j=k
      ·subst e;simp
      ·rw[if_neg e,if_neg au]
theorem get_set(x:Option α):∀ (t:T α) (k j:Nat),(t.set k x).get j=if j=k then x else t.get j
 | .e,k,j=>by
  rw[aSV,aAx x (k+1) k j au,get_e]
 | .n l v r,k,j=>by
  rw[aS7];by_cases k0:k=0
  ·subst k0;simp only[Cq];rw[aBp,aBp];by_cases j0:j=0<;>simp [j0]
  ·rw[if_neg k0];by_cases k1:k % 2=1
   ·rw[if_pos k1,aBp,aBp];by_cases j0:j=0
    ·subst j0;simp only[Cq];rw[if_neg au]
    ·rw[if_neg j0,if_neg j0];by_cases j1:j % 2=1
     ·rw[if_pos j1,if_pos j1,get_set x l (k / 2) (j / 2)];by_cases e:j=k
      ·subst e;simp
      ·rw[if_neg e,if_neg au]
     ·rw[if_neg j1,if_neg j1,if_neg au]
   ·rw[if_neg k1,aBp,aBp];by_cases j0:j=0
    ·subst j0;simp only[Cq];rw[if_neg au]
    ·rw[if_neg j0,if_neg j0];by_cases j1:j % 2=1
     ·rw[if_pos j1,if_pos j1,if_neg au]
     ·rw[if_neg j1,if_neg j1,get_set x r (k / 2 - 1) (j / 2 - 1)];by_cases e:j=k
      ·subst e;simp
      ·rw[if_neg e,if_neg au]
end T
section
variable {α:Type}
theorem jY:∀ (l:List α) (k:Nat),nth l k=l[k]?
 | [],k=>by simp [nth]
 | x::xs,k=>by
  show bO (Nat.beq k 0) (some x) (nth xs (Nat.sub k 1))=_;rw[bQ];simp only[Az];cases k with
  | zero=>simp
  | succ k=>rw[if_neg au];show nth xs (k+1 - 1)=_;rw[Er,jY xs k];simp
theorem eR:∀ (l:List α),kL l=l.length
 | []=>rfl
 | _::xs=>by show Nat.succ (kL xs)=_;rw[eR xs];rfl
theorem fE:∀ (l m:List α),yE l m=l++m
 | [],m=>rfl
 | x::xs,m=>by show x::yE xs m=_;rw[fE xs m];rfl
theorem jM:∀ (l:List α) (k:Nat),aIr l k=l.drop k
 | [],k=>by simp [aIr]
 | x::xs,k=>by
  show bO (Nat.beq k 0) (x::xs) (aIr xs (Nat.sub k 1))=_;rw[bQ];simp only[Az];cases k with
  | zero=>simp
  | succ k=>rw[if_neg au];show aIr xs (k+1 - 1)=_;rw[Er,jM xs k];simp
theorem jC:∀ (l:List α) (n:Nat),aIl l n=if n<=l.length then some (l.take n) else none
 | [],n=>by
  show bO (Nat.beq n 0) (some []) none=_;rw[bQ];simp only[Az];by_cases h:n=0<;>simp [h]
 | x::xs,n=>by
  show bO (Nat.beq n 0) (some []) (aU (aIl xs (Nat.sub n 1)) fun r=>some (x::r))=_;rw[bQ];simp only[Az];cases n with
  | zero=>simp
  | succ n=>
   rw[if_neg au];show aU (aIl xs (n+1 - 1)) _=_;rw[Er,jC xs n];by_cases h:n<=xs.length
   ·rw[if_pos h,aH];simp [h]
   ·rw[if_neg h,uL];simp [h]
theorem aHq{l r:List α}{i n:Nat}(h:cut l i n=some r):r=(l.drop i).take n/\r.length=n:=by
 unfold cut at h;rw[jM,jC] at h;split at h
 ·rename_i hle;cases h;exact⟨rfl,by rw[Bq];omega⟩
 ·cases h
theorem aEv:∀ (vs l:List α),aEe vs l=if vs.length<=l.length then some (vs++l.drop vs.length) else none
 | [],l=>by simp [aEe]
 | v::vs,[]=>by
  show none=_;simp
 | v::vs,x::xs=>by
  show aU (aEe vs xs) (fun r=>some (v::r))=_;rw[aEv vs xs];by_cases h:vs.length<=xs.length
  ·rw[if_pos h,aH];simp [h]
  ·rw[if_neg h,uL];simp [h]
theorem put_eq:∀ (l:List α) (k:Nat) (vs:List α),put l k vs=if k+vs.length<=l.length then some (l.take k++vs++l.drop (k+vs.length)) else none
 | [],k,vs=>by
  show bO (Nat.beq k 0) (aEe vs []) none=_;rw[bQ,aEv];simp only[Az];cases k with
  | zero=>simp
  | succ k=>simp
 | x::xs,k,vs=>by
  show bO (Nat.beq k 0) (aEe vs (x::xs)) (aU (put xs (Nat.sub k 1) vs) fun r=>some (x::r))=_;rw[bQ,aEv];simp only[Az];cases k with
  | zero=>simp
  | succ k=>
   rw[if_neg au];show aU (put xs (k+1 - 1) vs) _=_;rw[Er,put_eq xs k vs];by_cases h:k+vs.length<=xs.length
   ·rw[if_pos h,aH,if_pos (by simp;omega)];simp [Nat.succ_add]
   ·rw[if_neg h,uL,if_neg (by simp;omega)]
theorem aA6{l r vs:List α}{k:Nat}(h:put l k vs=some r):k+vs.length<=l.length/\r=l.take k++vs++l.drop (k+vs.length):=by
 rw[put_eq] at h;split at h
 ·cases h;exact⟨‹_›,rfl⟩
 ·cases h
theorem aPW{l r vs:List α}{k:Nat}(h:put l k vs=some r)(j:Nat):r[j]? =if j<k then l[j]? else if j<k+vs.length then vs[j - k]? else l[j]? :=by
 obtain⟨hle,rfl⟩:=aA6 h;by_cases h1:j<k
 ·rw[if_pos h1,Be,Ap (by simp;omega),Ft h1]
 ·rw[if_neg h1];by_cases h2:j<k+vs.length
  ·rw[if_pos h2,Be,Aq (by simp;omega),Bq,Dm au,Ap au]
  ·rw[if_neg h2,Aq (by simp;omega)];simp only[Aj,Bq,Fi];congr 1;omega
theorem kH(z:List α)(n:Nat):repeatL z (n+1)=z++repeatL z n:=fE z (repeatL z n)
theorem wE(z:List α):repeatL z 0= []:=rfl
theorem repeatL_length(z:List α):∀n,(repeatL z n).length=n * z.length
 | 0=>by simp [wE]
 | n+1=>by rw[kH,Aj,repeatL_length z n,Gg];omega
end
end Go.Ev
namespace Go.Ev
structure Loc where
 r:Nat
 d:Nat
 e:Nat
abbrev Env:=Nat->Option Loc
def dM(s:bt):ByteArray:=⟨(s.map UInt8.ofNat).toArray⟩
def Bytes(s:bt):Prop:=∀x∈s,x<256
variable (P:Program)
mutual
def Rv(σ:Env):AV->Value->Prop
 | .bool b,V=>V= .bool b
 | .int k n,V=>V= .int k n
 | .str s,V=>V= .string (dM s)/\Bytes s
 | .ptr b off,V=>∃L,σ b=some L/\V= .pointer (some ⟨L.r,L.d+off,none⟩)
 | .nilp,V=>V= .pointer none
 | .sl b off len cap o,V=>∃L,σ b=some L/\V= .slice (some ⟨L.r,L.d+off,none⟩) len (if o=true then cap+L.e else cap)
 | .ce,V=>V= .slice none 0 0
 | .emp,V=>∃a c,V= .slice (some a) 0 c
 | .map b,V=>∃L,σ b=some L/\V= .map (some L.r)
 | .nilmap,V=>V= .map none
 | .fn f a b,V=>∃A B,V= .func (.func f) ⟨A⟩ ⟨B⟩/\iD σ a A/\iD σ b B
 | .nilfn,V=>V= .nilFunc
 | .yld b,V=>∃L,σ b=some L/\V= .func (.yield L.r) #[] #[]
 | .iface t v,V=>∃W,V= .iface t W/\Rv σ v W
 | .niliface,V=>V= .nilIface
 | .mth n tbl v,V=>∃W,V= .func (.method n) #[W] #[]/\tbl=gO P n P.types.toList 0/\Rv σ v W
 | .agg cs,V=>∃C,V= .agg ⟨C⟩/\iD σ cs C/\∀v∈C,v.oneCell'=true
 | .tup cs,V=>∃C,V= .tuple ⟨C⟩/\iD σ cs C
def iD(σ:Env):bo->List Value->Prop
 | [],Vs=>Vs= []
 | a::as,Vs=>∃V Ws,Vs=V::Ws/\Rv σ a V/\iD σ as Ws
end
section
variable {P}
variable {σ:Env}
theorem cT{Vs:List Value}:iD P σ [] Vs↔Vs= []:=by simp [iD]
theorem cS{a:AV}{as:bo}{Vs:List Value}:iD P σ (a::as) Vs↔∃V Ws,Vs=V::Ws/\Rv P σ a V/\iD P σ as Ws:=by simp [iD]
theorem iD.length:∀ {as:bo} {Vs:List Value},iD P σ as Vs->Vs.length=as.length
 | [],Vs,h=>by rw[cT] at h;subst h;rfl
 | a::as,Vs,h=>by
  rw[cS] at h;obtain⟨V,Ws,rfl,_,h⟩:=h;simp [iD.length h]
theorem iD.get:∀ {as:bo} {Vs:List Value},iD P σ as Vs->∀ {j:Nat} {a:AV},as[j]? =some a->∃V,Vs[j]? =some V/\Rv P σ a V
 | [],Vs,h,j,a,ha=>by simp at ha
 | x::as,Vs,h,j,a,ha=>by
  rw[cS] at h;obtain⟨V,Ws,rfl,hv,h⟩:=h;cases j with
  | zero=>simp at ha;subst ha;exact⟨V,by simp,hv⟩
  | succ j=>
   simp at ha;have⟨W,hW,hr⟩:=iD.get h ha;exact⟨W,by simpa using hW,hr⟩
theorem iD.append:∀ {as bs:bo} {Vs Ws:List Value},iD P σ as Vs->iD P σ bs Ws->iD P σ (as++bs) (Vs++Ws)
 | [],bs,Vs,Ws,h,h'=>by rw[cT] at h;subst h;simpa using h'
 | a::as,bs,Vs,Ws,h,h'=>by
  rw[cS] at h;obtain⟨V,Us,rfl,hv,h⟩:=h;exact cS.2 ⟨V,Us++Ws,rfl,hv,iD.append h h'⟩
theorem iD.take:∀ {as:bo} {Vs:List Value} (n:Nat),iD P σ as Vs->iD P σ (as.take n) (Vs.take n)
 | [],Vs,n,h=>by rw[cT] at h;subst h;simp [cT]
 | a::as,Vs,n,h=>by
  rw[cS] at h;obtain⟨V,Us,rfl,hv,h⟩:=h;cases n with
  | zero=>simp [cT]
  | succ n=>exact cS.2 ⟨V,Us.take n,rfl,hv,iD.take n h⟩
theorem iD.drop:∀ {as:bo} {Vs:List Value} (n:Nat),iD P σ as Vs->iD P σ (as.drop n) (Vs.drop n)
 | [],Vs,n,h=>by rw[cT] at h;subst h;simp [cT]
 | a::as,Vs,n,h=>by
  cases n with
  | zero=>simpa using h
  | succ n=>
   rw[cS] at h;obtain⟨V,Us,rfl,hv,h⟩:=h;simpa using iD.drop n h
theorem iD.cut{as r:bo}{Vs:List Value}{i n:Nat}(h:iD P σ as Vs)(hc:cut as i n=some r):
  iD P σ r ((Vs.drop i).take n)/\((Vs.drop i).take n).length=n:=by
 obtain⟨rfl,hl⟩:=aHq hc;have:=(h.drop i).take n;exact⟨this,by rw[this.length,hl]⟩
theorem iD.put{as r vs:bo}{Vs Ws:List Value}{k:Nat}(h:iD P σ as Vs)(hv:iD P σ vs Ws)(hp:put as k vs=some r):
  iD P σ r (Vs.take k++Ws++Vs.drop (k+Ws.length)):=by
 obtain⟨_,rfl⟩:=aA6 hp;rw[hv.length];exact((h.take k).append hv).append (h.drop _)
theorem aA3{σ σ':Env}(hs:∀b L,σ b=some L->σ' b=some L):(∀v V,Rv P σ v V->Rv P σ' v V)/\(∀vs Vs,iD P σ vs Vs->iD P σ' vs Vs):=by
 have key:∀n:Nat,(∀v V,SizeOf.sizeOf v<n->Rv P σ v V->Rv P σ' v V)/\(∀vs Vs,SizeOf.sizeOf vs<n->iD P σ vs Vs->iD P σ' vs Vs):=by
  intro n
  induction n with
  | zero=>exact⟨fun v V h=>absurd h (Dc _),fun v V h=>absurd h (Dc _)⟩
  | succ n ih=>
   refine⟨fun v V hn h=>?_,fun vs Vs hn h=>?_⟩
   ·cases v<;>simp only[Rv] at h ⊢ <;>(try exact h)
    ·have⟨L,h1,h2⟩:=h;exact⟨L,hs _ _ h1,h2⟩
    ·have⟨L,h1,h2⟩:=h;exact⟨L,hs _ _ h1,h2⟩
    ·have⟨L,h1,h2⟩:=h;exact⟨L,hs _ _ h1,h2⟩
    ·have⟨A,B,h1,h2,h3⟩:=h;exact⟨A,B,h1,ih.2 _ _ (by simp at hn;omega) h2,ih.2 _ _ (by simp at hn;omega) h3⟩
    ·have⟨L,h1,h2⟩:=h;exact⟨L,hs _ _ h1,h2⟩
    ·have⟨W,h1,h2⟩:=h;exact⟨W,h1,ih.1 _ _ (by simp at hn;omega) h2⟩
    ·have⟨W,h1,h2,h3⟩:=h;exact⟨W,h1,h2,ih.1 _ _ (by simp at hn;omega) h3⟩
    ·have⟨C,h1,h2,h3⟩:=h;exact⟨C,h1,ih.2 _ _ (by simp at hn;omega) h2,h3⟩
    ·have⟨C,h1,h2⟩:=h;exact⟨C,h1,ih.2 _ _ (by simp at hn;omega) h2⟩
   ·cases vs with
    | nil=>simpa [iD] using h
    | cons a as=>
     rw[cS] at h ⊢;have⟨V,Ws,h1,h2,h3⟩:=h;exact⟨V,Ws,h1,ih.1 _ _ (by simp at hn;omega) h2,ih.2 _ _ (by simp at hn;omega) h3⟩
 exact⟨fun v V h=>(key (SizeOf.sizeOf v+1)).1 v V au h,fun vs Vs h=>(key (SizeOf.sizeOf vs+1)).2 vs Vs au h⟩
theorem Rv.mono{σ σ':Env}(hs:∀b L,σ b=some L->σ' b=some L){v:AV}{V:Value}(h:Rv P σ v V):Rv P σ' v V:=(aA3 hs).1 v V h
theorem iD.mono{σ σ':Env}(hs:∀b L,σ b=some L->σ' b=some L){v:bo}{V:List Value}(h:iD P σ v V):iD P σ' v V:=(aA3 hs).2 v V h
theorem aLp(v:Value)(h:aOC v=true):v.oneCell'=true:=by cases v<;>simp_all [aOC,Value.oneCell']
theorem aCj(s:ByteArray):dM (s.data.toList.map UInt8.toNat)=s/\Bytes (s.data.toList.map UInt8.toNat):=by
 constructor
 ·have⟨⟨l⟩⟩:=s;simp [dM,Function.comp_def]
 ·intro x hx;obtain⟨b,_,rfl⟩:=He.1 hx;exact b.toNat_lt
theorem aGa(σ:Env):∀n:Nat,(∀V v,SizeOf.sizeOf V<n->ofValue V=some v->Rv P σ v V)/\(∀Vs vs,SizeOf.sizeOf Vs<n->ofValues Vs=some vs->iD P σ vs Vs):=by
 intro n
 induction n with
 | zero=>exact⟨fun V v h=>absurd h (Dc _),fun V v h=>absurd h (Dc _)⟩
 | succ n ih=>
  refine⟨fun V v hn h=>?_,fun Vs vs hn h=>?_⟩
  ·unfold ofValue at h;split at h
   ·cases h;simp [Rv]
   ·cases h;simp [Rv]
   ·cases h;simp only[Rv];exact⟨by rw[(aCj _).1],(aCj _).2⟩
   ·cases h;simp [Rv]
   ·cases h;simp [Rv]
   ·cases h;simp [Rv]
   ·cases h;simp [Rv]
   ·cases h;simp [Rv]
   ·split at h
    ·rename_i a' b' ha hb;cases h;simp only[Rv];exact⟨_,_,rfl,ih.2 _ _ (by simp at hn;omega) ha,ih.2 _ _ (by simp at hn;omega) hb⟩
    ·cases h
   ·rename_i t w;obtain⟨x,hx,rfl⟩:=Ax.1 h;simp only[Rv];exact⟨w,rfl,ih.1 _ _ (by simp at hn;omega) hx⟩
   ·rename_i cs;rw[Ba] at h;split at h
    ·rename_i hall;obtain⟨x,hx,rfl⟩:=Ax.1 h;simp only[Rv];exact⟨cs,rfl,ih.2 _ _ (by simp at hn;omega) hx,fun v hv=>aLp v (Et.1 hall v hv)⟩
    ·cases h
   ·rename_i cs;obtain⟨x,hx,rfl⟩:=Ax.1 h;simp only[Rv];exact⟨cs,rfl,ih.2 _ _ (by simp at hn;omega) hx⟩
   ·cases h
  ·cases Vs with
   | nil=>simp [ofValues] at h;subst h;simp [iD]
   | cons V Vs=>
    unfold ofValues at h;split at h
    ·rename_i a as ha has;cases h;exact cS.2 ⟨V,Vs,rfl,ih.1 _ _ (by simp at hn;omega) ha,ih.2 _ _ (by simp at hn;omega) has⟩
    ·cases h
theorem aEb{σ:Env}{V:Value}{v:AV}(h:ofValue V=some v):Rv P σ v V:=(aGa σ (SizeOf.sizeOf V+1)).1 V v au h
theorem aAQ{v:AV}{V:Value}{cs:bo}(h:Rv P σ v V)(hc:v.cells=some cs):iD P σ cs V.cells.toList/\(∀u∈V.cells.toList,u.oneCell'=true):=by
 cases v<;>simp only[AV.cells,Al,reduceCtorEq] at hc<;>subst hc<;>simp only[Rv] at h
 case agg cs=>
  obtain⟨C,rfl,h2,h3⟩:=h;exact⟨h2,h3⟩
 all_goals
  first
   | (subst h;simp [Value.cells,iD,Rv,Value.oneCell'])
   | (obtain⟨rfl,h⟩:=h;simp [Value.cells,iD,Rv,Value.oneCell',h])
   | (obtain⟨x,h,rfl⟩:=h;simp [Value.cells,iD,Rv,Value.oneCell',h])
   | (obtain⟨x,y,rfl⟩:=h;simp [Value.cells,iD,Rv,Value.oneCell'])
   | (obtain⟨x,y,rfl,h,h'⟩:=h;exact⟨cS.2 ⟨_,[],rfl,by simp only[Rv];exact⟨x,y,rfl,h,h'⟩,cT.2 rfl⟩,by simp [Value.cells,Value.oneCell']⟩)
   | (obtain⟨x,rfl,h⟩:=h;simp [Value.cells,iD,Rv,Value.oneCell',h])
   | (obtain⟨x,rfl,rfl,h⟩:=h;simp [Value.cells,iD,Rv,Value.oneCell',h])
end
end Go.Ev
namespace Go.Ev
variable (P:Program)
structure pV(σ:Env)(F:Fr)(tmps:Array Value):Prop where
 get:∀t,Rv P σ (aB t F) (tmps.getD t undef)
def aO4:LSt->LoopState
 | .ready=>.ready
 | .busy=>.busy
 | .done=>.done
 | .exhausted=>.exhausted
def codeOf:Out->Option Code
 | .ret=>some .ret
 | .exit id=>some (.exit id)
 | .normal=>none
def rW(σ:Env):List (AV×AV)->List MapEntry->Prop
 | [],es=>es= []
 | (k,v)::m,es=>∃e es',es=e::es'/\Rv P σ k e.key/\Rv P σ v e.val/\rW σ m es'
def rH(σ:Env)(w:World)(L:Loc):AB->Prop
 | .cells cs o s=>∃Cs,iD P σ cs Cs/\(∀u∈Cs,u.oneCell'=true)/\w.rangeAt L.r L.d Cs/\w.there L.r L.d (Cs.length+if o=true then L.e * s else 0)
 | .ro cs=>∃Cs,iD P σ cs Cs/\(∀u∈Cs,u.oneCell'=true)/\w.rangeAt L.r L.d Cs
 | .map es=>∃ms clock,w.heap[L.r]? =some (.map ms clock)/\rW P σ es ms.toList
 | .loop st pend fr ps as bd=>∃lp:Loop,w.heap[L.r]? =some (.loop lp)/\lp.state=aO4 st/\lp.pending=pend.bind codeOf/\pV P σ fr lp.tmps/\
   lp.params.toList=ps/\iN P lp.tmps.size lp.assign=some as/\iN P lp.tmps.size lp.body=some bd/\(∀p∈ps,p<lp.tmps.size)
 | .dfd=>w.heap[L.r]? =some (.deferred (some []))
def wJ:AB->Prop
 | .ro _=>False
 | _=>True
structure kT(σ:Env)(S:St)(w:World):Prop where
 blk:∀b bl,S.h.get b=some bl->∃L,σ b=some L/\L.r<w.heap.size/\rH P σ w L bl
 lt:∀b bl,S.h.get b=some bl->b<S.nx
 fresh:∀b,S.nx<=b->σ b=none
 glob:∀g,g<P.globals.size->σ g=some ⟨g,0,0⟩
 inj:∀b b' bl bl' L L',S.h.get b=some bl->S.h.get b'=some bl'->wJ bl->b≠b'->σ b=some L->σ b'=some L'->L.r≠L'.r
def Own(σ:Env)(S:St)(r:Nat):Prop:=∃b bl L,S.h.get b=some bl/\wJ bl/\σ b=some L/\L.r=r
structure gM(σ:Env)(S:St)(w:World)(σ':Env)(S':St)(w':World):Prop where
 rep:kT P σ' S' w'
 low:∀b,b<S.nx->σ' b=σ b
 nx:S.nx<=S'.nx
 keep:∀r,r<w.heap.size->¬Own σ S r->w'.heap[r]? =w.heap[r]?
 own:∀r,Own σ' S' r->Own σ S r\/w.heap.size<=r
 size:w.heap.size<=w'.heap.size
 os:w'.os=w.os
 tape:w'.tape=w.tape
 output:w'.output=w.output
 ro:∀b cs,S'.h.get b=some (.ro cs)->S.h.get b=some (.ro cs)
section
variable {P}{σ σ':Env}{S S':St}{w w':World}
theorem kT.below(h:kT P σ S w){b:Nat}{L:Loc}(hb:σ b=some L):b<S.nx:=by
 rcases Bj b S.nx with hl | hl
 ·exact hl
 ·rw[h.fresh b hl] at hb;cases hb
theorem gM.mono(h:gM P σ S w σ' S' w')(hr:kT P σ S w):∀b L,σ b=some L->σ' b=some L:=fun b L hb=>by
 rw[h.low b (hr.below hb)];exact hb
theorem gM.refl(h:kT P σ S w):gM P σ S w σ S w:=
 ⟨h,fun _ _=>rfl,Af _,fun _ _ _=>rfl,fun _ ho=>.inl ho,Af _,rfl,rfl,rfl,fun _ _ h=>h⟩
theorem gM.trans{σ'':Env}{S'':St}{w'':World}(h:gM P σ S w σ' S' w')(h':gM P σ' S' w' σ'' S'' w''):gM P σ S w σ'' S'' w'' where
 rep:=h'.rep
 low:=fun b hb=>(h'.low b (Ag hb h.nx)).trans (h.low b hb)
 nx:=Bb h.nx h'.nx
 keep:=fun r hr ho=>by
  have h1:=h.keep r hr ho;rw[h'.keep r (Ag hr h.size) (fun ho'=>by rcases h.own r ho' with h2 | h2;exact ho h2;omega)];exact h1
 own:=fun r ho=>by
  rcases h'.own r ho with h1 | h1
  ·exact h.own r h1
  ·exact .inr (Bb h.size h1)
 size:=Bb h.size h'.size
 os:=h'.os.trans h.os
 tape:=h'.tape.trans h.tape
 output:=h'.output.trans h.output
 ro:=fun b cs hb=>h.ro b cs (h'.ro b cs hb)
theorem cell_of_heap{r:Nat}(h:w'.heap[r]? =w.heap[r]?)(o:Nat):w'.cell? ⟨r,o,none⟩=w.cell? ⟨r,o,none⟩:=by
 simp only[World.cell?,h]
theorem frozen_of_heap{r:Nat}(h:w'.heap[r]? =w.heap[r]?)(o:Nat):w'.frozen? ⟨r,o,none⟩=w.frozen? ⟨r,o,none⟩:=by
 simp only[World.frozen?,h]
theorem pV.mono{F:Fr}{tmps:Array Value}(hs:∀b L,σ b=some L->σ' b=some L)(h:pV P σ F tmps):pV P σ' F tmps:=⟨fun t=>(h.get t).mono hs⟩
theorem rW.mono(hs:∀b L,σ b=some L->σ' b=some L):∀ {m:List (AV×AV)} {es:List MapEntry},rW P σ m es->rW P σ' m es
 | [],es,h=>h
 | (k,v)::m,es,h=>by
  have⟨e,es',h1,h2,h3,h4⟩:=h;exact⟨e,es',h1,h2.mono hs,h3.mono hs,h4.mono hs⟩
theorem rH.frame{L:Loc}{bl:AB}(hs:∀b L,σ b=some L->σ' b=some L)(hh:w'.heap[L.r]? =w.heap[L.r]?)(h:rH P σ w L bl):rH P σ' w' L bl:=by
 cases bl with
 | cells cs o s=>
  have⟨Cs,h1,h2,h3,h4⟩:=h;exact⟨Cs,h1.mono hs,h2,fun j v hv=>by rw[cell_of_heap hh];exact h3 j v hv,fun j hj=>by rw[cell_of_heap hh,frozen_of_heap hh];exact h4 j hj⟩
 | ro cs=>
  have⟨Cs,h1,h2,h3⟩:=h;exact⟨Cs,h1.mono hs,h2,fun j v hv=>by rw[cell_of_heap hh];exact h3 j v hv⟩
 | map es=>
  have⟨ms,c,h1,h2⟩:=h;exact⟨ms,c,by rw[hh];exact h1,h2.mono hs⟩
 | loop st pend fr ps as bd=>
  have⟨lp,h1,h2,h3,h4,h5⟩:=h;exact⟨lp,by rw[hh];exact h1,h2,h3,h4.mono hs,h5⟩
 | dfd=>exact hh.trans h
theorem gM.heap(h:kT P σ S w)(hh:w'.heap=w.heap)(ho:w'.os=w.os)(ht:w'.tape=w.tape)(hu:w'.output=w.output):gM P σ S w σ S w' where
 rep:=⟨fun b bl hb=>by
  have⟨L,h1,h2,h3⟩:=h.blk b bl hb;exact⟨L,h1,by rw[hh];exact h2,h3.frame (fun _ _ x=>x) (by rw[hh])⟩,h.lt,h.fresh,h.glob,h.inj⟩
 low:=fun _ _=>rfl
 nx:=Af _
 keep:=fun r _ _=>by rw[hh]
 own:=fun _ ho=>.inl ho
 size:=by rw[hh];exact Af _
 os:=ho
 tape:=ht
 output:=hu
 ro:=fun _ _ hb=>hb
def upd(σ:Env)(b:Nat)(L:Loc):Env:=fun c=>if c=b then some L else σ c
theorem upd_same(b:Nat)(L:Loc):upd σ b L b=some L:=by simp [upd]
theorem eJ{b c:Nat}(L:Loc)(h:c≠b):upd σ b L c=σ c:=by simp [upd,h]
theorem gF{b:Nat}{L:Loc}(hb:σ b=none):∀c M,σ c=some M->upd σ b L c=some M:=fun c M hc=>by
 rw[eJ L (fun e=>by subst e;rw[hb] at hc;cases hc)];exact hc
theorem gM.alloc(h:kT P σ S w){ob:Obj}{bl:AB}{e:Nat}(hw:w'.heap=w.heap.push ob)(ho:w'.os=w.os)(ht:w'.tape=w.tape)(hu:w'.output=w.output)
  (hb:rH P (upd σ S.nx ⟨w.heap.size,0,e⟩) w' ⟨w.heap.size,0,e⟩ bl) (hr:wJ bl):
  gM P σ S w (upd σ S.nx ⟨w.heap.size,0,e⟩) ⟨S.h.set S.nx (some bl),Nat.succ S.nx⟩ w':=by
 have hold:∀r,r<w.heap.size->w'.heap[r]? =w.heap[r]? :=fun r hr=>by rw[hw,Gy,if_neg au]
 have hsz:w'.heap.size=w.heap.size+1:=by rw[hw];simp
 have hf:=h.fresh S.nx (Af _);refine⟨⟨fun b bl' hb'=>?_,fun b bl' hb'=>?_,fun b hb'=>?_,fun g hg=>gF hf _ _ (h.glob g hg),?_⟩,fun b hb'=>eJ _ au,Nat.le_succ _,fun r hr _=>hold r hr,fun r hr=>?_,au,ho,ht,hu,fun b cs hb'=>?_⟩
 ·rw[T.get_set] at hb';split at hb'
  ·rename_i e;subst e;cases hb';exact⟨_,upd_same _ _,by simp only;omega,hb⟩
  ·rename_i hne;have⟨L,h1,h2,h3⟩:=h.blk b bl' hb';exact⟨L,gF hf _ _ h1,au,h3.frame (gF hf) (hold _ h2)⟩
 ·rw[T.get_set] at hb';split at hb'
  ·rename_i e;subst e;exact Fj _
  ·exact Nat.lt_succ_of_lt (h.lt b bl' hb')
 ·have:b≠S.nx:=by simp only at hb';omega
  rw[eJ _ this];exact h.fresh b (by simp only at hb';omega)
 ·intro b b' bl1 bl2 L L' hb1 hb2 ho1 hne hL hL';simp only at hb1 hb2;rw[T.get_set] at hb1 hb2;split at hb1
  ·rename_i e;subst e;rw[if_neg (Dy hne)] at hb2;rw[upd_same] at hL;cases hL;rw[eJ _ (Dy hne)] at hL';have⟨M,h1,h2,_⟩:=h.blk b' bl2 hb2;rw[h1] at hL';cases hL';simp only;omega
  ·rename_i hne1;rw[eJ _ hne1] at hL;have⟨M,h1,h2,_⟩:=h.blk b bl1 hb1;rw[h1] at hL;cases hL;split at hb2
   ·rename_i e;subst e;rw[upd_same] at hL';cases hL';simp only;omega
   ·rename_i hne2;rw[eJ _ hne2] at hL';exact h.inj b b' bl1 bl2 _ _ hb1 hb2 ho1 hne h1 hL'
 ·obtain⟨b,bl',L,h1,h2,h3,rfl⟩:=hr;simp only at h1;rw[T.get_set] at h1;split at h1
  ·rename_i e;subst e;rw[upd_same] at h3;cases h3;exact .inr (Af _)
  ·rename_i hne;rw[eJ _ hne] at h3;exact .inl ⟨b,bl',L,h1,h2,h3,rfl⟩
 ·simp only at hb';rw[T.get_set] at hb';split at hb'
  ·cases hb';exact hr.elim
  ·exact hb'
theorem gM.write(h:kT P σ S w){b:Nat}{bl bl':AB}{L:Loc}(hb:S.h.get b=some bl)(hown:wJ bl)(hown':wJ bl')(hL:σ b=some L)
  (hh:∀r,r≠L.r->w'.heap[r]? =w.heap[r]?) (hsz:w'.heap.size=w.heap.size) (ho:w'.os=w.os) (ht:w'.tape=w.tape) (hu:w'.output=w.output)
  (hr:rH P σ w' L bl'):gM P σ S w σ ⟨S.h.set b (some bl'),S.nx⟩ w':=by
 refine⟨⟨fun c bl1 hc=>?_,fun c bl1 hc=>?_,h.fresh,h.glob,?_⟩,fun _ _=>rfl,Af _,fun r _ hr'=>hh r (fun e=>hr' ⟨b,bl,L,hb,hown,hL,e.symm⟩),fun r hr'=>?_,au,ho,ht,hu,fun c cs hc=>?_⟩
 ·simp only at hc;rw[T.get_set] at hc;have⟨M,h1,h2,_⟩:=h.blk b bl hb;rw[hL] at h1;cases h1;split at hc
  ·rename_i e;subst e;cases hc;exact⟨L,hL,au,hr⟩
  ·rename_i hne;have⟨M,h1,h3,h4⟩:=h.blk c bl1 hc;exact⟨M,h1,au,h4.frame (fun _ _ x=>x) (hh _ (Dy (h.inj b c bl bl1 L M hb hc hown (Dy hne) hL h1)))⟩
 ·simp only at hc;rw[T.get_set] at hc;split at hc
  ·rename_i e;subst e;exact h.lt c bl hb
  ·exact h.lt c bl1 hc
 ·intro c c' bl1 bl2 L1 L2 h1 h2 ho1 hne hL1 hL2;simp only at h1 h2;rw[T.get_set] at h1 h2;split at h1
  ·rename_i e;subst e;rw[if_neg (Dy hne)] at h2;exact h.inj c c' bl bl2 _ _ hb h2 hown hne hL1 hL2
  ·split at h2
   ·rename_i e;subst e;rw[hL] at hL2;cases hL2;exact(h.inj c' c bl bl1 _ _ hb h1 hown (Dy hne) hL hL1).symm
   ·exact h.inj c c' bl1 bl2 _ _ h1 h2 ho1 hne hL1 hL2
 ·obtain⟨c,bl1,M,h1,h2,h3,rfl⟩:=hr';simp only at h1;rw[T.get_set] at h1;split at h1
  ·rename_i e;subst e;exact .inl ⟨c,bl,M,hb,hown,h3,rfl⟩
  ·exact .inl ⟨c,bl1,M,h1,h2,h3,rfl⟩
 ·simp only at hc;rw[T.get_set] at hc;split at hc
  ·cases hc;exact hown'.elim
  ·exact hc
theorem gM.drop(h:kT P σ S w)(b:Nat):gM P σ S w σ ⟨S.h.set b none,S.nx⟩ w:=by
 have key:∀c bl,(S.h.set b none).get c=some bl->S.h.get c=some bl:=fun c bl hc=>by
  rw[T.get_set] at hc;split at hc
  ·cases hc
  ·exact hc
 refine⟨⟨fun c bl hc=>h.blk c bl (key c bl hc),fun c bl hc=>h.lt c bl (key c bl hc),h.fresh,h.glob,fun c c' bl1 bl2 L1 L2 h1 h2=>h.inj c c' bl1 bl2 L1 L2 (key _ _ h1) (key _ _ h2)⟩,
  fun _ _=>rfl,Af _,fun _ _ _=>rfl,fun r ⟨c,bl,L,h1,h2⟩=>.inl ⟨c,bl,L,key _ _ h1,h2⟩,Af _,rfl,rfl,rfl,fun c cs hc=>key _ _ hc⟩
theorem gM.rename(h:kT P σ S w){b:Nat}{bl bl':AB}{L L':Loc}(hb:S.h.get b=some bl)(hown:wJ bl)(hown':wJ bl')(hL:σ b=some L)(hr':L'.r=L.r)
  (hh:∀r,r≠L.r->w'.heap[r]? =w.heap[r]?) (hsz:w'.heap.size=w.heap.size) (ho:w'.os=w.os) (ht:w'.tape=w.tape) (hu:w'.output=w.output)
  (hr:rH P (upd σ S.nx L') w' L' bl'):gM P σ S w (upd σ S.nx L') ⟨(S.h.set b none).set S.nx (some bl'),Nat.succ S.nx⟩ w':=by
 have hf:=h.fresh S.nx (Af _);have hlt:=h.lt b bl hb;have⟨M,hM1,hM2,_⟩:=h.blk b bl hb;rw[hL] at hM1;cases hM1;have key:∀c bl1,((S.h.set b none).set S.nx (some bl')).get c=some bl1->(c=S.nx/\bl1=bl')\/(c≠S.nx/\c≠b/\S.h.get c=some bl1):=fun c bl1 hc=>by
  rw[T.get_set,T.get_set] at hc;split at hc
  ·cases hc;exact .inl ⟨‹_›,rfl⟩
  ·split at hc
   ·cases hc
   ·exact .inr ⟨‹_›, ‹_›,hc⟩
 refine⟨⟨fun c bl1 hc=>?_,fun c bl1 hc=>?_,fun c hc=>?_,fun g hg=>gF hf _ _ (h.glob g hg),?_⟩,fun c hc=>eJ _ au,Nat.le_succ _,fun r _ hr1=>hh r (fun e=>hr1 ⟨b,bl,L,hb,hown,hL,e.symm⟩),fun r hr1=>?_,au,ho,ht,hu,fun c cs hc=>?_⟩
 ·rcases key c bl1 hc with⟨rfl,rfl⟩ | ⟨h1,h2,h3⟩
  ·exact⟨L',upd_same _ _,au,hr⟩
  ·have⟨M,h4,h5,h6⟩:=h.blk c bl1 h3;exact⟨M,gF hf _ _ h4,au,h6.frame (gF hf) (hh _ (Dy (h.inj b c bl bl1 L M hb h3 hown (Dy h2) hL h4)))⟩
 ·rcases key c bl1 hc with⟨rfl,rfl⟩ | ⟨h1,h2,h3⟩
  ·exact Fj _
  ·exact Nat.lt_succ_of_lt (h.lt c bl1 h3)
 ·have:c≠S.nx:=by simp only at hc;omega
  rw[eJ _ this];exact h.fresh c (by simp only at hc;omega)
 ·intro c c' bl1 bl2 L1 L2 h1 h2 ho1 hne hL1 hL2;rcases key c bl1 h1 with⟨rfl,rfl⟩ | ⟨a1,a2,a3⟩<;>rcases key c' bl2 h2 with⟨rfl,rfl⟩ | ⟨b1,b2,b3⟩
  ·exact absurd rfl hne
  ·rw[upd_same] at hL1;cases hL1;rw[eJ _ b1] at hL2;rw[hr'];exact h.inj b c' bl bl2 _ _ hb b3 hown (Dy b2) hL hL2
  ·rw[upd_same] at hL2;cases hL2;rw[eJ _ a1] at hL1;rw[hr'];exact(h.inj b c bl bl1 _ _ hb a3 hown (Dy a2) hL hL1).symm
  ·rw[eJ _ a1] at hL1;rw[eJ _ b1] at hL2;exact h.inj c c' bl1 bl2 _ _ a3 b3 ho1 hne hL1 hL2
 ·obtain⟨c,bl1,M,h1,h2,h3,rfl⟩:=hr1;rcases key c bl1 h1 with⟨rfl,rfl⟩ | ⟨a1,a2,a3⟩
  ·rw[upd_same] at h3;cases h3;exact .inl ⟨b,bl,L,hb,hown,hL,hr'.symm⟩
  ·rw[eJ _ a1] at h3;exact .inl ⟨c,bl1,M,a3,h2,h3,rfl⟩
 ·rcases key c _ hc with⟨rfl,h1⟩ | ⟨a1,a2,a3⟩
  ·subst h1;exact hown'.elim
  ·exact a3
end
end Go.Ev
namespace Go.Ev
variable {P:Program}{σ:Env}{S:St}{w:World}
theorem bM{F:Fr}{a:Act}(hF:pV P σ F a.tmps)(hR:kT P σ S w){x:Operand}{X:cP}(h:fD P x=some X):Rv P σ (X.val F) (a.eval x):=by
 cases x with
 | tmp t=>simp only[fD,Al] at h;subst h;exact hF.get t
 | const v=>
  simp only[fD,Ax] at h;obtain⟨y,hy,rfl⟩:=h;exact aEb hy
 | global g=>
  simp only[fD,Ba] at h;split at h
  ·rename_i hg;cases h;show Rv P σ (.ptr g 0) _;simp only[Rv];have hlt:g<P.globals.size:=Au hg;exact⟨_,hR.glob g hlt,rfl⟩
  ·cases h
 | func f=>
  simp only[fD,Al] at h;subst h;show Rv P σ (.fn f [] []) _;simp only[Rv];exact⟨[],[],rfl,cT.2 rfl,cT.2 rfl⟩
theorem pO(x:cP)(xs:List cP)(F:Fr):dE (x::xs) F=x.val F::dE xs F:=rfl
theorem lL{F:Fr}{a:Act}(hF:pV P σ F a.tmps)(hR:kT P σ S w):∀ {xs:List Operand} {Xs:List cP},xY P xs=some Xs->iD P σ (dE Xs F) (xs.map a.eval)
 | [],Xs,h=>by simp only[xY,Al] at h;subst h;exact cT.2 rfl
 | x::xs,Xs,h=>by
  simp only[xY] at h;split at h
  ·rename_i y ys hy hys;cases h;rw[pO,Fa];exact cS.2 ⟨_,_,rfl,bM hF hR hy,lL hF hR hys⟩
  ·cases h
theorem yV{t:TypeId}{agg:Bool}{n:Nat}(h:aAL P t=some (agg,n)):∃d i,P.underlying t=some d/\P.info? t=some i/\i.size=n/\d.isRow=agg:=by
 unfold aAL at h;split at h
 ·rename_i i hu hi;cases h;exact⟨_,i,hu,hi,rfl,rfl⟩
 ·rename_i i hu hi;cases h;exact⟨_,i,hu,hi,rfl,rfl⟩
 ·rename_i d i hn1 hn2 hu hi;cases h;refine⟨d,i,hu,hi,rfl,?_⟩;cases d<;>simp_all [TypeDesc.isRow]
 ·cases h
theorem aAO{b:Nat}{cs:bo}(hR:kT P σ S w)(h:cA S.h b=some cs):
  ∃L Cs,σ b=some L/\iD P σ cs Cs/\(∀u∈Cs,u.oneCell'=true)/\w.rangeAt L.r L.d Cs:=by
 have⟨bl,h1,h2⟩:=aA h;have⟨L,hL,_,hb⟩:=hR.blk b bl h1;cases bl<;>simp only[dN,Al,reduceCtorEq] at h2
 ·subst h2;have⟨Cs,h3,h4,h5,_⟩:=hb;exact⟨L,Cs,hL,h3,h4,h5⟩
 ·subst h2;have⟨Cs,h3,h4,h5⟩:=hb;exact⟨L,Cs,hL,h3,h4,h5⟩
theorem aFb{r d i n:Nat}{Cs:List Value}(h:w.rangeAt r d Cs):w.rangeAt r (d+i) ((Cs.drop i).take n):=fun j v hv=>by
 have hj:j<n:=by
  rcases Bj j n with h1 | h1
  ·exact h1
  ·rw[Bo (by rw[Bq];omega)] at hv;cases hv
 rw[Ft hj,Fi] at hv;rw[Cx];exact h _ v hv
theorem vR{b off n:Nat}{cs:bo}(hR:kT P σ S w)(h:oM S.h b off n=some cs):
  ∃L Cs,σ b=some L/\iD P σ cs Cs/\Cs.length=n/\(∀u∈Cs,u.oneCell'=true)/\w.rangeAt L.r (L.d+off) Cs:=by
 have⟨l,h1,h2⟩:=aA h;have⟨L,Cs,hL,h3,h4,h5⟩:=aAO hR h1;have:=h3.cut h2;exact⟨L,_,hL,this.1,this.2,fun u hu=>h4 u (Ej (Ek hu)),aFb h5⟩
theorem aJ9{b off:Nat}{v:AV}(hR:kT P σ S w)(h:jQ S.h b off=some v):
  ∃L V,σ b=some L/\Rv P σ v V/\w.cell? ⟨L.r,L.d+off,none⟩=some V:=by
 have⟨l,h1,h2⟩:=aA h;rw[jY] at h2;have⟨L,Cs,hL,h3,_,h5⟩:=aAO hR h1;have⟨V,hV,hr⟩:=h3.get h2;exact⟨L,V,hL,hr,h5 _ _ hV⟩
theorem yA{t:TypeId}{agg:Bool}{n:Nat}(ht:aAL P t=some (agg,n))(hR:kT P σ S w){b off:Nat}{v:AV}(hv:iQ agg n S.h b off=some v):
  ∃L V,σ b=some L/\(loadVar t ⟨L.r,L.d+off,none⟩).run P w= .ok V w/\Rv P σ v V:=by
 have⟨d,i,hu,hi,hn,hd⟩:=yV ht;unfold iQ at hv;cases agg with
 | true=>
  rw[aN] at hv;have⟨cs,h1,h2⟩:=aA hv;cases h2;have⟨L,Cs,hL,h3,h4,h5,h6⟩:=vR hR h1;refine⟨L,_,hL,run_loadVar_mid w L.r (L.d+off) t Cs d h6 hu hd (by rw[hi];simp [hn,h4]),?_⟩;simp only[Rv];exact⟨Cs,rfl,h3,h5⟩
 | false=>
  rw[aR] at hv;have⟨L,V,hL,h1,h2⟩:=aJ9 hR hv;refine⟨L,V,hL,?_,h1⟩;have hna:(isAgg t).run P w= .ok false w:=by
   simp only[isAgg,Sem.run_bind,run_underlying hu,Result.andThen_ok];cases d<;>simp_all [TypeDesc.isRow]
  simp [loadVar,hna,h2]
theorem aMw{t:TypeId}{agg:Bool}{n:Nat}(ht:aAL P t=some (agg,n))(hR:kT P σ S w){x:AV}{X:Value}(hx:Rv P σ x X){v:AV}(hv:dJ x agg n S.h=some v):
  ∃V,(Instr.loadAt t X).run P w= .ok V w/\Rv P σ v V:=by
 cases x<;>simp only[dJ,reduceCtorEq] at hv;simp only[Rv] at hx;obtain⟨L,hL,rfl⟩:=hx;have⟨L',V,hL',h1,h2⟩:=yA ht hR hv;rw[hL] at hL';cases hL';exact⟨V,by simp [Instr.loadAt,Instr.sureAddr,h1],h2⟩
theorem zF{k:IntKind}{n:Int}(h1:k.min<=n)(h2:n<=k.max):k.wrap n=n:=by
 cases k<;>simp only[IntKind.min,IntKind.max,IntKind.wrap,IntKind.signed,IntKind.bits] at * <;>simp at * <;>(try split)<;>omega
theorem nat_eq(k:IntKind)(n:Nat):nat k n=k.wrap (Int.ofNat n):=by
 unfold nat;rw[bQ];split
 ·rename_i h;rw[Gx] at h;rw[zF]
  ·cases k<;>simp [IntKind.min,IntKind.signed,IntKind.bits]<;>omega
  ·cases k<;>simp only[pY,IntKind.max,IntKind.signed,IntKind.bits] at * <;>simp<;>omega
 ·rfl
theorem aGc(k:IntKind)(n:Nat):neg k n=k.wrap (Int.negSucc n):=by
 unfold neg;rw[bQ];split
 ·rename_i hs;rw[bQ];split
  ·rename_i h;rw[Gx] at h;rw[zF]
   ·cases k<;>simp only[aDc,pY,Aw] at * <;>simp only[IntKind.min,IntKind.signed,IntKind.bits]<;>simp<;>omega
   ·cases k<;>simp only[aDc,pY,Aw] at * <;>simp only[IntKind.max,IntKind.signed,IntKind.bits]<;>simp<;>omega
  ·rfl
 ·rfl
theorem tW(k:IntKind)(n:Int):aFu k n=k.wrap n:=by
 cases n with
 | ofNat m=>exact nat_eq k m
 | negSucc m=>exact aGc k m
theorem yU(k:IntKind)(a b:Nat):aB8 k a b=k.wrap ((a:Int) - b):=by
 unfold aB8;rw[bQ];split
 ·rename_i h;rw[Gx] at h;rw[nat_eq];congr 1;show((a - b:Nat):Int)=_;omega
 ·rename_i h;rw[Gx] at h;rw[aGc];congr 1;show Int.negSucc (b - a - 1)=_;omega
theorem aHX(k:IntKind)(x y:Int):aOQ k x y=k.wrap (x+y):=by
 cases x with
 | ofNat a=>cases y with
  | ofNat b=>exact nat_eq k _
  | negSucc b=>exact(yU k a (b+1)).trans (by congr 1)
 | negSucc a=>cases y with
  | ofNat b=>exact(yU k b (a+1)).trans (by congr 1)
  | negSucc b=>exact(aGc k _).trans (by congr 1)
theorem xM(k:IntKind)(x y:Int):aFH k x y=k.wrap (x - y):=by
 cases x with
 | ofNat a=>cases y with
  | ofNat b=>exact yU k a b
  | negSucc b=>exact(nat_eq k _).trans (by congr 1)
 | negSucc a=>cases y with
  | ofNat b=>exact(aGc k _).trans (by congr 1;show Int.negSucc (a+b)=Int.negSucc a - (b:Int);omega)
  | negSucc b=>exact(yU k b a).trans (by congr 1;omega)
theorem aBg(k:IntKind)(x y:Int):aHz k x y=k.wrap (x * y):=by
 cases x with
 | ofNat a=>cases y with
  | ofNat b=>exact nat_eq k _
  | negSucc b=>exact tW k _
 | negSucc a=>exact tW k _
theorem nJ(x y:Int):ieq x y=(x==y):=by
 cases x with
 | ofNat a=>cases y with
  | ofNat b=>show Nat.beq a b=_;rw[Dd];simp only[Az,beq_iff_eq];exact⟨fun h=>by rw[h],fun h=>Int.ofNat.inj h⟩
  | negSucc b=>show false=_;symm;simp
 | negSucc a=>cases y with
  | ofNat b=>show false=_;symm;simp
  | negSucc b=>show Nat.beq a b=_;rw[Dd];simp [Az]
theorem rK(x y:Int):ile x y=decide (x<=y):=by
 cases x with
 | ofNat a=>cases y with
  | ofNat b=>show Nat.ble a b=_;rw[Dd];simp [Gx]
  | negSucc b=>show false=_;symm;simp;omega
 | negSucc a=>cases y with
  | ofNat b=>show true=_;symm;simp;omega
  | negSucc b=>show Nat.ble b a=_;rw[Dd];simp [Gx];omega
theorem zZ{x y:IntKind}(h:keq x y=true):x=y:=by
 cases x<;>cases y<;>first | rfl | (exact absurd h ay)
theorem fR(x:IntKind):keq x x=true:=by cases x<;>rfl
theorem vS(x y:Bool):aOI x y=(x==y):=by cases x<;>cases y<;>rfl
theorem sL(b:Bool):bO b false true= !b:=by cases b<;>rfl
end Go.Ev
namespace Go.Ev
variable {P:Program}{σ:Env}{S:St}{w:World}
theorem aBc(op:BinOp):eX op=true↔op= .shl\/op= .shr:=by cases op<;>simp [eX]
theorem aHC{op:BinOp}{k k':IntKind}{a b:Int}{v:AV}(hs:eX op=true)(h:aBv op k a b=some v):
  ∃V,(Op.shift op k a k' b).run P w= .ok V w/\Rv P σ v V:=by
 cases b with
 | negSucc m=>simp [aBv] at h
 | ofNat m=>
  simp only[aBv,wY] at h;have hm:bO (Nat.ble m k.bits) m k.bits=min m k.bits:=by
   rw[bQ];split
   ·rename_i h1;rw[Gx] at h1;omega
   ·rename_i h1;rw[Gx] at h1;omega
  rw[hm] at h;have h0:¬ (Int.ofNat m<0):=by simp
  rcases(aBc op).1 hs with rfl | rfl
  ·simp only[Al] at h;subst h;refine⟨_,by simp only[Op.shift,if_neg h0];rfl,?_⟩;simp only[Rv,aBg];congr 2
  ·simp only[Al] at h;subst h;refine⟨_,by simp only[Op.shift,if_neg h0];rfl,?_⟩;simp only[Rv];congr 2
theorem aAi{f:Nat->Nat->Nat}{k:IntKind}{x y:Int}{v:AV}(h:aCt f k x y=some v):
  ∃a b,x= .ofNat a/\y= .ofNat b/\a<=pY k/\b<=pY k/\v= .int k (.ofNat (f a b)):=by
 unfold aCt at h;split at h
 ·rename_i a b;have⟨h1,h⟩:=bJ h;have⟨h2,h⟩:=bJ h;cases h;exact⟨a,b,rfl,rfl,Au h1,Au h2,rfl⟩
 ·cases h
theorem zG(k:IntKind):pY k<2 ^ k.bits:=by cases k<;>simp [pY,IntKind.bits]
theorem aEK{k:IntKind}{n:Nat}(h:n<=pY k):k.wrap (n:Int)=n:=by
 apply zF
 ·cases k<;>simp [IntKind.min,IntKind.signed,IntKind.bits]<;>omega
 ·cases k<;>simp only[pY,IntKind.max,IntKind.signed,IntKind.bits] at * <;>simp<;>omega
theorem qS{n a:Nat}(h:a<2 ^ n):(BitVec.ofInt n (Int.ofNat a)).toNat=a:=by
 show(BitVec.ofInt n (a:Int)).toNat=a;rw[BitVec.toNat_ofInt];have:((a:Int) % ((2 ^ n:Nat):Int))=a:=Int.emod_eq_of_lt au (by exact_mod_cast h);rw[this];rfl
theorem aHK{k:IntKind}{a b:Nat}(ha:a<=pY k)(hb:b<=pY k):a ^^^ b<=pY k:=by
 have key:∀m:Nat,pY k=2 ^ m - 1->a ^^^ b<=pY k:=fun m hm=>by
  have h1:a<2 ^ m:=by have:=Nat.two_pow_pos m;omega
  have h2:b<2 ^ m:=by have:=Nat.two_pow_pos m;omega
  have:=Nat.xor_lt_two_pow h1 h2;omega
 cases k
 ·exact key 7 rfl
 ·exact key 15 rfl
 ·exact key 31 rfl
 ·exact key 63 rfl
 ·exact key 8 rfl
 ·exact key 16 rfl
 ·exact key 32 rfl
 ·exact key 64 rfl
theorem aJD{k:IntKind}{a b:Nat}(ha:a<=pY k)(hb:b<=pY k):a ||| b<=pY k:=by
 have key:∀m:Nat,pY k=2 ^ m - 1->a ||| b<=pY k:=fun m hm=>by
  have h1:a<2 ^ m:=by have:=Nat.two_pow_pos m;omega
  have h2:b<2 ^ m:=by have:=Nat.two_pow_pos m;omega
  have:=Nat.or_lt_two_pow h1 h2;omega
 cases k
 ·exact key 7 rfl
 ·exact key 15 rfl
 ·exact key 31 rfl
 ·exact key 63 rfl
 ·exact key 8 rfl
 ·exact key 16 rfl
 ·exact key 32 rfl
 ·exact key 64 rfl
theorem aMa{op:BinOp}{t:TypeId}{k:IntKind}{a b:Int}{v:AV}(hs:eX op=false)(h:aOd op k a b=some v):
  ∃V,(binOp op t (.int k a) (.int k b)).run P w= .ok V w/\Rv P σ v V:=by
 cases op
 case add=>cases h;exact⟨_,by rw[binOp_add];rfl,by simp only[Rv,aHX]⟩
 case sub=>cases h;exact⟨_,by rw[binOp_sub];rfl,by simp only[Rv,xM]⟩
 case mul=>cases h;exact⟨_,by rw[binOp_mul];rfl,by simp only[Rv,aBg]⟩
 case quo=>
  have hb:binOp .quo t (.int k a) (.int k b)=Op.intDiv .quo k a b:=binOp_quo ..;have h':aNz k a b=some v:=h;unfold aNz at h';rw[hb];split at h'
  ·rename_i x y;rw[bQ] at h';split at h'
   ·cases h'
   ·rename_i h0;rw[Az] at h0;cases h';have:¬ (Int.ofNat y=0):=by simpa using h0
    refine⟨_,by simp only[Op.intDiv,if_neg this];rfl,?_⟩;simp only[Rv,nat_eq];congr 2
  ·rw[bQ,nJ] at h';split at h'
   ·cases h'
   ·rename_i h0;cases h';have:¬ (b=0):=by simpa using h0
    exact⟨_,by simp only[Op.intDiv,if_neg this];rfl,by simp only[Rv,tW]⟩
 case rem=>
  have hb:binOp .rem t (.int k a) (.int k b)=Op.intDiv .rem k a b:=by simp [binOp]
  have h':aNS k a b=some v:=h;unfold aNS at h';rw[hb];split at h'
  ·rename_i x y;rw[bQ] at h';split at h'
   ·cases h'
   ·rename_i h0;rw[Az] at h0;cases h';have:¬ (Int.ofNat y=0):=by simpa using h0
    refine⟨_,by simp only[Op.intDiv,if_neg this];rfl,?_⟩;simp only[Rv];congr 1
  ·rw[bQ,nJ] at h';split at h'
   ·cases h'
   ·rename_i h0;cases h';have:¬ (b=0):=by simpa using h0
    exact⟨_,by simp only[Op.intDiv,if_neg this];rfl,by simp only[Rv]⟩
 case and=>
  obtain⟨x,y,rfl,rfl,h1,h2,rfl⟩:=aAi (h:aCt Nat.land k a b=some v);refine⟨_,by simp only[binOp,ne_eq,Cr,Bx,Op.intBits];rfl,?_⟩;simp only[Rv];have hx:=qS (Cg h1 (zG k));have hy:=qS (Cg h2 (zG k));rw[BitVec.toNat_and,hx,hy];have hle:x &&& y<=pY k:=Bb Nat.and_le_left h1;rw[aEK hle];rfl
 case or=>
  obtain⟨x,y,rfl,rfl,h1,h2,rfl⟩:=aAi (h:aCt Nat.lor k a b=some v);refine⟨_,by simp only[binOp,ne_eq,Cr,Bx,Op.intBits];rfl,?_⟩;simp only[Rv];have hx:=qS (Cg h1 (zG k));have hy:=qS (Cg h2 (zG k));rw[BitVec.toNat_or,hx,hy,aEK (aJD h1 h2)];rfl
 case xor=>
  obtain⟨x,y,rfl,rfl,h1,h2,rfl⟩:=aAi (h:aCt Nat.xor k a b=some v);refine⟨_,by simp only[binOp,ne_eq,Cr,Bx,Op.intBits];rfl,?_⟩;simp only[Rv];have hx:=qS (Cg h1 (zG k));have hy:=qS (Cg h2 (zG k));rw[BitVec.toNat_xor,hx,hy,aEK (aHK h1 h2)];rfl
 case shl=>simp [eX] at hs
 case shr=>simp [eX] at hs
 case andNot=>cases h
 case eql=>cases h;exact⟨_,by simp only[binOp,ne_eq,Cr,Bx,Op.intCmp];rfl,by simp only[Rv,nJ]⟩
 case neq=>cases h;exact⟨_,by simp only[binOp,ne_eq,Cr,Bx,Op.intCmp];rfl,by simp only[Rv,nJ,sL];rfl⟩
 case lss=>
  cases h;refine⟨_,by simp only[binOp,ne_eq,Cr,Bx,Op.intCmp];rfl,?_⟩;simp only[Rv,rK,sL];congr 1;rw[Dd];simp
 case leq=>cases h;exact⟨_,by simp only[binOp,ne_eq,Cr,Bx,Op.intCmp];rfl,by simp only[Rv,rK]⟩
 case gtr=>
  cases h;refine⟨_,by simp only[binOp,ne_eq,Cr,Bx,Op.intCmp];rfl,?_⟩;simp only[Rv,rK,sL];congr 1;rw[Dd];simp
 case geq=>cases h;exact⟨_,by simp only[binOp,ne_eq,Cr,Bx,Op.intCmp];rfl,by simp only[Rv,rK]⟩
theorem aJv{op:BinOp}{t:TypeId}{k k':IntKind}{a b:Int}{v:AV}(h:cU op k a k' b=some v):
  ∃V,(binOp op t (.int k a) (.int k' b)).run P w= .ok V w/\Rv P σ v V:=by
 unfold cU at h;cases hs:eX op
 ·rw[hs,aR] at h;have⟨h1,h2⟩:=bJ h;have:=zZ h1;subst this;exact aMa hs h2
 ·rw[hs,aN] at h;have⟨V,h1,h2⟩:=aHC (P:=P) (σ:=σ) (w:=w) (k':=k') hs h;refine⟨V,?_,h2⟩;rcases(aBc op).1 hs with rfl | rfl<;>exact h1
theorem vH{x:Nat}(h:x<256):(UInt8.ofNat x).toNat=x:=by
 rw[UInt8.toNat_ofNat'];exact Ec h
theorem aHf:∀ {a b:bt},Bytes a->Bytes b->(oL a b=true↔dM a=dM b):=by
 have inj:∀ {a b:bt},Bytes a->Bytes b->dM a=dM b->a=b:=fun {a b} ha hb h=>by
  have h1:a.map UInt8.ofNat=b.map UInt8.ofNat:=by
   have:=Hn (fun s:ByteArray=>s.data.toList) h;simpa [dM] using this
  have h2:=Hn (List.map UInt8.toNat) h1;rw[List.map_map,List.map_map] at h2;have e:∀l:bt,Bytes l->l.map (UInt8.toNat ∘ UInt8.ofNat)=l:=fun l hl=>by
   conv=>rhs;rw[<-List.map_id l]
   exact Gd fun x hx=>vH (hl x hx)
  rw[e a ha,e b hb] at h2;exact h2
 have eqv:∀a b:bt,oL a b=true↔a=b:=by
  intro a
  induction a with
  | nil=>intro b;cases b<;>simp [oL]
  | cons x a ih=>
   intro b;cases b with
   | nil=>simp [oL]
   | cons y b=>
    simp only[oL,bQ];split
    ·rename_i h;rw[Az] at h;subst h;simp [ih]
    ·rename_i h;rw[Az] at h;simp [h]
 intro a b ha hb;rw[eqv];exact⟨fun h=>by rw[h],inj ha hb⟩
theorem qV(a:bt):(dM a).toList=a.map UInt8.ofNat:=by
 exact ByteArray.toList_mk _
theorem iC(a:bt):(dM a).size=a.length:=by simp [dM,ByteArray.size]
theorem aG1(a b:bt):dM (a++b)=dM a++dM b:=by
 apply ByteArray.ext;rw[ByteArray.data_append];simp [dM]
end Go.Ev
