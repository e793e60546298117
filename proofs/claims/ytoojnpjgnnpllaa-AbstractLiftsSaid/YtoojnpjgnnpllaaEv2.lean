import Derived.Test.YtoojnpjgnnpllaaEv1
import Derived.Deep.MidRow
import Derived.Deep.AppendSrc
import Derived.Below
import Derived.Calls
import Derived.Laws.Entries
import Derived.Laws.Strings
import Derived.Lib.Split
namespace Go.Ev
theorem aR{α:Sort _}(a b:α):bQ true a b=a:=rfl
theorem bB{α:Sort _}(a b:α):bQ false a b=b:=rfl
theorem cN{α:Sort _}(c:Bool)(a b:α):bQ c a b=if c=true then a else b:=by cases c<;>simp [bQ]
theorem uV{α β:Type}(f:α->Option β):bC none f=none:=rfl
theorem aL{α β:Type}(a:α)(f:α->Option β):bC (some a) f=f a:=rfl
theorem aO{α β:Type}{x:Option α}{f:α->Option β}{b:β}(h:bC x f=some b):∃a,x=some a/\f a=some b:=by
 cases x with
 | none=>simp [uV] at h
 | some a=>exact⟨a,rfl,h⟩
theorem cH{α:Type}{c:Bool}{a:Option α}{r:α}(h:bQ c a none=some r):c=true/\a=some r:=by
 cases c
 ·simp [bB] at h
 ·exact⟨rfl,h⟩
namespace T
variable {α:Type}
theorem get_e(k:Nat):(T.e:T α).get k=none:=rfl
theorem aA4(l r:T α)(v:Option α)(k:Nat):(T.n l v r).get k=if k=0 then v else if k % 2=1 then l.get (k / 2) else r.get (k / 2 - 1):=by
 show bQ (Nat.beq k 0) v (bQ (Nat.beq (Nat.mod k 2) 1) (l.get (Nat.div k 2)) (r.get (Nat.sub (Nat.div k 2) 1)))=_;rw[cN,cN];simp only[Bj];rfl
theorem aQ9(k:Nat)(x:Option α):(T.e:T α).set k x=single (k+1) k x:=rfl
theorem aRH(l r:T α)(v:Option α)(k:Nat)(x:Option α):
  (T.n l v r).set k x=if k=0 then .n l x r else if k % 2=1 then .n (l.set (k / 2) x) v r else .n l v (r.set (k / 2 - 1) x):=by
 show bQ (Nat.beq k 0) (T.n l x r) (bQ (Nat.beq (Nat.mod k 2) 1) (T.n (l.set (Nat.div k 2) x) v r) (T.n l v (r.set (Nat.sub (Nat.div k 2) 1) x)))=_;rw[cN,cN];simp only[Bj];rfl
theorem aHH(f k:Nat)(x:Option α):single (f+1) k x=if k=0 then .n .e x .e else if k % 2=1 then .n (single f (k / 2) x) none .e else .n .e none (single f (k / 2 - 1) x):=by
 show bQ (Nat.beq k 0) (T.n .e x .e) (bQ (Nat.beq (Nat.mod k 2) 1) (T.n (single f (Nat.div k 2) x) none .e) (T.n .e none (single f (Nat.sub (Nat.div k 2) 1) x)))=_;rw[cN,cN];simp only[Bj];rfl
theorem zT(x:Option α):∀ (f k j:Nat),k<f->(single f k x).get j=if j=k then x else none
 | 0,k,j,h=>by omega
 | f+1,k,j,h=>by
  rw[aHH];by_cases k0:k=0
  ·subst k0;simp only[Eo];rw[aA4];by_cases j0:j=0<;>simp [j0,get_e]
  ·rw[if_neg k0];by_cases k1:k % 2=1
   ·rw[if_pos k1,aA4];by_cases j0:j=0
    ·subst j0;rw[if_pos rfl,if_neg ar]
    ·rw[if_neg j0];by_cases j1:j % 2=1
     ·rw[if_pos j1,zT x f (k / 2) (j / 2) ar];by_cases e:j=k
      ·subst e;simp
      ·rw[if_neg e,if_neg ar]
     ·rw[if_neg j1,get_e,if_neg ar]
   ·rw[if_neg k1,aA4];by_cases j0:j=0
    ·subst j0;rw[if_pos rfl,if_neg ar]
    ·rw[if_neg j0];by_cases j1:j % 2=1
     ·rw[if_pos j1,get_e,if_neg ar]
     ·rw[if_neg j1,zT x f (k / 2 - 1) (j / 2 - 1) ar];by_cases e:j=k
      ·subst e;simp
      ·rw[if_neg e,if_neg ar]
theorem get_set(x:Option α):∀ (t:T α) (k j:Nat),(t.set k x).get j=if j=k then x else t.get j
 | .e,k,j=>by
  rw[aQ9,zT x (k+1) k j ar,get_e]
 | .n l v r,k,j=>by
  rw[aRH];by_cases k0:k=0
  ·subst k0;simp only[Eo];rw[aA4,aA4];by_cases j0:j=0<;>simp [j0]
  ·rw[if_neg k0];by_cases k1:k % 2=1
   ·rw[if_pos k1,aA4,aA4];by_cases j0:j=0
    ·subst j0;simp only[Eo];rw[if_neg ar]
    ·rw[if_neg j0,if_neg j0];by_cases j1:j % 2=1
     ·rw[if_pos j1,if_pos j1,get_set x l (k / 2) (j / 2)];by_cases e:j=k
      ·subst e;simp
      ·rw[if_neg e,if_neg ar]
     ·rw[if_neg j1,if_neg j1,if_neg ar]
   ·rw[if_neg k1,aA4,aA4];by_cases j0:j=0
    ·subst j0;simp only[Eo];rw[if_neg ar]
    ·rw[if_neg j0,if_neg j0];by_cases j1:j % 2=1
     ·rw[if_pos j1,if_pos j1,if_neg ar]
     ·rw[if_neg j1,if_neg j1,get_set x r (k / 2 - 1) (j / 2 - 1)];by_cases e:j=k
      ·subst e;simp
      ·rw[if_neg e,if_neg ar]
end T
section
variable {α:Type}
theorem pZ:∀ (l:List α) (k:Nat),nth l k=l[k]?
 | [],k=>by simp [nth]
 | x::xs,k=>by
  show bQ (Nat.beq k 0) (some x) (nth xs (Nat.sub k 1))=_;rw[cN];simp only[Bj];cases k with
  | zero=>simp
  | succ k=>rw[if_neg ar];show nth xs (k+1 - 1)=_;rw[Fc,pZ xs k];simp
theorem fS:∀ (l:List α),mC l=l.length
 | []=>rfl
 | _::xs=>by show Nat.succ (mC xs)=_;rw[fS xs];rfl
theorem gE:∀ (l m:List α),yA l m=l++m
 | [],m=>rfl
 | x::xs,m=>by show x::yA xs m=_;rw[gE xs m];rfl
theorem iX:∀ (l:List α) (k:Nat),aHT l k=l.drop k
 | [],k=>by simp [aHT]
 | x::xs,k=>by
  show bQ (Nat.beq k 0) (x::xs) (aHT xs (Nat.sub k 1))=_;rw[cN];simp only[Bj];cases k with
  | zero=>simp
  | succ k=>rw[if_neg ar];show aHT xs (k+1 - 1)=_;rw[Fc,iX xs k];simp
theorem iF:∀ (l:List α) (n:Nat),aGN l n=if n<=l.length then some (l.take n) else none
 | [],n=>by
  show bQ (Nat.beq n 0) (some []) none=_;rw[cN];simp only[Bj];by_cases h:n=0<;>simp [h]
 | x::xs,n=>by
  show bQ (Nat.beq n 0) (some []) (bC (aGN xs (Nat.sub n 1)) fun r=>some (x::r))=_;rw[cN];simp only[Bj];cases n with
  | zero=>simp
  | succ n=>
   rw[if_neg ar];show bC (aGN xs (n+1 - 1)) _=_;rw[Fc,iF xs n];by_cases h:n<=xs.length
   ·rw[if_pos h,aL];simp [h]
   ·rw[if_neg h,uV];simp [h]
theorem aMB{l r:List α}{i n:Nat}(h:cut l i n=some r):r=(l.drop i).take n/\r.length=n:=by
 unfold cut at h;rw[iX,iF] at h;split at h
 ·rename_i hle;cases h;exact⟨rfl,by rw[Ca];omega⟩
 ·cases h
theorem aDU:∀ (vs l:List α),aEK vs l=if vs.length<=l.length then some (vs++l.drop vs.length) else none
 | [],l=>by simp [aEK]
 | v::vs,[]=>by
  show none=_;simp
 | v::vs,x::xs=>by
  show bC (aEK vs xs) (fun r=>some (v::r))=_;rw[aDU vs xs];by_cases h:vs.length<=xs.length
  ·rw[if_pos h,aL];simp [h]
  ·rw[if_neg h,uV];simp [h]
theorem put_eq:∀ (l:List α) (k:Nat) (vs:List α),put l k vs=if k+vs.length<=l.length then some (l.take k++vs++l.drop (k+vs.length)) else none
 | [],k,vs=>by
  show bQ (Nat.beq k 0) (aEK vs []) none=_;rw[cN,aDU];simp only[Bj];cases k with
  | zero=>simp
  | succ k=>simp
 | x::xs,k,vs=>by
  show bQ (Nat.beq k 0) (aEK vs (x::xs)) (bC (put xs (Nat.sub k 1) vs) fun r=>some (x::r))=_;rw[cN,aDU];simp only[Bj];cases k with
  | zero=>simp
  | succ k=>
   rw[if_neg ar];show bC (put xs (k+1 - 1) vs) _=_;rw[Fc,put_eq xs k vs];by_cases h:k+vs.length<=xs.length
   ·rw[if_pos h,aL,if_pos (by simp;omega)];simp [Nat.succ_add]
   ·rw[if_neg h,uV,if_neg (by simp;omega)]
theorem aBj{l r vs:List α}{k:Nat}(h:put l k vs=some r):k+vs.length<=l.length/\r=l.take k++vs++l.drop (k+vs.length):=by
 rw[put_eq] at h;split at h
 ·cases h;exact⟨‹_›,rfl⟩
 ·cases h
theorem aN9{l r vs:List α}{k:Nat}(h:put l k vs=some r)(j:Nat):r[j]? =if j<k then l[j]? else if j<k+vs.length then vs[j - k]? else l[j]? :=by
 obtain⟨hle,rfl⟩:=aBj h;by_cases h1:j<k
 ·rw[if_pos h1,Cj,Bg (by simp;omega),Em h1]
 ·rw[if_neg h1];by_cases h2:j<k+vs.length
  ·rw[if_pos h2,Cj,Be (by simp;omega),Ca,Nat.min_eq_left ar,Bg ar]
  ·rw[if_neg h2,Be (by simp;omega)];simp only[Ao,Ca,Fd];congr 1;omega
theorem lF(z:List α)(n:Nat):repeatL z (n+1)=z++repeatL z n:=gE z (repeatL z n)
theorem vE(z:List α):repeatL z 0= []:=rfl
theorem repeatL_length(z:List α):∀n,(repeatL z n).length=n * z.length
 | 0=>by simp [vE]
 | n+1=>by rw[lF,Ao,repeatL_length z n,Fe];omega
end
end Go.Ev
namespace Go.Ev
structure Loc where
 r:Nat
 d:Nat
 e:Nat
abbrev Env:=Nat->Option Loc
def gH(s:bg):ByteArray:=⟨(s.map UInt8.ofNat).toArray⟩
def Bytes(s:bg):Prop:=∀x∈s,x<256
variable (P:Program)
mutual
def Rv(σ:Env):AV->Value->Prop
 | .bool b,V=>V= .bool b
 | .int k n,V=>V= .int k n
 | .str s,V=>V= .string (gH s)/\Bytes s
 | .ptr b off,V=>∃L,σ b=some L/\V= .pointer (some ⟨L.r,L.d+off,none⟩)
 | .nilp,V=>V= .pointer none
 | .sl b off len cap o,V=>∃L,σ b=some L/\V= .slice (some ⟨L.r,L.d+off,none⟩) len (if o=true then cap+L.e else cap)
 | .bw,V=>V= .slice none 0 0
 | .emp,V=>∃a c,V= .slice (some a) 0 c
 | .map b,V=>∃L,σ b=some L/\V= .map (some L.r)
 | .nilmap,V=>V= .map none
 | .fn f a b,V=>∃A B,V= .func (.func f) ⟨A⟩ ⟨B⟩/\iH σ a A/\iH σ b B
 | .nilfn,V=>V= .nilFunc
 | .yld b,V=>∃L,σ b=some L/\V= .func (.yield L.r) #[] #[]
 | .iface t v,V=>∃W,V= .iface t W/\Rv σ v W
 | .niliface,V=>V= .nilIface
 | .mth n tbl v,V=>∃W,V= .func (.method n) #[W] #[]/\tbl=xS P n P.types.toList 0/\Rv σ v W
 | .agg cs,V=>∃C,V= .agg ⟨C⟩/\iH σ cs C/\∀v∈C,v.oneCell'=true
 | .tup cs,V=>∃C,V= .tuple ⟨C⟩/\iH σ cs C
def iH(σ:Env):bf->List Value->Prop
 | [],Vs=>Vs= []
 | a::as,Vs=>∃V Ws,Vs=V::Ws/\Rv σ a V/\iH σ as Ws
end
section
variable {P}
variable {σ:Env}
theorem cS{Vs:List Value}:iH P σ [] Vs↔Vs= []:=by simp [iH]
theorem dB{a:AV}{as:bf}{Vs:List Value}:iH P σ (a::as) Vs↔∃V Ws,Vs=V::Ws/\Rv P σ a V/\iH P σ as Ws:=by simp [iH]
theorem iH.length:∀ {as:bf} {Vs:List Value},iH P σ as Vs->Vs.length=as.length
 | [],Vs,h=>by rw[cS] at h;subst h;rfl
 | a::as,Vs,h=>by
  rw[dB] at h;obtain⟨V,Ws,rfl,_,h⟩:=h;simp [iH.length h]
theorem iH.get:∀ {as:bf} {Vs:List Value},iH P σ as Vs->∀ {j:Nat} {a:AV},as[j]? =some a->∃V,Vs[j]? =some V/\Rv P σ a V
 | [],Vs,h,j,a,ha=>by simp at ha
 | x::as,Vs,h,j,a,ha=>by
  rw[dB] at h;obtain⟨V,Ws,rfl,hv,h⟩:=h;cases j with
  | zero=>simp at ha;subst ha;exact⟨V,by simp,hv⟩
  | succ j=>
   simp at ha;have⟨W,hW,hr⟩:=iH.get h ha;exact⟨W,by simpa using hW,hr⟩
theorem iH.append:∀ {as bs:bf} {Vs Ws:List Value},iH P σ as Vs->iH P σ bs Ws->iH P σ (as++bs) (Vs++Ws)
 | [],bs,Vs,Ws,h,h'=>by rw[cS] at h;subst h;simpa using h'
 | a::as,bs,Vs,Ws,h,h'=>by
  rw[dB] at h;obtain⟨V,Us,rfl,hv,h⟩:=h;exact dB.2 ⟨V,Us++Ws,rfl,hv,iH.append h h'⟩
theorem iH.take:∀ {as:bf} {Vs:List Value} (n:Nat),iH P σ as Vs->iH P σ (as.take n) (Vs.take n)
 | [],Vs,n,h=>by rw[cS] at h;subst h;simp [cS]
 | a::as,Vs,n,h=>by
  rw[dB] at h;obtain⟨V,Us,rfl,hv,h⟩:=h;cases n with
  | zero=>simp [cS]
  | succ n=>exact dB.2 ⟨V,Us.take n,rfl,hv,iH.take n h⟩
theorem iH.drop:∀ {as:bf} {Vs:List Value} (n:Nat),iH P σ as Vs->iH P σ (as.drop n) (Vs.drop n)
 | [],Vs,n,h=>by rw[cS] at h;subst h;simp [cS]
 | a::as,Vs,n,h=>by
  cases n with
  | zero=>simpa using h
  | succ n=>
   rw[dB] at h;obtain⟨V,Us,rfl,hv,h⟩:=h;simpa using iH.drop n h
theorem iH.cut{as r:bf}{Vs:List Value}{i n:Nat}(h:iH P σ as Vs)(hc:cut as i n=some r):
  iH P σ r ((Vs.drop i).take n)/\((Vs.drop i).take n).length=n:=by
 obtain⟨rfl,hl⟩:=aMB hc;have:=(h.drop i).take n;exact⟨this,by rw[this.length,hl]⟩
theorem iH.put{as r vs:bf}{Vs Ws:List Value}{k:Nat}(h:iH P σ as Vs)(hv:iH P σ vs Ws)(hp:put as k vs=some r):
  iH P σ r (Vs.take k++Ws++Vs.drop (k+Ws.length)):=by
 obtain⟨_,rfl⟩:=aBj hp;rw[hv.length];exact((h.take k).append hv).append (h.drop _)
theorem aBa{σ σ':Env}(hs:∀b L,σ b=some L->σ' b=some L):(∀v V,Rv P σ v V->Rv P σ' v V)/\(∀vs Vs,iH P σ vs Vs->iH P σ' vs Vs):=by
 have key:∀n:Nat,(∀v V,SizeOf.sizeOf v<n->Rv P σ v V->Rv P σ' v V)/\(∀vs Vs,SizeOf.sizeOf vs<n->iH P σ vs Vs->iH P σ' vs Vs):=by
  intro n
  induction n with
  | zero=>exact⟨fun v V h=>absurd h (Bm _),fun v V h=>absurd h (Bm _)⟩
  | succ n ih=>
   refine⟨fun v V hn h=>?_,fun vs Vs hn h=>?_⟩
   ·cases v<;>simp only[Rv] at h ⊢ <;>(try exact h)
    ·have⟨L,h1,h2⟩:=h;exact⟨L,hs _ _ h1,h2⟩
    ·have⟨L,h1,h2⟩:=h;exact⟨L,hs _ _ h1,h2⟩
    ·have⟨L,h1,h2⟩:=h;exact⟨L,hs _ _ h1,h2⟩
    ·have⟨A,B,h1,h2,h3⟩:=h;exact⟨A,B,h1,ih.2 _ _ (by simp at hn;omega) h2,ih.2 _ _ (by simp at hn;omega) h3⟩
    ·have⟨L,h1,h2⟩:=h;exact⟨L,hs _ _ h1,h2⟩
    ·have⟨W,h1,h2⟩:=h;exact⟨W,h1,ih.1 _ _ (by simp at hn;omega) h2⟩
    ·have⟨W,h1,h2,h3⟩:=h;exact⟨W,h1,h2,ih.1 _ _ (by simp at hn;omega) h3⟩
    ·have⟨C,h1,h2,h3⟩:=h;exact⟨C,h1,ih.2 _ _ (by simp at hn;omega) h2,h3⟩
    ·have⟨C,h1,h2⟩:=h;exact⟨C,h1,ih.2 _ _ (by simp at hn;omega) h2⟩
   ·cases vs with
    | nil=>simpa [iH] using h
    | cons a as=>
     rw[dB] at h ⊢;have⟨V,Ws,h1,h2,h3⟩:=h;exact⟨V,Ws,h1,ih.1 _ _ (by simp at hn;omega) h2,ih.2 _ _ (by simp at hn;omega) h3⟩
 exact⟨fun v V h=>(key (SizeOf.sizeOf v+1)).1 v V ar h,fun vs Vs h=>(key (SizeOf.sizeOf vs+1)).2 vs Vs ar h⟩
theorem Rv.mono{σ σ':Env}(hs:∀b L,σ b=some L->σ' b=some L){v:AV}{V:Value}(h:Rv P σ v V):Rv P σ' v V:=(aBa hs).1 v V h
theorem iH.mono{σ σ':Env}(hs:∀b L,σ b=some L->σ' b=some L){v:bf}{V:List Value}(h:iH P σ v V):iH P σ' v V:=(aBa hs).2 v V h
theorem aKw(v:Value)(h:aL5 v=true):v.oneCell'=true:=by cases v<;>simp_all [aL5,Value.oneCell']
theorem aCf(s:ByteArray):gH (s.data.toList.map UInt8.toNat)=s/\Bytes (s.data.toList.map UInt8.toNat):=by
 constructor
 ·have⟨⟨l⟩⟩:=s;simp [gH,Function.comp_def]
 ·intro x hx;obtain⟨b,_,rfl⟩:=Dg.1 hx;exact b.toNat_lt
theorem aFE(σ:Env):∀n:Nat,(∀V v,SizeOf.sizeOf V<n->ofValue V=some v->Rv P σ v V)/\(∀Vs vs,SizeOf.sizeOf Vs<n->ofValues Vs=some vs->iH P σ vs Vs):=by
 intro n
 induction n with
 | zero=>exact⟨fun V v h=>absurd h (Bm _),fun V v h=>absurd h (Bm _)⟩
 | succ n ih=>
  refine⟨fun V v hn h=>?_,fun Vs vs hn h=>?_⟩
  ·unfold ofValue at h;split at h
   ·cases h;simp [Rv]
   ·cases h;simp [Rv]
   ·cases h;simp only[Rv];exact⟨by rw[(aCf _).1],(aCf _).2⟩
   ·cases h;simp [Rv]
   ·cases h;simp [Rv]
   ·cases h;simp [Rv]
   ·cases h;simp [Rv]
   ·cases h;simp [Rv]
   ·split at h
    ·rename_i a' b' ha hb;cases h;simp only[Rv];exact⟨_,_,rfl,ih.2 _ _ (by simp at hn;omega) ha,ih.2 _ _ (by simp at hn;omega) hb⟩
    ·cases h
   ·rename_i t w;obtain⟨x,hx,rfl⟩:=Aw.1 h;simp only[Rv];exact⟨w,rfl,ih.1 _ _ (by simp at hn;omega) hx⟩
   ·rename_i cs;rw[Bi] at h;split at h
    ·rename_i hall;obtain⟨x,hx,rfl⟩:=Aw.1 h;simp only[Rv];exact⟨cs,rfl,ih.2 _ _ (by simp at hn;omega) hx,fun v hv=>aKw v (Di.1 hall v hv)⟩
    ·cases h
   ·rename_i cs;obtain⟨x,hx,rfl⟩:=Aw.1 h;simp only[Rv];exact⟨cs,rfl,ih.2 _ _ (by simp at hn;omega) hx⟩
   ·cases h
  ·cases Vs with
   | nil=>simp [ofValues] at h;subst h;simp [iH]
   | cons V Vs=>
    unfold ofValues at h;split at h
    ·rename_i a as ha has;cases h;exact dB.2 ⟨V,Vs,rfl,ih.1 _ _ (by simp at hn;omega) ha,ih.2 _ _ (by simp at hn;omega) has⟩
    ·cases h
theorem aEr{σ:Env}{V:Value}{v:AV}(h:ofValue V=some v):Rv P σ v V:=(aFE σ (SizeOf.sizeOf V+1)).1 V v ar h
theorem aAG{v:AV}{V:Value}{cs:bf}(h:Rv P σ v V)(hc:v.cells=some cs):iH P σ cs V.cells.toList/\(∀u∈V.cells.toList,u.oneCell'=true):=by
 cases v<;>simp only[AV.cells,Ap,reduceCtorEq] at hc<;>subst hc<;>simp only[Rv] at h
 case agg cs=>
  obtain⟨C,rfl,h2,h3⟩:=h;exact⟨h2,h3⟩
 all_goals
  first
   | (subst h;simp [Value.cells,iH,Rv,Value.oneCell'])
   | (obtain⟨rfl,h⟩:=h;simp [Value.cells,iH,Rv,Value.oneCell',h])
   | (obtain⟨x,h,rfl⟩:=h;simp [Value.cells,iH,Rv,Value.oneCell',h])
   | (obtain⟨x,y,rfl⟩:=h;simp [Value.cells,iH,Rv,Value.oneCell'])
   | (obtain⟨x,y,rfl,h,h'⟩:=h;exact⟨dB.2 ⟨_,[],rfl,by simp only[Rv];exact⟨x,y,rfl,h,h'⟩,cS.2 rfl⟩,by simp [Value.cells,Value.oneCell']⟩)
   | (obtain⟨x,rfl,h⟩:=h;simp [Value.cells,iH,Rv,Value.oneCell',h])
   | (obtain⟨x,rfl,rfl,h⟩:=h;simp [Value.cells,iH,Rv,Value.oneCell',h])
end
end Go.Ev
namespace Go.Ev
variable (P:Program)
structure qO(σ:Env)(F:Fr)(tmps:Array Value):Prop where
 get:∀t,Rv P σ (aD t F) (tmps.getD t undef)
def aMY:LSt->LoopState
 | .ready=>.ready
 | .busy=>.busy
 | .done=>.done
 | .exhausted=>.exhausted
def codeOf:Out->Option Code
 | .ret=>some .ret
 | .exit id=>some (.exit id)
 | .normal=>none
def uO(σ:Env):List (AV×AV)->List MapEntry->Prop
 | [],es=>es= []
 | (k,v)::m,es=>∃e es',es=e::es'/\Rv P σ k e.key/\Rv P σ v e.val/\uO σ m es'
def rY(σ:Env)(w:World)(L:Loc):AB->Prop
 | .cells cs o s=>∃Cs,iH P σ cs Cs/\(∀u∈Cs,u.oneCell'=true)/\w.rangeAt L.r L.d Cs/\w.there L.r L.d (Cs.length+if o=true then L.e * s else 0)
 | .ro cs=>∃Cs,iH P σ cs Cs/\(∀u∈Cs,u.oneCell'=true)/\w.rangeAt L.r L.d Cs
 | .map es=>∃ms clock,w.heap[L.r]? =some (.map ms clock)/\uO P σ es ms.toList
 | .loop st pend fr ps as bd=>∃lp:Loop,w.heap[L.r]? =some (.loop lp)/\lp.state=aMY st/\lp.pending=pend.bind codeOf/\qO P σ fr lp.tmps/\
   lp.params.toList=ps/\jG P lp.tmps.size lp.assign=some as/\jG P lp.tmps.size lp.body=some bd/\(∀p∈ps,p<lp.tmps.size)
 | .dfd=>w.heap[L.r]? =some (.deferred (some []))
def wE:AB->Prop
 | .ro _=>False
 | _=>True
structure kT(σ:Env)(S:St)(w:World):Prop where
 blk:∀b bl,S.h.get b=some bl->∃L,σ b=some L/\L.r<w.heap.size/\rY P σ w L bl
 lt:∀b bl,S.h.get b=some bl->b<S.nx
 fresh:∀b,S.nx<=b->σ b=none
 glob:∀g,g<P.globals.size->σ g=some ⟨g,0,0⟩
 inj:∀b b' bl bl' L L',S.h.get b=some bl->S.h.get b'=some bl'->wE bl->b≠b'->σ b=some L->σ b'=some L'->L.r≠L'.r
def Own(σ:Env)(S:St)(r:Nat):Prop:=∃b bl L,S.h.get b=some bl/\wE bl/\σ b=some L/\L.r=r
structure iV(σ:Env)(S:St)(w:World)(σ':Env)(S':St)(w':World):Prop where
 rep:kT P σ' S' w'
 low:∀b,b<S.nx->σ' b=σ b
 nx:S.nx<=S'.nx
 keep:∀r,r<w.heap.size->¬Own σ S r->w'.heap[r]? =w.heap[r]?
 own:∀r,Own σ' S' r->Own σ S r\/w.heap.size<=r
 size:w.heap.size<=w'.heap.size
 os:w'.os=w.os
 tape:w'.tape=w.tape
 output:w'.output=w.output
 ro:∀b cs,S'.h.get b=some (.ro cs)->S.h.get b=some (.ro cs)
section
variable {P}{σ σ':Env}{S S':St}{w w':World}
theorem kT.below(h:kT P σ S w){b:Nat}{L:Loc}(hb:σ b=some L):b<S.nx:=by
 rcases Cx b S.nx with hl | hl
 ·exact hl
 ·rw[h.fresh b hl] at hb;cases hb
theorem iV.mono(h:iV P σ S w σ' S' w')(hr:kT P σ S w):∀b L,σ b=some L->σ' b=some L:=fun b L hb=>by
 rw[h.low b (hr.below hb)];exact hb
theorem iV.refl(h:kT P σ S w):iV P σ S w σ S w:=
 ⟨h,fun _ _=>rfl,Ag _,fun _ _ _=>rfl,fun _ ho=>.inl ho,Ag _,rfl,rfl,rfl,fun _ _ h=>h⟩
theorem iV.trans{σ'':Env}{S'':St}{w'':World}(h:iV P σ S w σ' S' w')(h':iV P σ' S' w' σ'' S'' w''):iV P σ S w σ'' S'' w'' where
 rep:=h'.rep
 low:=fun b hb=>(h'.low b (Ae hb h.nx)).trans (h.low b hb)
 nx:=Al h.nx h'.nx
 keep:=fun r hr ho=>by
  have h1:=h.keep r hr ho;rw[h'.keep r (Ae hr h.size) (fun ho'=>by rcases h.own r ho' with h2 | h2;exact ho h2;omega)];exact h1
 own:=fun r ho=>by
  rcases h'.own r ho with h1 | h1
  ·exact h.own r h1
  ·exact .inr (Al h.size h1)
 size:=Al h.size h'.size
 os:=h'.os.trans h.os
 tape:=h'.tape.trans h.tape
 output:=h'.output.trans h.output
 ro:=fun b cs hb=>h.ro b cs (h'.ro b cs hb)
theorem cell_of_heap{r:Nat}(h:w'.heap[r]? =w.heap[r]?)(o:Nat):w'.cell? ⟨r,o,none⟩=w.cell? ⟨r,o,none⟩:=by
 simp only[World.cell?,h]
theorem frozen_of_heap{r:Nat}(h:w'.heap[r]? =w.heap[r]?)(o:Nat):w'.frozen? ⟨r,o,none⟩=w.frozen? ⟨r,o,none⟩:=by
 simp only[World.frozen?,h]
theorem qO.mono{F:Fr}{tmps:Array Value}(hs:∀b L,σ b=some L->σ' b=some L)(h:qO P σ F tmps):qO P σ' F tmps:=⟨fun t=>(h.get t).mono hs⟩
theorem uO.mono(hs:∀b L,σ b=some L->σ' b=some L):∀ {m:List (AV×AV)} {es:List MapEntry},uO P σ m es->uO P σ' m es
 | [],es,h=>h
 | (k,v)::m,es,h=>by
  have⟨e,es',h1,h2,h3,h4⟩:=h;exact⟨e,es',h1,h2.mono hs,h3.mono hs,h4.mono hs⟩
theorem rY.frame{L:Loc}{bl:AB}(hs:∀b L,σ b=some L->σ' b=some L)(hh:w'.heap[L.r]? =w.heap[L.r]?)(h:rY P σ w L bl):rY P σ' w' L bl:=by
 cases bl with
 | cells cs o s=>
  have⟨Cs,h1,h2,h3,h4⟩:=h;exact⟨Cs,h1.mono hs,h2,fun j v hv=>by rw[cell_of_heap hh];exact h3 j v hv,fun j hj=>by rw[cell_of_heap hh,frozen_of_heap hh];exact h4 j hj⟩
 | ro cs=>
  have⟨Cs,h1,h2,h3⟩:=h;exact⟨Cs,h1.mono hs,h2,fun j v hv=>by rw[cell_of_heap hh];exact h3 j v hv⟩
 | map es=>
  have⟨ms,c,h1,h2⟩:=h;exact⟨ms,c,by rw[hh];exact h1,h2.mono hs⟩
 | loop st pend fr ps as bd=>
  have⟨lp,h1,h2,h3,h4,h5⟩:=h;exact⟨lp,by rw[hh];exact h1,h2,h3,h4.mono hs,h5⟩
 | dfd=>exact hh.trans h
theorem iV.heap(h:kT P σ S w)(hh:w'.heap=w.heap)(ho:w'.os=w.os)(ht:w'.tape=w.tape)(hu:w'.output=w.output):iV P σ S w σ S w' where
 rep:=⟨fun b bl hb=>by
  have⟨L,h1,h2,h3⟩:=h.blk b bl hb;exact⟨L,h1,by rw[hh];exact h2,h3.frame (fun _ _ x=>x) (by rw[hh])⟩,h.lt,h.fresh,h.glob,h.inj⟩
 low:=fun _ _=>rfl
 nx:=Ag _
 keep:=fun r _ _=>by rw[hh]
 own:=fun _ ho=>.inl ho
 size:=by rw[hh];exact Ag _
 os:=ho
 tape:=ht
 output:=hu
 ro:=fun _ _ hb=>hb
def upd(σ:Env)(b:Nat)(L:Loc):Env:=fun c=>if c=b then some L else σ c
theorem upd_same(b:Nat)(L:Loc):upd σ b L b=some L:=by simp [upd]
theorem eG{b c:Nat}(L:Loc)(h:c≠b):upd σ b L c=σ c:=by simp [upd,h]
theorem fX{b:Nat}{L:Loc}(hb:σ b=none):∀c M,σ c=some M->upd σ b L c=some M:=fun c M hc=>by
 rw[eG L (fun e=>by subst e;rw[hb] at hc;cases hc)];exact hc
theorem iV.alloc(h:kT P σ S w){ob:Obj}{bl:AB}{e:Nat}(hw:w'.heap=w.heap.push ob)(ho:w'.os=w.os)(ht:w'.tape=w.tape)(hu:w'.output=w.output)
  (hb:rY P (upd σ S.nx ⟨w.heap.size,0,e⟩) w' ⟨w.heap.size,0,e⟩ bl) (hr:wE bl):
  iV P σ S w (upd σ S.nx ⟨w.heap.size,0,e⟩) ⟨S.h.set S.nx (some bl),Nat.succ S.nx⟩ w':=by
 have hold:∀r,r<w.heap.size->w'.heap[r]? =w.heap[r]? :=fun r hr=>by rw[hw,Array.getElem?_push,if_neg ar]
 have hsz:w'.heap.size=w.heap.size+1:=by rw[hw];simp
 have hf:=h.fresh S.nx (Ag _);refine⟨⟨fun b bl' hb'=>?_,fun b bl' hb'=>?_,fun b hb'=>?_,fun g hg=>fX hf _ _ (h.glob g hg),?_⟩,fun b hb'=>eG _ ar,Nat.le_succ _,fun r hr _=>hold r hr,fun r hr=>?_,ar,ho,ht,hu,fun b cs hb'=>?_⟩
 ·rw[T.get_set] at hb';split at hb'
  ·rename_i e;subst e;cases hb';exact⟨_,upd_same _ _,by simp only;omega,hb⟩
  ·rename_i hne;have⟨L,h1,h2,h3⟩:=h.blk b bl' hb';exact⟨L,fX hf _ _ h1,ar,h3.frame (fX hf) (hold _ h2)⟩
 ·rw[T.get_set] at hb';split at hb'
  ·rename_i e;subst e;exact Dj _
  ·exact Nat.lt_succ_of_lt (h.lt b bl' hb')
 ·have:b≠S.nx:=by simp only at hb';omega
  rw[eG _ this];exact h.fresh b (by simp only at hb';omega)
 ·intro b b' bl1 bl2 L L' hb1 hb2 ho1 hne hL hL';simp only at hb1 hb2;rw[T.get_set] at hb1 hb2;split at hb1
  ·rename_i e;subst e;rw[if_neg (Bt hne)] at hb2;rw[upd_same] at hL;cases hL;rw[eG _ (Bt hne)] at hL';have⟨M,h1,h2,_⟩:=h.blk b' bl2 hb2;rw[h1] at hL';cases hL';simp only;omega
  ·rename_i hne1;rw[eG _ hne1] at hL;have⟨M,h1,h2,_⟩:=h.blk b bl1 hb1;rw[h1] at hL;cases hL;split at hb2
   ·rename_i e;subst e;rw[upd_same] at hL';cases hL';simp only;omega
   ·rename_i hne2;rw[eG _ hne2] at hL';exact h.inj b b' bl1 bl2 _ _ hb1 hb2 ho1 hne h1 hL'
 ·obtain⟨b,bl',L,h1,h2,h3,rfl⟩:=hr;simp only at h1;rw[T.get_set] at h1;split at h1
  ·rename_i e;subst e;rw[upd_same] at h3;cases h3;exact .inr (Ag _)
  ·rename_i hne;rw[eG _ hne] at h3;exact .inl ⟨b,bl',L,h1,h2,h3,rfl⟩
 ·simp only at hb';rw[T.get_set] at hb';split at hb'
  ·cases hb';exact hr.elim
  ·exact hb'
theorem iV.write(h:kT P σ S w){b:Nat}{bl bl':AB}{L:Loc}(hb:S.h.get b=some bl)(hown:wE bl)(hown':wE bl')(hL:σ b=some L)
  (hh:∀r,r≠L.r->w'.heap[r]? =w.heap[r]?) (hsz:w'.heap.size=w.heap.size) (ho:w'.os=w.os) (ht:w'.tape=w.tape) (hu:w'.output=w.output)
  (hr:rY P σ w' L bl'):iV P σ S w σ ⟨S.h.set b (some bl'),S.nx⟩ w':=by
 refine⟨⟨fun c bl1 hc=>?_,fun c bl1 hc=>?_,h.fresh,h.glob,?_⟩,fun _ _=>rfl,Ag _,fun r _ hr'=>hh r (fun e=>hr' ⟨b,bl,L,hb,hown,hL,e.symm⟩),fun r hr'=>?_,ar,ho,ht,hu,fun c cs hc=>?_⟩
 ·simp only at hc;rw[T.get_set] at hc;have⟨M,h1,h2,_⟩:=h.blk b bl hb;rw[hL] at h1;cases h1;split at hc
  ·rename_i e;subst e;cases hc;exact⟨L,hL,ar,hr⟩
  ·rename_i hne;have⟨M,h1,h3,h4⟩:=h.blk c bl1 hc;exact⟨M,h1,ar,h4.frame (fun _ _ x=>x) (hh _ (Bt (h.inj b c bl bl1 L M hb hc hown (Bt hne) hL h1)))⟩
 ·simp only at hc;rw[T.get_set] at hc;split at hc
  ·rename_i e;subst e;exact h.lt c bl hb
  ·exact h.lt c bl1 hc
 ·intro c c' bl1 bl2 L1 L2 h1 h2 ho1 hne hL1 hL2;simp only at h1 h2;rw[T.get_set] at h1 h2;split at h1
  ·rename_i e;subst e;rw[if_neg (Bt hne)] at h2;exact h.inj c c' bl bl2 _ _ hb h2 hown hne hL1 hL2
  ·split at h2
   ·rename_i e;subst e;rw[hL] at hL2;cases hL2;exact(h.inj c' c bl bl1 _ _ hb h1 hown (Bt hne) hL hL1).symm
   ·exact h.inj c c' bl1 bl2 _ _ h1 h2 ho1 hne hL1 hL2
 ·obtain⟨c,bl1,M,h1,h2,h3,rfl⟩:=hr';simp only at h1;rw[T.get_set] at h1;split at h1
  ·rename_i e;subst e;exact .inl ⟨c,bl,M,hb,hown,h3,rfl⟩
  ·exact .inl ⟨c,bl1,M,h1,h2,h3,rfl⟩
 ·simp only at hc;rw[T.get_set] at hc;split at hc
  ·cases hc;exact hown'.elim
  ·exact hc
theorem iV.drop(h:kT P σ S w)(b:Nat):iV P σ S w σ ⟨S.h.set b none,S.nx⟩ w:=by
 have key:∀c bl,(S.h.set b none).get c=some bl->S.h.get c=some bl:=fun c bl hc=>by
  rw[T.get_set] at hc;split at hc
  ·cases hc
  ·exact hc
 refine⟨⟨fun c bl hc=>h.blk c bl (key c bl hc),fun c bl hc=>h.lt c bl (key c bl hc),h.fresh,h.glob,fun c c' bl1 bl2 L1 L2 h1 h2=>h.inj c c' bl1 bl2 L1 L2 (key _ _ h1) (key _ _ h2)⟩,
  fun _ _=>rfl,Ag _,fun _ _ _=>rfl,fun r ⟨c,bl,L,h1,h2⟩=>.inl ⟨c,bl,L,key _ _ h1,h2⟩,Ag _,rfl,rfl,rfl,fun c cs hc=>key _ _ hc⟩
theorem iV.rename(h:kT P σ S w){b:Nat}{bl bl':AB}{L L':Loc}(hb:S.h.get b=some bl)(hown:wE bl)(hown':wE bl')(hL:σ b=some L)(hr':L'.r=L.r)
  (hh:∀r,r≠L.r->w'.heap[r]? =w.heap[r]?) (hsz:w'.heap.size=w.heap.size) (ho:w'.os=w.os) (ht:w'.tape=w.tape) (hu:w'.output=w.output)
  (hr:rY P (upd σ S.nx L') w' L' bl'):iV P σ S w (upd σ S.nx L') ⟨(S.h.set b none).set S.nx (some bl'),Nat.succ S.nx⟩ w':=by
 have hf:=h.fresh S.nx (Ag _);have hlt:=h.lt b bl hb;have⟨M,hM1,hM2,_⟩:=h.blk b bl hb;rw[hL] at hM1;cases hM1;have key:∀c bl1,((S.h.set b none).set S.nx (some bl')).get c=some bl1->(c=S.nx/\bl1=bl')\/(c≠S.nx/\c≠b/\S.h.get c=some bl1):=fun c bl1 hc=>by
  rw[T.get_set,T.get_set] at hc;split at hc
  ·cases hc;exact .inl ⟨‹_›,rfl⟩
  ·split at hc
   ·cases hc
   ·exact .inr ⟨‹_›, ‹_›,hc⟩
 refine⟨⟨fun c bl1 hc=>?_,fun c bl1 hc=>?_,fun c hc=>?_,fun g hg=>fX hf _ _ (h.glob g hg),?_⟩,fun c hc=>eG _ ar,Nat.le_succ _,fun r _ hr1=>hh r (fun e=>hr1 ⟨b,bl,L,hb,hown,hL,e.symm⟩),fun r hr1=>?_,ar,ho,ht,hu,fun c cs hc=>?_⟩
 ·rcases key c bl1 hc with⟨rfl,rfl⟩ | ⟨h1,h2,h3⟩
  ·exact⟨L',upd_same _ _,ar,hr⟩
  ·have⟨M,h4,h5,h6⟩:=h.blk c bl1 h3;exact⟨M,fX hf _ _ h4,ar,h6.frame (fX hf) (hh _ (Bt (h.inj b c bl bl1 L M hb h3 hown (Bt h2) hL h4)))⟩
 ·rcases key c bl1 hc with⟨rfl,rfl⟩ | ⟨h1,h2,h3⟩
  ·exact Dj _
  ·exact Nat.lt_succ_of_lt (h.lt c bl1 h3)
 ·have:c≠S.nx:=by simp only at hc;omega
  rw[eG _ this];exact h.fresh c (by simp only at hc;omega)
 ·intro c c' bl1 bl2 L1 L2 h1 h2 ho1 hne hL1 hL2;rcases key c bl1 h1 with⟨rfl,rfl⟩ | ⟨a1,a2,a3⟩<;>rcases key c' bl2 h2 with⟨rfl,rfl⟩ | ⟨b1,b2,b3⟩
  ·exact absurd rfl hne
  ·rw[upd_same] at hL1;cases hL1;rw[eG _ b1] at hL2;rw[hr'];exact h.inj b c' bl bl2 _ _ hb b3 hown (Bt b2) hL hL2
  ·rw[upd_same] at hL2;cases hL2;rw[eG _ a1] at hL1;rw[hr'];exact(h.inj b c bl bl1 _ _ hb a3 hown (Bt a2) hL hL1).symm
  ·rw[eG _ a1] at hL1;rw[eG _ b1] at hL2;exact h.inj c c' bl1 bl2 _ _ a3 b3 ho1 hne hL1 hL2
 ·obtain⟨c,bl1,M,h1,h2,h3,rfl⟩:=hr1;rcases key c bl1 h1 with⟨rfl,rfl⟩ | ⟨a1,a2,a3⟩
  ·rw[upd_same] at h3;cases h3;exact .inl ⟨b,bl,L,hb,hown,hL,hr'.symm⟩
  ·rw[eG _ a1] at h3;exact .inl ⟨c,bl1,M,a3,h2,h3,rfl⟩
 ·rcases key c _ hc with⟨rfl,h1⟩ | ⟨a1,a2,a3⟩
  ·subst h1;exact hown'.elim
  ·exact a3
end
end Go.Ev
namespace Go.Ev
variable {P:Program}{σ:Env}{S:St}{w:World}
theorem cL{F:Fr}{a:Act}(hF:qO P σ F a.tmps)(hR:kT P σ S w){x:Operand}{X:cO}(h:iB P x=some X):Rv P σ (X.val F) (a.eval x):=by
 cases x with
 | tmp t=>simp only[iB,Ap] at h;subst h;exact hF.get t
 | const v=>
  simp only[iB,Aw] at h;obtain⟨y,hy,rfl⟩:=h;exact aEr hy
 | global g=>
  simp only[iB,Bi] at h;split at h
  ·rename_i hg;cases h;show Rv P σ (.ptr g 0) _;simp only[Rv];have hlt:g<P.globals.size:=Bd hg;exact⟨_,hR.glob g hlt,rfl⟩
  ·cases h
 | func f=>
  simp only[iB,Ap] at h;subst h;show Rv P σ (.fn f [] []) _;simp only[Rv];exact⟨[],[],rfl,cS.2 rfl,cS.2 rfl⟩
theorem iZ(x:cO)(xs:List cO)(F:Fr):dG (x::xs) F=x.val F::dG xs F:=rfl
theorem oN{F:Fr}{a:Act}(hF:qO P σ F a.tmps)(hR:kT P σ S w):∀ {xs:List Operand} {Xs:List cO},aAW P xs=some Xs->iH P σ (dG Xs F) (xs.map a.eval)
 | [],Xs,h=>by simp only[aAW,Ap] at h;subst h;exact cS.2 rfl
 | x::xs,Xs,h=>by
  simp only[aAW] at h;split at h
  ·rename_i y ys hy hys;cases h;rw[iZ,Dc];exact dB.2 ⟨_,_,rfl,cL hF hR hy,oN hF hR hys⟩
  ·cases h
theorem aB1{t:TypeId}{agg:Bool}{n:Nat}(h:aCI P t=some (agg,n)):∃d i,P.underlying t=some d/\P.info? t=some i/\i.size=n/\d.isRow=agg:=by
 unfold aCI at h;split at h
 ·rename_i i hu hi;cases h;exact⟨_,i,hu,hi,rfl,rfl⟩
 ·rename_i i hu hi;cases h;exact⟨_,i,hu,hi,rfl,rfl⟩
 ·rename_i d i hn1 hn2 hu hi;cases h;refine⟨d,i,hu,hi,rfl,?_⟩;cases d<;>simp_all [TypeDesc.isRow]
 ·cases h
theorem aAH{b:Nat}{cs:bf}(hR:kT P σ S w)(h:cK S.h b=some cs):
  ∃L Cs,σ b=some L/\iH P σ cs Cs/\(∀u∈Cs,u.oneCell'=true)/\w.rangeAt L.r L.d Cs:=by
 have⟨bl,h1,h2⟩:=aO h;have⟨L,hL,_,hb⟩:=hR.blk b bl h1;cases bl<;>simp only[lR,Ap,reduceCtorEq] at h2
 ·subst h2;have⟨Cs,h3,h4,h5,_⟩:=hb;exact⟨L,Cs,hL,h3,h4,h5⟩
 ·subst h2;have⟨Cs,h3,h4,h5⟩:=hb;exact⟨L,Cs,hL,h3,h4,h5⟩
theorem aE6{r d i n:Nat}{Cs:List Value}(h:w.rangeAt r d Cs):w.rangeAt r (d+i) ((Cs.drop i).take n):=fun j v hv=>by
 have hj:j<n:=by
  rcases Cx j n with h1 | h1
  ·exact h1
  ·rw[Cd (by rw[Ca];omega)] at hv;cases hv
 rw[Em hj,Fd] at hv;rw[Cq];exact h _ v hv
theorem aDL{b off n:Nat}{cs:bf}(hR:kT P σ S w)(h:aAF S.h b off n=some cs):
  ∃L Cs,σ b=some L/\iH P σ cs Cs/\Cs.length=n/\(∀u∈Cs,u.oneCell'=true)/\w.rangeAt L.r (L.d+off) Cs:=by
 have⟨l,h1,h2⟩:=aO h;have⟨L,Cs,hL,h3,h4,h5⟩:=aAH hR h1;have:=h3.cut h2;exact⟨L,_,hL,this.1,this.2,fun u hu=>h4 u (Ex (Ea hu)),aE6 h5⟩
theorem aIW{b off:Nat}{v:AV}(hR:kT P σ S w)(h:lK S.h b off=some v):
  ∃L V,σ b=some L/\Rv P σ v V/\w.cell? ⟨L.r,L.d+off,none⟩=some V:=by
 have⟨l,h1,h2⟩:=aO h;rw[pZ] at h2;have⟨L,Cs,hL,h3,_,h5⟩:=aAH hR h1;have⟨V,hV,hr⟩:=h3.get h2;exact⟨L,V,hL,hr,h5 _ _ hV⟩
theorem aCi{t:TypeId}{agg:Bool}{n:Nat}(ht:aCI P t=some (agg,n))(hR:kT P σ S w){b off:Nat}{v:AV}(hv:pS agg n S.h b off=some v):
  ∃L V,σ b=some L/\(loadVar t ⟨L.r,L.d+off,none⟩).run P w= .ok V w/\Rv P σ v V:=by
 have⟨d,i,hu,hi,hn,hd⟩:=aB1 ht;unfold pS at hv;cases agg with
 | true=>
  rw[aR] at hv;have⟨cs,h1,h2⟩:=aO hv;cases h2;have⟨L,Cs,hL,h3,h4,h5,h6⟩:=aDL hR h1;refine⟨L,_,hL,run_loadVar_mid w L.r (L.d+off) t Cs d h6 hu hd (by rw[hi];simp [hn,h4]),?_⟩;simp only[Rv];exact⟨Cs,rfl,h3,h5⟩
 | false=>
  rw[bB] at hv;have⟨L,V,hL,h1,h2⟩:=aIW hR hv;refine⟨L,V,hL,?_,h1⟩;have hna:(isAgg t).run P w= .ok false w:=by
   simp only[isAgg,Sem.run_bind,run_underlying hu,Result.andThen_ok];cases d<;>simp_all [TypeDesc.isRow]
  simp [loadVar,hna,h2]
theorem aJ8{t:TypeId}{agg:Bool}{n:Nat}(ht:aCI P t=some (agg,n))(hR:kT P σ S w){x:AV}{X:Value}(hx:Rv P σ x X){v:AV}(hv:dT x agg n S.h=some v):
  ∃V,(Instr.loadAt t X).run P w= .ok V w/\Rv P σ v V:=by
 cases x<;>simp only[dT,reduceCtorEq] at hv;simp only[Rv] at hx;obtain⟨L,hL,rfl⟩:=hx;have⟨L',V,hL',h1,h2⟩:=aCi ht hR hv;rw[hL] at hL';cases hL';exact⟨V,by simp [Instr.loadAt,Instr.sureAddr,h1],h2⟩
theorem aCZ{k:IntKind}{n:Int}(h1:k.min<=n)(h2:n<=k.max):k.wrap n=n:=by
 cases k<;>simp only[IntKind.min,IntKind.max,IntKind.wrap,IntKind.signed,IntKind.bits] at * <;>simp at * <;>(try split)<;>omega
theorem nat_eq(k:IntKind)(n:Nat):nat k n=k.wrap (Int.ofNat n):=by
 unfold nat;rw[cN];split
 ·rename_i h;rw[Ff] at h;rw[aCZ]
  ·cases k<;>simp [IntKind.min,IntKind.signed,IntKind.bits]<;>omega
  ·cases k<;>simp only[pW,IntKind.max,IntKind.signed,IntKind.bits] at * <;>simp<;>omega
 ·rfl
theorem aGi(k:IntKind)(n:Nat):neg k n=k.wrap (Int.negSucc n):=by
 unfold neg;rw[cN];split
 ·rename_i hs;rw[cN];split
  ·rename_i h;rw[Ff] at h;rw[aCZ]
   ·cases k<;>simp only[aDm,pW,Bc] at * <;>simp only[IntKind.min,IntKind.signed,IntKind.bits]<;>simp<;>omega
   ·cases k<;>simp only[aDm,pW,Bc] at * <;>simp only[IntKind.max,IntKind.signed,IntKind.bits]<;>simp<;>omega
  ·rfl
 ·rfl
theorem aAE(k:IntKind)(n:Int):aEZ k n=k.wrap n:=by
 cases n with
 | ofNat m=>exact nat_eq k m
 | negSucc m=>exact aGi k m
theorem yU(k:IntKind)(a b:Nat):aBF k a b=k.wrap ((a:Int) - b):=by
 unfold aBF;rw[cN];split
 ·rename_i h;rw[Ff] at h;rw[nat_eq];congr 1;show((a - b:Nat):Int)=_;omega
 ·rename_i h;rw[Ff] at h;rw[aGi];congr 1;show Int.negSucc (b - a - 1)=_;omega
theorem aHK(k:IntKind)(x y:Int):aMu k x y=k.wrap (x+y):=by
 cases x with
 | ofNat a=>cases y with
  | ofNat b=>exact nat_eq k _
  | negSucc b=>exact(yU k a (b+1)).trans (by congr 1)
 | negSucc a=>cases y with
  | ofNat b=>exact(yU k b (a+1)).trans (by congr 1)
  | negSucc b=>exact(aGi k _).trans (by congr 1)
theorem aDZ(k:IntKind)(x y:Int):aJC k x y=k.wrap (x - y):=by
 cases x with
 | ofNat a=>cases y with
  | ofNat b=>exact yU k a b
  | negSucc b=>exact(nat_eq k _).trans (by congr 1)
 | negSucc a=>cases y with
  | ofNat b=>exact(aGi k _).trans (by congr 1;show Int.negSucc (a+b)=Int.negSucc a - (b:Int);omega)
  | negSucc b=>exact(yU k b a).trans (by congr 1;omega)
theorem aDC(k:IntKind)(x y:Int):aJy k x y=k.wrap (x * y):=by
 cases x with
 | ofNat a=>cases y with
  | ofNat b=>exact nat_eq k _
  | negSucc b=>exact aAE k _
 | negSucc a=>exact aAE k _
theorem jP(x y:Int):ieq x y=(x==y):=by
 cases x with
 | ofNat a=>cases y with
  | ofNat b=>show Nat.beq a b=_;rw[Cl];simp only[Bj,beq_iff_eq];exact⟨fun h=>by rw[h],fun h=>Int.ofNat.inj h⟩
  | negSucc b=>show false=_;symm;simp
 | negSucc a=>cases y with
  | ofNat b=>show false=_;symm;simp
  | negSucc b=>show Nat.beq a b=_;rw[Cl];simp [Bj]
theorem pX(x y:Int):ile x y=decide (x<=y):=by
 cases x with
 | ofNat a=>cases y with
  | ofNat b=>show Nat.ble a b=_;rw[Cl];simp [Ff]
  | negSucc b=>show false=_;symm;simp;omega
 | negSucc a=>cases y with
  | ofNat b=>show true=_;symm;simp;omega
  | negSucc b=>show Nat.ble b a=_;rw[Cl];simp [Ff];omega
theorem aAt{x y:IntKind}(h:keq x y=true):x=y:=by
 cases x<;>cases y<;>first | rfl | (exact absurd h ay)
theorem fL(x:IntKind):keq x x=true:=by cases x<;>rfl
theorem vC(x y:Bool):aLg x y=(x==y):=by cases x<;>cases y<;>rfl
theorem tB(b:Bool):bQ b false true= !b:=by cases b<;>rfl
end Go.Ev
namespace Go.Ev
variable {P:Program}{σ:Env}{S:St}{w:World}
theorem aA2(op:BinOp):iK op=true↔op= .shl\/op= .shr:=by cases op<;>simp [iK]
theorem aH6{op:BinOp}{k k':IntKind}{a b:Int}{v:AV}(hs:iK op=true)(h:aAX op k a b=some v):
  ∃V,(Op.shift op k a k' b).run P w= .ok V w/\Rv P σ v V:=by
 cases b with
 | negSucc m=>simp [aAX] at h
 | ofNat m=>
  simp only[aAX,aMq] at h;have hm:bQ (Nat.ble m k.bits) m k.bits=min m k.bits:=by
   rw[cN];split
   ·rename_i h1;rw[Ff] at h1;omega
   ·rename_i h1;rw[Ff] at h1;omega
  rw[hm] at h;have h0:¬ (Int.ofNat m<0):=by simp
  rcases(aA2 op).1 hs with rfl | rfl
  ·simp only[Ap] at h;subst h;refine⟨_,by simp only[Op.shift,if_neg h0];rfl,?_⟩;simp only[Rv,aDC];congr 2
  ·simp only[Ap] at h;subst h;refine⟨_,by simp only[Op.shift,if_neg h0];rfl,?_⟩;simp only[Rv];congr 2
theorem aKI{op:BinOp}{t:TypeId}{k:IntKind}{a b:Int}{v:AV}(hs:iK op=false)(h:aLr op k a b=some v):
  ∃V,(binOp op t (.int k a) (.int k b)).run P w= .ok V w/\Rv P σ v V:=by
 cases op
 case add=>cases h;exact⟨_,by rw[binOp_add];rfl,by simp only[Rv,aHK]⟩
 case sub=>cases h;exact⟨_,by rw[binOp_sub];rfl,by simp only[Rv,aDZ]⟩
 case mul=>cases h;exact⟨_,by rw[binOp_mul];rfl,by simp only[Rv,aDC]⟩
 case quo=>cases h
 case rem=>cases h
 case and=>cases h
 case or=>cases h
 case xor=>cases h
 case shl=>simp [iK] at hs
 case shr=>simp [iK] at hs
 case andNot=>cases h
 case eql=>cases h;exact⟨_,by simp only[binOp,ne_eq,Ct,Eg,Op.intCmp];rfl,by simp only[Rv,jP]⟩
 case neq=>cases h;exact⟨_,by simp only[binOp,ne_eq,Ct,Eg,Op.intCmp];rfl,by simp only[Rv,jP,tB];rfl⟩
 case lss=>
  cases h;refine⟨_,by simp only[binOp,ne_eq,Ct,Eg,Op.intCmp];rfl,?_⟩;simp only[Rv,pX,tB];congr 1;rw[Cl];simp
 case leq=>cases h;exact⟨_,by simp only[binOp,ne_eq,Ct,Eg,Op.intCmp];rfl,by simp only[Rv,pX]⟩
 case gtr=>
  cases h;refine⟨_,by simp only[binOp,ne_eq,Ct,Eg,Op.intCmp];rfl,?_⟩;simp only[Rv,pX,tB];congr 1;rw[Cl];simp
 case geq=>cases h;exact⟨_,by simp only[binOp,ne_eq,Ct,Eg,Op.intCmp];rfl,by simp only[Rv,pX]⟩
theorem aIJ{op:BinOp}{t:TypeId}{k k':IntKind}{a b:Int}{v:AV}(h:fM op k a k' b=some v):
  ∃V,(binOp op t (.int k a) (.int k' b)).run P w= .ok V w/\Rv P σ v V:=by
 unfold fM at h;cases hs:iK op
 ·rw[hs,bB] at h;have⟨h1,h2⟩:=cH h;have:=aAt h1;subst this;exact aKI hs h2
 ·rw[hs,aR] at h;have⟨V,h1,h2⟩:=aH6 (P:=P) (σ:=σ) (w:=w) (k':=k') hs h;refine⟨V,?_,h2⟩;rcases(aA2 op).1 hs with rfl | rfl<;>exact h1
theorem aCR{x:Nat}(h:x<256):(UInt8.ofNat x).toNat=x:=by
 rw[UInt8.toNat_ofNat'];exact Nat.mod_eq_of_lt h
theorem aHs:∀ {a b:bg},Bytes a->Bytes b->(oG a b=true↔gH a=gH b):=by
 have inj:∀ {a b:bg},Bytes a->Bytes b->gH a=gH b->a=b:=fun {a b} ha hb h=>by
  have h1:a.map UInt8.ofNat=b.map UInt8.ofNat:=by
   have:=Fg (fun s:ByteArray=>s.data.toList) h;simpa [gH] using this
  have h2:=Fg (List.map UInt8.toNat) h1;rw[List.map_map,List.map_map] at h2;have e:∀l:bg,Bytes l->l.map (UInt8.toNat ∘ UInt8.ofNat)=l:=fun l hl=>by
   conv=>rhs;rw[<-List.map_id l]
   exact Ej fun x hx=>aCR (hl x hx)
  rw[e a ha,e b hb] at h2;exact h2
 have eqv:∀a b:bg,oG a b=true↔a=b:=by
  intro a
  induction a with
  | nil=>intro b;cases b<;>simp [oG]
  | cons x a ih=>
   intro b;cases b with
   | nil=>simp [oG]
   | cons y b=>
    simp only[oG,cN];split
    ·rename_i h;rw[Bj] at h;subst h;simp [ih]
    ·rename_i h;rw[Bj] at h;simp [h]
 intro a b ha hb;rw[eqv];exact⟨fun h=>by rw[h],inj ha hb⟩
theorem sH(a:bg):(gH a).toList=a.map UInt8.ofNat:=by
 exact ByteArray.toList_mk _
theorem rK(a:bg):(gH a).size=a.length:=by simp [gH,ByteArray.size]
theorem aFF(a b:bg):gH (a++b)=gH a++gH b:=by
 apply ByteArray.ext;rw[ByteArray.data_append];simp [gH]
end Go.Ev
