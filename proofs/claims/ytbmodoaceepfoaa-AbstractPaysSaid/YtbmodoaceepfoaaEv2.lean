import Derived.Test.YtbmodoaceepfoaaEv1
import Derived.Deep.MidRow
import Derived.Deep.AppendSrc
import Derived.Below
import Derived.Calls
import Derived.Laws.Entries
import Derived.Laws.Strings
import Derived.Lib.Split
set_option linter.all false
namespace Go.Ev
def aL{α:Sort _}(a b:α):bX true a b=a:=rfl
def aR{α:Sort _}(a b:α):bX false a b=b:=rfl
def cS{α:Sort _}(c:Bool)(a b:α):bX c a b=if c=true then a else b:=by cases c<;>simp [bX]
def vD{α a:Type}(f:α->Option a):bD none f=none:=rfl
def aH{α b:Type}(a:α)(f:α->Option b):bD (some a) f=f a:=rfl
def aO{α c:Type}{x:Option α}{f:α->Option c}{b:c}(h:bD x f=some b):∃a,x=some a/\f a=some b:=by
 cases x with
 | none=>simp [vD] at h
 | some a=>exact⟨a,rfl,h⟩
def cH{α:Type}{c:Bool}{a:Option α}{r:α}(h:bX c a none=some r):c=true/\a=some r:=by
 cases c
 .simp [aR] at h
 .exact⟨rfl,h⟩
namespace T
variable {α:Type}
def get_e(k:Nat):(T.e:T α).get k=none:=rfl
def aBG(l r:T α)(v:Option α)(k:Nat):(T.n l v r).get k=if k=0 then v else if k % 2=1 then l.get (k / 2) else r.get (k / 2 - 1):=by
 show bX (Nat.beq k 0) v (bX (Nat.beq (Nat.mod k 2) 1) (l.get (Nat.div k 2)) (r.get (Nat.sub (Nat.div k 2) 1)))=_;rw[cS,cS];simp only[Bn];rfl
def aUa(k:Nat)(x:Option α):(T.e:T α).set k x=single (k+1) k x:=rfl
def aUC(l r:T α)(v:Option α)(k:Nat)(x:Option α):
  (T.n l v r).set k x=if k=0 then .n l x r else if k % 2=1 then .n (l.set (k / 2) x) v r else .n l v (r.set (k / 2 - 1) x):=by
 show bX (Nat.beq k 0) (T.n l x r) (bX (Nat.beq (Nat.mod k 2) 1) (T.n (l.set (Nat.div k 2) x) v r) (T.n l v (r.set (Nat.sub (Nat.div k 2) 1) x)))=_;rw[cS,cS];simp only[Bn];rfl
def aIE(f k:Nat)(x:Option α):single (f+1) k x=if k=0 then .n .e x .e else if k % 2=1 then .n (single f (k / 2) x) none .e else .n .e none (single f (k / 2 - 1) x):=by
 show bX (Nat.beq k 0) (T.n .e x .e) (bX (Nat.beq (Nat.mod k 2) 1) (T.n (single f (Nat.div k 2) x) none .e) (T.n .e none (single f (Nat.sub (Nat.div k 2) 1) x)))=_;rw[cS,cS];simp only[Bn];rfl
def aAU(x:Option α):∀ (f k j:Nat),k<f->(single f k x).get j=if j=k then x else none
 | 0,k,j,h=>by omega
 | f+1,k,j,h=>by
  rw[aIE];by_cases c:k=0
  .subst c;simp only[Fc];rw[aBG];by_cases a:j=0<;>simp [a,get_e]
  .rw[if_neg c];by_cases d:k % 2=1
   .rw[if_pos d,aBG];by_cases a:j=0
    .subst a;rw[if_pos rfl,if_neg au]
    .rw[if_neg a];by_cases b:j % 2=1
     .rw[if_pos b,aAU x f (k / 2) (j / 2) au];by_cases e:j=k
      .subst e;simp
      .rw[if_neg e,if_neg au]
     .rw[if_neg b,get_e,if_neg au]
   .rw[if_neg d,aBG];by_cases a:j=0
    .subst a;rw[if_pos rfl,if_neg au]
    .rw[if_neg a];by_cases b:j % 2=1
     .rw[if_pos b,get_e,if_neg au]
     .rw[if_neg b,aAU x f (k / 2 - 1) (j / 2 - 1) au];by_cases e:j=k
      .subst e;simp
      .rw[if_neg e,if_neg au]
def get_set(x:Option α):∀ (t:T α) (k j:Nat),(t.set k x).get j=if j=k then x else t.get j
 | .e,k,j=>by
  rw[aUa,aAU x (k+1) k j au,get_e]
 | .n l v r,k,j=>by
  rw[aUC];by_cases c:k=0
  .subst c;simp only[Fc];rw[aBG,aBG];by_cases a:j=0<;>simp [a]
  .rw[if_neg c];by_cases d:k % 2=1
   .rw[if_pos d,aBG,aBG];by_cases a:j=0
    .subst a;simp only[Fc];rw[if_neg au]
    .rw[if_neg a,if_neg a];by_cases b:j % 2=1
     .rw[if_pos b,if_pos b,get_set x l (k / 2) (j / 2)];by_cases e:j=k
      .subst e;simp
      .rw[if_neg e,if_neg au]
     .rw[if_neg b,if_neg b,if_neg au]
   .rw[if_neg d,aBG,aBG];by_cases a:j=0
    .subst a;simp only[Fc];rw[if_neg au]
    .rw[if_neg a,if_neg a];by_cases b:j % 2=1
     .rw[if_pos b,if_pos b,if_neg au]
     .rw[if_neg b,if_neg b,get_set x r (k / 2 - 1) (j / 2 - 1)];by_cases e:j=k
      .subst e;simp
      .rw[if_neg e,if_neg au]
end T
section
variable {α:Type}
def qU:∀ (l:List α) (k:Nat),nth l k=l[k]?
 | [],k=>by simp [nth]
 | x::a,k=>by
  show bX (Nat.beq k 0) (some x) (nth a (Nat.sub k 1))=_;rw[cS];simp only[Bn];cases k with
  | zero=>simp
  | succ k=>rw[if_neg au];show nth a (k+1 - 1)=_;rw[Ez,qU a k];simp
def gJ:∀ (l:List α),mF l=l.length
 | []=>rfl
 | _::a=>by show Nat.succ (mF a)=_;rw[gJ a];rfl
def fT:∀ (l m:List α),yQ l m=l++m
 | [],m=>rfl
 | x::a,m=>by show x::yQ a m=_;rw[fT a m];rfl
def iG:∀ (l:List α) (k:Nat),aIY l k=l.drop k
 | [],k=>by simp [aIY]
 | x::a,k=>by
  show bX (Nat.beq k 0) (x::a) (aIY a (Nat.sub k 1))=_;rw[cS];simp only[Bn];cases k with
  | zero=>simp
  | succ k=>rw[if_neg au];show aIY a (k+1 - 1)=_;rw[Ez,iG a k];simp
def iA:∀ (l:List α) (n:Nat),aIW l n=if n<=l.length then some (l.take n) else none
 | [],n=>by
  show bX (Nat.beq n 0) (some []) none=_;rw[cS];simp only[Bn];by_cases h:n=0<;>simp [h]
 | x::a,n=>by
  show bX (Nat.beq n 0) (some []) (bD (aIW a (Nat.sub n 1)) fun r=>some (x::r))=_;rw[cS];simp only[Bn];cases n with
  | zero=>simp
  | succ n=>
   rw[if_neg au];show bD (aIW a (n+1 - 1)) _=_;rw[Ez,iA a n];by_cases h:n<=a.length
   .rw[if_pos h,aH];simp [h]
   .rw[if_neg h,vD];simp [h]
def aNi{l r:List α}{i n:Nat}(h:cut l i n=some r):r=(l.drop i).take n/\r.length=n:=by
 unfold cut at h;rw[iG,iA] at h;split at h
 .rename_i a;cases h;exact⟨rfl,by rw[Bx];omega⟩
 .cases h
def aE3:∀ (vs l:List α),aEO vs l=if vs.length<=l.length then some (vs++l.drop vs.length) else none
 | [],l=>by simp [aEO]
 | v::vs,[]=>by
  show none=_;simp
 | v::vs,x::a=>by
  show bD (aEO vs a) (fun r=>some (v::r))=_;rw[aE3 vs a];by_cases h:vs.length<=a.length
  .rw[if_pos h,aH];simp [h]
  .rw[if_neg h,vD];simp [h]
def put_eq:∀ (l:List α) (k:Nat) (vs:List α),put l k vs=if k+vs.length<=l.length then some (l.take k++vs++l.drop (k+vs.length)) else none
 | [],k,vs=>by
  show bX (Nat.beq k 0) (aEO vs []) none=_;rw[cS,aE3];simp only[Bn];cases k with
  | zero=>simp
  | succ k=>simp
 | x::a,k,vs=>by
  show bX (Nat.beq k 0) (aEO vs (x::a)) (bD (put a (Nat.sub k 1) vs) fun r=>some (x::r))=_;rw[cS,aE3];simp only[Bn];cases k with
  | zero=>simp
  | succ k=>
   rw[if_neg au];show bD (put a (k+1 - 1) vs) _=_;rw[Ez,put_eq a k vs];by_cases h:k+vs.length<=a.length
   .rw[if_pos h,aH,if_pos (by simp;omega)];simp [Nat.succ_add]
   .rw[if_neg h,vD,if_neg (by simp;omega)]
def aBq{l r vs:List α}{k:Nat}(h:put l k vs=some r):k+vs.length<=l.length/\r=l.take k++vs++l.drop (k+vs.length):=by
 rw[put_eq] at h;split at h
 .cases h;exact⟨‹_›,rfl⟩
 .cases h
def aP1{l r vs:List α}{k:Nat}(h:put l k vs=some r)(j:Nat):r[j]? =if j<k then l[j]? else if j<k+vs.length then vs[j - k]? else l[j]? :=by
 obtain⟨c,rfl⟩:=aBq h;by_cases a:j<k
 .rw[if_pos a,Bg,Ak (by simp;omega),Eq a]
 .rw[if_neg a];by_cases b:j<k+vs.length
  .rw[if_pos b,Bg,Ao (by simp;omega),Bx,Nat.min_eq_left au,Ak au]
  .rw[if_neg b,Ao (by simp;omega)];simp only[Ai,Bx,Fp];congr 1;omega
def mH(z:List α)(n:Nat):repeatL z (n+1)=z++repeatL z n:=fT z (repeatL z n)
def wM(z:List α):repeatL z 0= []:=rfl
def repeatL_length(z:List α):∀n,(repeatL z n).length=n * z.length
 | 0=>by simp [wM]
 | n+1=>by rw[mH,Ai,repeatL_length z n,Du];omega
end
end Go.Ev
namespace Go.Ev
variable {v:AV}{V:Value}
structure Loc where
 r:Nat
 d:Nat
 e:Nat
abbrev Env:=Nat->Option Loc
variable {σ':Env}
def iP(s:cd):ByteArray:=⟨(s.map UInt8.ofNat).toArray⟩
def Bytes(s:cd):Prop:=∀x∈s,x<256
variable (P:Program)
mutual
def Rv(σ:Env):AV->Value->Prop
 | .bool b,V=>V= .bool b
 | .int k n,V=>V= .int k n
 | .str s,V=>V= .string (iP s)/\Bytes s
 | .ptr b off,V=>∃L,σ b=some L/\V= .pointer (some ⟨L.r,L.d+off,none⟩)
 | .nilp,V=>V= .pointer none
 | .sl b off len cap o,V=>∃L,σ b=some L/\V= .slice (some ⟨L.r,L.d+off,none⟩) len (if o=true then cap+L.e else cap)
 | .cr,V=>V= .slice none 0 0
 | .emp,V=>∃a c,V= .slice (some a) 0 c
 | .map b,V=>∃L,σ b=some L/\V= .map (some L.r)
 | .nilmap,V=>V= .map none
 | .fn f a b,V=>∃A B,V= .func (.func f) ⟨A⟩ ⟨B⟩/\jG σ a A/\jG σ b B
 | .nilfn,V=>V= .nilFunc
 | .yld b,V=>∃L,σ b=some L/\V= .func (.yield L.r) #[] #[]
 | .iface t v,V=>∃W,V= .iface t W/\Rv σ v W
 | .niliface,V=>V= .nilIface
 | .mth n d v,V=>∃W,V= .func (.method n) #[W] #[]/\d=yD P n P.types.toList 0/\Rv σ v W
 | .agg cs,V=>∃C,V= .agg ⟨C⟩/\jG σ cs C/\∀v∈C,v.oneCell'=true
 | .tup cs,V=>∃C,V= .tuple ⟨C⟩/\jG σ cs C
def jG(σ:Env):bu->List Value->Prop
 | [],b=>b= []
 | a::as,b=>∃V c,b=V::c/\Rv σ a V/\jG σ as c
end
section
variable {P}
variable {σ:Env}
def dS{a:List Value}:jG P σ [] a↔a= []:=by simp [jG]
def dL{a:AV}{as:bu}{b:List Value}:jG P σ (a::as) b↔∃V Ws,b=V::Ws/\Rv P σ a V/\jG P σ as Ws:=by simp [jG]
def jG.length:∀ {as:bu} {b:List Value},jG P σ as b->b.length=as.length
 | [],b,h=>by rw[dS] at h;subst h;rfl
 | a::as,b,h=>by
  rw[dL] at h;obtain⟨V,c,rfl,_,h⟩:=h;simp [jG.length h]
def jG.get:∀ {as:bu} {c:List Value},jG P σ as c->∀ {j:Nat} {a:AV},as[j]? =some a->∃V,c[j]? =some V/\Rv P σ a V
 | [],c,h,j,a,b=>by simp at b
 | x::as,c,h,j,a,b=>by
  rw[dL] at h;obtain⟨V,g,rfl,d,h⟩:=h;cases j with
  | zero=>simp at b;subst b;exact⟨V,by simp,d⟩
  | succ j=>
   simp at b;have⟨W,e,f⟩:=jG.get h b;exact⟨W,by simpa using e,f⟩
def jG.append:∀ {as c:bu} {d b:List Value},jG P σ as d->jG P σ c b->jG P σ (as++c) (d++b)
 | [],c,d,b,h,h'=>by rw[dS] at h;subst h;simpa using h'
 | a::as,c,d,b,h,h'=>by
  rw[dL] at h;obtain⟨V,e,rfl,f,h⟩:=h;exact dL.2 ⟨V,e++b,rfl,f,jG.append h h'⟩
def jG.take:∀ {as:bu} {b:List Value} (n:Nat),jG P σ as b->jG P σ (as.take n) (b.take n)
 | [],b,n,h=>by rw[dS] at h;subst h;simp [dS]
 | a::as,b,n,h=>by
  rw[dL] at h;obtain⟨V,c,rfl,d,h⟩:=h;cases n with
  | zero=>simp [dS]
  | succ n=>exact dL.2 ⟨V,c.take n,rfl,d,jG.take n h⟩
def jG.drop:∀ {as:bu} {b:List Value} (n:Nat),jG P σ as b->jG P σ (as.drop n) (b.drop n)
 | [],b,n,h=>by rw[dS] at h;subst h;simp [dS]
 | a::as,b,n,h=>by
  cases n with
  | zero=>simpa using h
  | succ n=>
   rw[dL] at h;obtain⟨V,c,rfl,d,h⟩:=h;simpa using jG.drop n h
def jG.cut{as r:bu}{a:List Value}{i n:Nat}(h:jG P σ as a)(b:cut as i n=some r):
  jG P σ r ((a.drop i).take n)/\((a.drop i).take n).length=n:=by
 obtain⟨rfl,c⟩:=aNi b;have:=(h.drop i).take n;exact⟨this,by rw[this.length,c]⟩
def jG.put{as r vs:bu}{a b:List Value}{k:Nat}(h:jG P σ as a)(c:jG P σ vs b)(d:put as k vs=some r):
  jG P σ r (a.take k++b++a.drop (k+b.length)):=by
 obtain⟨_,rfl⟩:=aBq d;rw[c.length];exact((h.take k).append c).append (h.drop _)
def aBm{σ:Env}(j:∀b L,σ b=some L->σ' b=some L):(∀v V,Rv P σ v V->Rv P σ' v V)/\(∀vs f,jG P σ vs f->jG P σ' vs f):=by
 have key:∀n:Nat,(∀v V,SizeOf.sizeOf v<n->Rv P σ v V->Rv P σ' v V)/\(∀vs f,SizeOf.sizeOf vs<n->jG P σ vs f->jG P σ' vs f):=by
  intro n
  induction n with
  | zero=>exact⟨fun v V h=>absurd h (Bo _),fun v V h=>absurd h (Bo _)⟩
  | succ n g=>
   refine⟨fun v V e h=>?_,fun vs f e h=>?_⟩
   .cases v<;>simp only[Rv] at h ⊢ <;>(try exact h)
    .have⟨L,c,d⟩:=h;exact⟨L,j _ _ c,d⟩
    .have⟨L,c,d⟩:=h;exact⟨L,j _ _ c,d⟩
    .have⟨L,c,d⟩:=h;exact⟨L,j _ _ c,d⟩
    .have⟨A,B,c,d,i⟩:=h;exact⟨A,B,c,g.2 _ _ (by simp at e;omega) d,g.2 _ _ (by simp at e;omega) i⟩
    .have⟨L,c,d⟩:=h;exact⟨L,j _ _ c,d⟩
    .have⟨W,c,d⟩:=h;exact⟨W,c,g.1 _ _ (by simp at e;omega) d⟩
    .have⟨W,c,d,i⟩:=h;exact⟨W,c,d,g.1 _ _ (by simp at e;omega) i⟩
    .have⟨C,c,d,i⟩:=h;exact⟨C,c,g.2 _ _ (by simp at e;omega) d,i⟩
    .have⟨C,c,d⟩:=h;exact⟨C,c,g.2 _ _ (by simp at e;omega) d⟩
   .cases vs with
    | nil=>simpa [jG] using h
    | cons a as=>
     rw[dL] at h ⊢;have⟨V,k,c,d,i⟩:=h;exact⟨V,k,c,g.1 _ _ (by simp at e;omega) d,g.2 _ _ (by simp at e;omega) i⟩
 exact⟨fun v V h=>(key (SizeOf.sizeOf v+1)).1 v V au h,fun vs f h=>(key (SizeOf.sizeOf vs+1)).2 vs f au h⟩
def Rv.mono{σ:Env}(a:∀b L,σ b=some L->σ' b=some L)(h:Rv P σ v V):Rv P σ' v V:=(aBm a).1 v V h
def jG.mono{σ:Env}(a:∀b L,σ b=some L->σ' b=some L){v:bu}{V:List Value}(h:jG P σ v V):jG P σ' v V:=(aBm a).2 v V h
def aLF(v:Value)(h:aOz v=true):v.oneCell'=true:=by cases v<;>simp_all [aOz,Value.oneCell']
def aCH(s:ByteArray):iP (s.data.toList.map UInt8.toNat)=s/\Bytes (s.data.toList.map UInt8.toNat):=by
 constructor
 .have⟨⟨l⟩⟩:=s;simp [iP,Function.comp_def]
 .intro x a;obtain⟨b,_,rfl⟩:=Cp.1 a;exact b.toNat_lt
def aGH(σ:Env):∀n:Nat,(∀V v,SizeOf.sizeOf V<n->ofValue V=some v->Rv P σ v V)/\(∀c vs,SizeOf.sizeOf c<n->ofValues c=some vs->jG P σ vs c):=by
 intro n
 induction n with
 | zero=>exact⟨fun V v h=>absurd h (Bo _),fun V v h=>absurd h (Bo _)⟩
 | succ n d=>
  refine⟨fun V v b h=>?_,fun c vs b h=>?_⟩
  .unfold ofValue at h;split at h
   .cases h;simp [Rv]
   .cases h;simp [Rv]
   .cases h;simp only[Rv];exact⟨by rw[(aCH _).1],(aCH _).2⟩
   .cases h;simp [Rv]
   .cases h;simp [Rv]
   .cases h;simp [Rv]
   .cases h;simp [Rv]
   .cases h;simp [Rv]
   .split at h
    .rename_i a' k g i;cases h;simp only[Rv];exact⟨_,_,rfl,d.2 _ _ (by simp at b;omega) g,d.2 _ _ (by simp at b;omega) i⟩
    .cases h
   .rename_i t w;obtain⟨x,e,rfl⟩:=Bc.1 h;simp only[Rv];exact⟨w,rfl,d.1 _ _ (by simp at b;omega) e⟩
   .rename_i cs;rw[Bq] at h;split at h
    .rename_i f;obtain⟨x,e,rfl⟩:=Bc.1 h;simp only[Rv];exact⟨cs,rfl,d.2 _ _ (by simp at b;omega) e,fun v j=>aLF v (Dq.1 f v j)⟩
    .cases h
   .rename_i cs;obtain⟨x,e,rfl⟩:=Bc.1 h;simp only[Rv];exact⟨cs,rfl,d.2 _ _ (by simp at b;omega) e⟩
   .cases h
  .cases c with
   | nil=>simp [ofValues] at h;subst h;simp [jG]
   | cons V c=>
    unfold ofValues at h;split at h
    .rename_i a as g has;cases h;exact dL.2 ⟨V,c,rfl,d.1 _ _ (by simp at b;omega) g,d.2 _ _ (by simp at b;omega) has⟩
    .cases h
def aEM{σ:Env}(h:ofValue V=some v):Rv P σ v V:=(aGH σ (SizeOf.sizeOf V+1)).1 V v au h
def aBb{cs:bu}(h:Rv P σ v V)(a:v.cells=some cs):jG P σ cs V.cells.toList/\(∀u∈V.cells.toList,u.oneCell'=true):=by
 cases v<;>simp only[AV.cells,Ay,reduceCtorEq] at a<;>subst a<;>simp only[Rv] at h
 case agg cs=>
  obtain⟨C,rfl,b,c⟩:=h;exact⟨b,c⟩
 all_goals
  first
   | (subst h;simp [Value.cells,jG,Rv,Value.oneCell'])
   | (obtain⟨rfl,h⟩:=h;simp [Value.cells,jG,Rv,Value.oneCell',h])
   | (obtain⟨x,h,rfl⟩:=h;simp [Value.cells,jG,Rv,Value.oneCell',h])
   | (obtain⟨x,y,rfl⟩:=h;simp [Value.cells,jG,Rv,Value.oneCell'])
   | (obtain⟨x,y,rfl,h,h'⟩:=h;exact⟨dL.2 ⟨_,[],rfl,by simp only[Rv];exact⟨x,y,rfl,h,h'⟩,dS.2 rfl⟩,by simp [Value.cells,Value.oneCell']⟩)
   | (obtain⟨x,rfl,h⟩:=h;simp [Value.cells,jG,Rv,Value.oneCell',h])
   | (obtain⟨x,rfl,rfl,h⟩:=h;simp [Value.cells,jG,Rv,Value.oneCell',h])
end
end Go.Ev
namespace Go.Ev
variable (P:Program)
variable {b r:Nat}{L:Loc}{bl:AB}
structure qR(σ:Env)(F:Fr)(tmps:Array Value):Prop where
 get:∀t,Rv P σ (aA t F) (tmps.getD t undef)
def aOZ:LSt->LoopState
 | .ready=>.ready
 | .busy=>.busy
 | .done=>.done
 | .exhausted=>.exhausted
def codeOf:Out->Option Code
 | .ret=>some .ret
 | .exit id=>some (.exit id)
 | .normal=>none
def uM(σ:Env):List (AV×AV)->List MapEntry->Prop
 | [],b=>b= []
 | (k,v)::m,b=>∃e a,b=e::a/\Rv P σ k e.key/\Rv P σ v e.val/\uM σ m a
def sJ(σ:Env)(w:World)(L:Loc):AB->Prop
 | .cells cs o s=>∃b,jG P σ cs b/\(∀u∈b,u.oneCell'=true)/\w.rangeAt L.r L.d b/\w.there L.r L.d (b.length+if o=true then L.e * s else 0)
 | .ro cs=>∃b,jG P σ cs b/\(∀u∈b,u.oneCell'=true)/\w.rangeAt L.r L.d b
 | .map d=>∃c clock,w.heap[L.r]? =some (.map c clock)/\uM P σ d c.toList
 | .loop st pend e ps as f=>∃a:Loop,w.heap[L.r]? =some (.loop a)/\a.state=aOZ st/\a.pending=pend.bind codeOf/\qR P σ e a.tmps/\
   a.params.toList=ps/\jU P a.tmps.size a.assign=some as/\jU P a.tmps.size a.body=some f/\(∀p∈ps,p<a.tmps.size)
 | .dfd=>w.heap[L.r]? =some (.deferred (some []))
def wQ:AB->Prop
 | .ro _=>False
 | _=>True
structure mR(σ:Env)(S:St)(w:World):Prop where
 blk:∀b bl,S.h.get b=some bl->∃L,σ b=some L/\L.r<w.heap.size/\sJ P σ w L bl
 lt:∀b bl,S.h.get b=some bl->b<S.nx
 fresh:∀b,S.nx<=b->σ b=none
 glob:∀g,g<P.globals.size->σ g=some ⟨g,0,0⟩
 inj:∀b b' bl bl' L L',S.h.get b=some bl->S.h.get b'=some bl'->wQ bl->b≠b'->σ b=some L->σ b'=some L'->L.r≠L'.r
def Own(σ:Env)(S:St)(r:Nat):Prop:=∃b bl L,S.h.get b=some bl/\wQ bl/\σ b=some L/\L.r=r
structure jJ(σ:Env)(S:St)(w:World)(σ':Env)(S':St)(w':World):Prop where
 rep:mR P σ' S' w'
 low:∀b,b<S.nx->σ' b=σ b
 nx:S.nx<=S'.nx
 keep:∀r,r<w.heap.size->¬Own σ S r->w'.heap[r]? =w.heap[r]?
 own:∀r,Own σ' S' r->Own σ S r\/w.heap.size<=r
 size:w.heap.size<=w'.heap.size
 os:w'.os=w.os
 tape:w'.tape=w.tape
 output:w'.output=w.output
 ro:∀b cs,S'.h.get b=some (.ro cs)->S.h.get b=some (.ro cs)
section
variable {P}{σ σ':Env}{S S':St}{w w':World}
def mR.below(h:mR P σ S w)(c:σ b=some L):b<S.nx:=by
 rcases Cx b S.nx with a|a
 .exact a
 .rw[h.fresh b a] at c;cases c
def jJ.mono(h:jJ P σ S w σ' S' w')(c:mR P σ S w):∀b L,σ b=some L->σ' b=some L:=fun b L a=>by
 rw[h.low b (c.below a)];exact a
def jJ.refl(h:mR P σ S w):jJ P σ S w σ S w:=
 ⟨h,fun _ _=>rfl,Af _,fun _ _ _=>rfl,fun _ a=>.inl a,Af _,rfl,rfl,rfl,fun _ _ h=>h⟩
def jJ.trans{a:Env}{c:St}{d:World}(h:jJ P σ S w σ' S' w')(h':jJ P σ' S' w' a c d):jJ P σ S w a c d where
 rep:=h'.rep
 low:=fun b f=>(h'.low b (Ae f h.nx)).trans (h.low b f)
 nx:=Aq h.nx h'.nx
 keep:=fun r j g=>by
  have e:=h.keep r j g;rw[h'.keep r (Ae j h.size) (fun i=>by rcases h.own r i with k|k;exact g k;omega)];exact e
 own:=fun r g=>by
  rcases h'.own r g with e|e
  .exact h.own r e
  .exact .inr (Aq h.size e)
 size:=Aq h.size h'.size
 os:=h'.os.trans h.os
 tape:=h'.tape.trans h.tape
 output:=h'.output.trans h.output
 ro:=fun b cs f=>h.ro b cs (h'.ro b cs f)
def cell_of_heap(h:w'.heap[r]? =w.heap[r]?)(o:Nat):w'.cell? ⟨r,o,none⟩=w.cell? ⟨r,o,none⟩:=by
 simp only[World.cell?,h]
def frozen_of_heap(h:w'.heap[r]? =w.heap[r]?)(o:Nat):w'.frozen? ⟨r,o,none⟩=w.frozen? ⟨r,o,none⟩:=by
 simp only[World.frozen?,h]
def qR.mono{F:Fr}{tmps:Array Value}(a:∀b L,σ b=some L->σ' b=some L)(h:qR P σ F tmps):qR P σ' F tmps:=⟨fun t=>(h.get t).mono a⟩
def uM.mono(c:∀b L,σ b=some L->σ' b=some L):∀ {m:List (AV×AV)} {a:List MapEntry},uM P σ m a->uM P σ' m a
 | [],a,h=>h
 | (k,v)::m,a,h=>by
  have⟨e,d,f,g,i,j⟩:=h;exact⟨e,d,f,g.mono c,i.mono c,j.mono c⟩
def sJ.frame(g:∀b L,σ b=some L->σ' b=some L)(a:w'.heap[L.r]? =w.heap[L.r]?)(h:sJ P σ w L bl):sJ P σ' w' L bl:=by
 cases bl with
 | cells cs o s=>
  have⟨i,d,e,f,k⟩:=h;exact⟨i,d.mono g,e,fun j v l=>by rw[cell_of_heap a];exact f j v l,fun j m=>by rw[cell_of_heap a,frozen_of_heap a];exact k j m⟩
 | ro cs=>
  have⟨i,d,e,f⟩:=h;exact⟨i,d.mono g,e,fun j v l=>by rw[cell_of_heap a];exact f j v l⟩
 | map r=>
  have⟨n,c,d,e⟩:=h;exact⟨n,c,by rw[a];exact d,e.mono g⟩
 | loop st pend t ps as u=>
  have⟨p,d,e,f,k,q⟩:=h;exact⟨p,by rw[a];exact d,e,f,k.mono g,q⟩
 | dfd=>exact a.trans h
def jJ.heap(h:mR P σ S w)(a:w'.heap=w.heap)(c:w'.os=w.os)(e:w'.tape=w.tape)(f:w'.output=w.output):jJ P σ S w σ S w' where
 rep:=⟨fun b bl d=>by
  have⟨L,g,i,j⟩:=h.blk b bl d;exact⟨L,g,by rw[a];exact i,j.frame (fun _ _ x=>x) (by rw[a])⟩,h.lt,h.fresh,h.glob,h.inj⟩
 low:=fun _ _=>rfl
 nx:=Af _
 keep:=fun r _ _=>by rw[a]
 own:=fun _ c=>.inl c
 size:=by rw[a];exact Af _
 os:=c
 tape:=e
 output:=f
 ro:=fun _ _ d=>d
def upd(σ:Env)(b:Nat)(L:Loc):Env:=fun c=>if c=b then some L else σ c
def upd_same(b:Nat)(L:Loc):upd σ b L b=some L:=by simp [upd]
def fJ{c:Nat}(L:Loc)(h:c≠b):upd σ b L c=σ c:=by simp [upd,h]
def iI(d:σ b=none):∀c M,σ c=some M->upd σ b L c=some M:=fun c M a=>by
 rw[fJ L (fun e=>by subst e;rw[d] at a;cases a)];exact a
def jJ.alloc(h:mR P σ S w){ob:Obj}{e:Nat}(y:w'.heap=w.heap.push ob)(A:w'.os=w.os)(B:w'.tape=w.tape)(C:w'.output=w.output)
  (D:sJ P (upd σ S.nx ⟨w.heap.size,0,e⟩) w' ⟨w.heap.size,0,e⟩ bl) (m:wQ bl):
  jJ P σ S w (upd σ S.nx ⟨w.heap.size,0,e⟩) ⟨S.h.set S.nx (some bl),Nat.succ S.nx⟩ w':=by
 have l:∀r,r<w.heap.size->w'.heap[r]? =w.heap[r]? :=fun r m=>by rw[y,Array.getElem?_push,if_neg au]
 have E:w'.heap.size=w.heap.size+1:=by rw[y];simp
 have v:=h.fresh S.nx (Af _);refine⟨⟨fun b i a=>?_,fun b i a=>?_,fun b a=>?_,fun g F=>iI v _ _ (h.glob g F),?_⟩,fun b a=>fJ _ au,Nat.le_succ _,fun r m _=>l r m,fun r m=>?_,au,A,B,C,fun b cs a=>?_⟩
 .rw[T.get_set] at a;split at a
  .rename_i e;subst e;cases a;exact⟨_,upd_same _ _,by simp only;omega,D⟩
  .rename_i d;have⟨L,j,o,n⟩:=h.blk b i a;exact⟨L,iI v _ _ j,au,n.frame (iI v) (l _ o)⟩
 .rw[T.get_set] at a;split at a
  .rename_i e;subst e;exact Dm _
  .exact Nat.lt_succ_of_lt (h.lt b i a)
 .have:b≠S.nx:=by simp only at a;omega
  rw[fJ _ this];exact h.fresh b (by simp only at a;omega)
 .intro b z p q L G k f x d s c;simp only at k f;rw[T.get_set] at k f;split at k
  .rename_i e;subst e;rw[if_neg (Ch d)] at f;rw[upd_same] at s;cases s;rw[fJ _ (Ch d)] at c;have⟨M,j,o,_⟩:=h.blk z q f;rw[j] at c;cases c;simp only;omega
  .rename_i t;rw[fJ _ t] at s;have⟨M,j,o,_⟩:=h.blk b p k;rw[j] at s;cases s;split at f
   .rename_i e;subst e;rw[upd_same] at c;cases c;simp only;omega
   .rename_i u;rw[fJ _ u] at c;exact h.inj b z p q _ _ k f x d j c
 .obtain⟨b,i,L,j,o,n,rfl⟩:=m;simp only at j;rw[T.get_set] at j;split at j
  .rename_i e;subst e;rw[upd_same] at n;cases n;exact .inr (Af _)
  .rename_i d;rw[fJ _ d] at n;exact .inl ⟨b,i,L,j,o,n,rfl⟩
 .simp only at a;rw[T.get_set] at a;split at a
  .cases a;exact m.elim
  .exact a
def jJ.write(h:mR P σ S w){l:AB}(m:S.h.get b=some bl)(d:wQ bl)(n:wQ l)(q:σ b=some L)
  (y:∀r,r≠L.r->w'.heap[r]? =w.heap[r]?) (z:w'.heap.size=w.heap.size) (A:w'.os=w.os) (B:w'.tape=w.tape) (C:w'.output=w.output)
  (D:sJ P σ w' L l):jJ P σ S w σ ⟨S.h.set b (some l),S.nx⟩ w':=by
 refine⟨⟨fun c a f=>?_,fun c a f=>?_,h.fresh,h.glob,?_⟩,fun _ _=>rfl,Af _,fun r _ o=>y r (fun e=>o ⟨b,bl,L,m,d,q,e.symm⟩),fun r o=>?_,au,A,B,C,fun c cs f=>?_⟩
 .simp only at f;rw[T.get_set] at f;have⟨M,g,j,_⟩:=h.blk b bl m;rw[q] at g;cases g;split at f
  .rename_i e;subst e;cases f;exact⟨L,q,au,D⟩
  .rename_i i;have⟨M,g,t,E⟩:=h.blk c a f;exact⟨M,g,au,E.frame (fun _ _ x=>x) (y _ (Ch (h.inj b c bl a L M m f d (Ch i) q g)))⟩
 .simp only at f;rw[T.get_set] at f;split at f
  .rename_i e;subst e;exact h.lt c bl m
  .exact h.lt c a f
 .intro c u a s F G g j v i p k;simp only at g j;rw[T.get_set] at g j;split at g
  .rename_i e;subst e;rw[if_neg (Ch i)] at j;exact h.inj c u bl s _ _ m j d i p k
  .split at j
   .rename_i e;subst e;rw[q] at k;cases k;exact(h.inj u c bl a _ _ m g d (Ch i) q p).symm
   .exact h.inj c u a s _ _ g j v i p k
 .obtain⟨c,a,M,g,j,t,rfl⟩:=o;simp only at g;rw[T.get_set] at g;split at g
  .rename_i e;subst e;exact .inl ⟨c,bl,M,m,d,t,rfl⟩
  .exact .inl ⟨c,a,M,g,j,t,rfl⟩
 .simp only at f;rw[T.get_set] at f;split at f
  .cases f;exact n.elim
  .exact f
def jJ.drop(h:mR P σ S w)(b:Nat):jJ P σ S w σ ⟨S.h.set b none,S.nx⟩ w:=by
 have key:∀c bl,(S.h.set b none).get c=some bl->S.h.get c=some bl:=fun c bl a=>by
  rw[T.get_set] at a;split at a
  .cases a
  .exact a
 refine⟨⟨fun c bl a=>h.blk c bl (key c bl a),fun c bl a=>h.lt c bl (key c bl a),h.fresh,h.glob,fun c i d e j k f g=>h.inj c i d e j k (key _ _ f) (key _ _ g)⟩,
  fun _ _=>rfl,Af _,fun _ _ _=>rfl,fun r ⟨c,bl,L,f,g⟩=>.inl ⟨c,bl,L,key _ _ f,g⟩,Af _,rfl,rfl,rfl,fun c cs a=>key _ _ a⟩
def jJ.rename(h:mR P σ S w){k:AB}{v:Loc}(m:S.h.get b=some bl)(d:wQ bl)(n:wQ k)(t:σ b=some L)(o:v.r=L.r)
  (E:∀r,r≠L.r->w'.heap[r]? =w.heap[r]?) (I:w'.heap.size=w.heap.size) (J:w'.os=w.os) (K:w'.tape=w.tape) (N:w'.output=w.output)
  (O:sJ P (upd σ S.nx v) w' v k):jJ P σ S w (upd σ S.nx v) ⟨(S.h.set b none).set S.nx (some k),Nat.succ S.nx⟩ w':=by
 have A:=h.fresh S.nx (Af _);have Q:=h.lt b bl m;have⟨M,x,R,_⟩:=h.blk b bl m;rw[t] at x;cases x;have key:∀c a,((S.h.set b none).set S.nx (some k)).get c=some a->(c=S.nx/\a=k)\/(c≠S.nx/\c≠b/\S.h.get c=some a):=fun c a f=>by
  rw[T.get_set,T.get_set] at f;split at f
  .cases f;exact .inl ⟨‹_›,rfl⟩
  .split at f
   .cases f
   .exact .inr ⟨‹_›, ‹_›,f⟩
 refine⟨⟨fun c a f=>?_,fun c a f=>?_,fun c f=>?_,fun g U=>iI A _ _ (h.glob g U),?_⟩,fun c f=>fJ _ au,Nat.le_succ _,fun r _ p=>E r (fun e=>p ⟨b,bl,L,m,d,t,e.symm⟩),fun r p=>?_,au,J,K,N,fun c cs f=>?_⟩
 .rcases key c a f with⟨rfl,rfl⟩|⟨q,u,l⟩
  .exact⟨v,upd_same _ _,au,O⟩
  .have⟨M,F,X,V⟩:=h.blk c a l;exact⟨M,iI A _ _ F,au,V.frame (iI A) (E _ (Ch (h.inj b c bl a L M m l d (Ch u) t F)))⟩
 .rcases key c a f with⟨rfl,rfl⟩|⟨q,u,l⟩
  .exact Dm _
  .exact Nat.lt_succ_of_lt (h.lt c a l)
 .have:c≠S.nx:=by simp only at f;omega
  rw[fJ _ this];exact h.fresh c (by simp only at f;omega)
 .intro c B a s Y Z q u C y i j;rcases key c a q with⟨rfl,rfl⟩|⟨z,D,a3⟩<;>rcases key B s u with⟨rfl,rfl⟩|⟨G,W,H⟩
  .exact absurd rfl y
  .rw[upd_same] at i;cases i;rw[fJ _ G] at j;rw[o];exact h.inj b B bl s _ _ m H d (Ch W) t j
  .rw[upd_same] at j;cases j;rw[fJ _ z] at i;rw[o];exact(h.inj b c bl a _ _ m a3 d (Ch D) t i).symm
  .rw[fJ _ z] at i;rw[fJ _ G] at j;exact h.inj c B a s _ _ a3 H C y i j
 .obtain⟨c,a,M,q,u,l,rfl⟩:=p;rcases key c a q with⟨rfl,rfl⟩|⟨z,D,a3⟩
  .rw[upd_same] at l;cases l;exact .inl ⟨b,bl,L,m,d,t,o.symm⟩
  .rw[fJ _ z] at l;exact .inl ⟨c,a,M,a3,u,l,rfl⟩
 .rcases key c _ f with⟨rfl,q⟩|⟨z,D,a3⟩
  .subst q;exact n.elim
  .exact a3
end
end Go.Ev
namespace Go.Ev
variable {P:Program}{σ:Env}{S:St}{w:World}
variable {t:TypeId}{agg:Bool}{n b:Nat}{cs:bu}{v:AV}
def cO{F:Fr}{a:Act}(c:qR P σ F a.tmps)(d:mR P σ S w){x:Operand}{X:cQ}(h:jC P x=some X):Rv P σ (X.val F) (a.eval x):=by
 cases x with
 | tmp t=>simp only[jC,Ay] at h;subst h;exact c.get t
 | const v=>
  simp only[jC,Bc] at h;obtain⟨y,e,rfl⟩:=h;exact aEM e
 | global g=>
  simp only[jC,Bq] at h;split at h
  .rename_i i;cases h;show Rv P σ (.ptr g 0) _;simp only[Rv];have b:g<P.globals.size:=Bd i;exact⟨_,d.glob g b,rfl⟩
  .cases h
 | func f=>
  simp only[jC,Ay] at h;subst h;show Rv P σ (.fn f [] []) _;simp only[Rv];exact⟨[],[],rfl,dS.2 rfl,dS.2 rfl⟩
def iO(x:cQ)(a:List cQ)(F:Fr):dV (x::a) F=x.val F::dV a F:=rfl
def pS{F:Fr}{a:Act}(e:qR P σ F a.tmps)(f:mR P σ S w):∀ {c:List Operand} {b:List cQ},aBB P c=some b->jG P σ (dV b F) (c.map a.eval)
 | [],b,h=>by simp only[aBB,Ay] at h;subst h;exact dS.2 rfl
 | x::c,b,h=>by
  simp only[aBB] at h;split at h
  .rename_i y i g d;cases h;rw[iO,Dh];exact dL.2 ⟨_,_,rfl,cO e f g,pS e f d⟩
  .cases h
def aB7(h:aDb P t=some (agg,n)):∃d i,P.underlying t=some d/\P.info? t=some i/\i.size=n/\d.isRow=agg:=by
 unfold aDb at h;split at h
 .rename_i i a hi;cases h;exact⟨_,i,a,hi,rfl,rfl⟩
 .rename_i i a hi;cases h;exact⟨_,i,a,hi,rfl,rfl⟩
 .rename_i d i b c a hi;cases h;refine⟨d,i,a,hi,rfl,?_⟩;cases d<;>simp_all [TypeDesc.isRow]
 .cases h
def aBa(i:mR P σ S w)(h:cG S.h b=some cs):
  ∃L Cs,σ b=some L/\jG P σ cs Cs/\(∀u∈Cs,u.oneCell'=true)/\w.rangeAt L.r L.d Cs:=by
 have⟨bl,j,a⟩:=aO h;have⟨L,f,_,g⟩:=i.blk b bl j;cases bl<;>simp only[nH,Ay,reduceCtorEq] at a
 .subst a;have⟨Cs,c,d,e,_⟩:=g;exact⟨L,Cs,f,c,d,e⟩
 .subst a;have⟨Cs,c,d,e⟩:=g;exact⟨L,Cs,f,c,d,e⟩
def aFO{r d i:Nat}{b:List Value}(h:w.rangeAt r d b):w.rangeAt r (d+i) ((b.drop i).take n):=fun j v a=>by
 have e:j<n:=by
  rcases Cx j n with c|c
  .exact c
  .rw[Bv (by rw[Bx];omega)] at a;cases a
 rw[Eq e,Fp] at a;rw[Da];exact h _ v a
def aEN{off:Nat}(a:mR P σ S w)(h:aAi S.h b off n=some cs):
  ∃L Cs,σ b=some L/\jG P σ cs Cs/\Cs.length=n/\(∀u∈Cs,u.oneCell'=true)/\w.rangeAt L.r (L.d+off) Cs:=by
 have⟨l,c,d⟩:=aO h;have⟨L,Cs,e,f,g,i⟩:=aBa a c;have:=f.cut d;exact⟨L,_,e,this.1,this.2,fun u j=>g u (Fj (Ee j)),aFO i⟩
def aKu{off:Nat}(c:mR P σ S w)(h:nJ S.h b off=some v):
  ∃L V,σ b=some L/\Rv P σ v V/\w.cell? ⟨L.r,L.d+off,none⟩=some V:=by
 have⟨l,d,a⟩:=aO h;rw[qU] at a;have⟨L,k,e,f,_,g⟩:=aBa c d;have⟨V,i,j⟩:=f.get a;exact⟨L,V,e,j,g _ _ i⟩
def aC1(l:aDb P t=some (agg,n))(h:mR P σ S w){off:Nat}(a:qK agg n S.h b off=some v):
  ∃L V,σ b=some L/\(loadVar t ⟨L.r,L.d+off,none⟩).run P w= .ok V w/\Rv P σ v V:=by
 have⟨d,i,j,hi,m,o⟩:=aB7 l;unfold qK at a;cases agg with
 | true=>
  rw[aL] at a;have⟨cs,c,e⟩:=aO a;cases e;have⟨L,k,f,p,q,r,s⟩:=aEN h c;refine⟨L,_,f,run_loadVar_mid w L.r (L.d+off) t k d s j o (by rw[hi];simp [m,q]),?_⟩;simp only[Rv];exact⟨k,rfl,p,r⟩
 | false=>
  rw[aR] at a;have⟨L,V,f,c,e⟩:=aKu h a;refine⟨L,V,f,?_,c⟩;have g:(isAgg t).run P w= .ok false w:=by
   simp only[isAgg,Sem.run_bind,run_underlying j,Result.andThen_ok];cases d<;>simp_all [TypeDesc.isRow]
  simp [loadVar,g,e]
def aMB(d:aDb P t=some (agg,n))(e:mR P σ S w){x:AV}{X:Value}(b:Rv P σ x X)(c:eE x agg n S.h=some v):
  ∃V,(Instr.loadAt t X).run P w= .ok V w/\Rv P σ v V:=by
 cases x<;>simp only[eE,reduceCtorEq] at c;simp only[Rv] at b;obtain⟨L,f,rfl⟩:=b;have⟨i,V,a,g,h⟩:=aC1 d e c;rw[f] at a;cases a;exact⟨V,by simp [Instr.loadAt,Instr.sureAddr,g],h⟩
def aDA{k:IntKind}{n:Int}(a:k.min<=n)(b:n<=k.max):k.wrap n=n:=by
 cases k<;>simp only[IntKind.min,IntKind.max,IntKind.wrap,IntKind.signed,IntKind.bits] at * <;>simp at * <;>(try split)<;>omega
def nat_eq(k:IntKind)(n:Nat):nat k n=k.wrap (Int.ofNat n):=by
 unfold nat;rw[cS];split
 .rename_i h;rw[Ft] at h;rw[aDA]
  .cases k<;>simp [IntKind.min,IntKind.signed,IntKind.bits]<;>omega
  .cases k<;>simp only[qP,IntKind.max,IntKind.signed,IntKind.bits] at * <;>simp<;>omega
 .rfl
def aGJ(k:IntKind)(n:Nat):neg k n=k.wrap (Int.negSucc n):=by
 unfold neg;rw[cS];split
 .rename_i a;rw[cS];split
  .rename_i h;rw[Ft] at h;rw[aDA]
   .cases k<;>simp only[aDL,qP,Bf] at * <;>simp only[IntKind.min,IntKind.signed,IntKind.bits]<;>simp<;>omega
   .cases k<;>simp only[aDL,qP,Bf] at * <;>simp only[IntKind.max,IntKind.signed,IntKind.bits]<;>simp<;>omega
  .rfl
 .rfl
def yE(k:IntKind)(n:Int):aF9 k n=k.wrap n:=by
 cases n with
 | ofNat m=>exact nat_eq k m
 | negSucc m=>exact aGJ k m
def zI(k:IntKind)(a b:Nat):aCq k a b=k.wrap ((a:Int) - b):=by
 unfold aCq;rw[cS];split
 .rename_i h;rw[Ft] at h;rw[nat_eq];congr 1;show((a - b:Nat):Int)=_;omega
 .rename_i h;rw[Ft] at h;rw[aGJ];congr 1;show Int.negSucc (b - a - 1)=_;omega
def aIm(k:IntKind)(x y:Int):aOI k x y=k.wrap (x+y):=by
 cases x with
 | ofNat a=>cases y with
  | ofNat b=>exact nat_eq k _
  | negSucc b=>exact(zI k a (b+1)).trans (by congr 1)
 | negSucc a=>cases y with
  | ofNat b=>exact(zI k b (a+1)).trans (by congr 1)
  | negSucc b=>exact(aGJ k _).trans (by congr 1)
def aBn(k:IntKind)(x y:Int):aI6 k x y=k.wrap (x - y):=by
 cases x with
 | ofNat a=>cases y with
  | ofNat b=>exact zI k a b
  | negSucc b=>exact(nat_eq k _).trans (by congr 1)
 | negSucc a=>cases y with
  | ofNat b=>exact(aGJ k _).trans (by congr 1;show Int.negSucc (a+b)=Int.negSucc a - (b:Int);omega)
  | negSucc b=>exact(zI k b a).trans (by congr 1;omega)
def aEv(k:IntKind)(x y:Int):aKH k x y=k.wrap (x * y):=by
 cases x with
 | ofNat a=>cases y with
  | ofNat b=>exact nat_eq k _
  | negSucc b=>exact yE k _
 | negSucc a=>exact yE k _
def jA(x y:Int):ieq x y=(x==y):=by
 cases x with
 | ofNat a=>cases y with
  | ofNat b=>show Nat.beq a b=_;rw[Cv];simp only[Bn,beq_iff_eq];exact⟨fun h=>by rw[h],fun h=>Int.ofNat.inj h⟩
  | negSucc b=>show false=_;symm;simp
 | negSucc a=>cases y with
  | ofNat b=>show false=_;symm;simp
  | negSucc b=>show Nat.beq a b=_;rw[Cv];simp [Bn]
def qT(x y:Int):ile x y=decide (x<=y):=by
 cases x with
 | ofNat a=>cases y with
  | ofNat b=>show Nat.ble a b=_;rw[Cv];simp [Ft]
  | negSucc b=>show false=_;symm;simp;omega
 | negSucc a=>cases y with
  | ofNat b=>show true=_;symm;simp;omega
  | negSucc b=>show Nat.ble b a=_;rw[Cv];simp [Ft];omega
def aAx{x y:IntKind}(h:keq x y=true):x=y:=by
 cases x<;>cases y<;>first | rfl | (exact absurd h az)
def fH(x:IntKind):keq x x=true:=by cases x<;>rfl
def vZ(x y:Bool):aOC x y=(x==y):=by cases x<;>cases y<;>rfl
def tO(b:Bool):bX b false true= !b:=by cases b<;>rfl
end Go.Ev
namespace Go.Ev
variable {P:Program}{σ:Env}{S:St}{w:World}
variable {op:BinOp}{k':IntKind}{b:Int}{v:AV}{n:Nat}{t:TypeId}
def aBw(op:BinOp):iE op=true↔op= .shl\/op= .shr:=by cases op<;>simp [iE]
def aH4{k:IntKind}{a:Int}(e:iE op=true)(h:aBN op k a b=some v):
  ∃V,(Op.shift op k a k' b).run P w= .ok V w/\Rv P σ v V:=by
 cases b with
 | negSucc m=>simp [aBN] at h
 | ofNat m=>
  simp only[aBN,aGz] at h;have f:bX (Nat.ble m k.bits) m k.bits=min m k.bits:=by
   rw[cS];split
   .rename_i c;rw[Ft] at c;omega
   .rename_i c;rw[Ft] at c;omega
  rw[f] at h;have d:¬ (Int.ofNat m<0):=by simp
  rcases(aBw op).1 e with rfl|rfl
  .simp only[Ay] at h;subst h;refine⟨_,by simp only[Op.shift,if_neg d];rfl,?_⟩;simp only[Rv,aEv];congr 2
  .simp only[Ay] at h;subst h;refine⟨_,by simp only[Op.shift,if_neg d];rfl,?_⟩;simp only[Rv];congr 2
def aAF{f:Nat->Nat->Nat}{k:IntKind}{x y:Int}(h:aCW f k x y=some v):
  ∃a b,x= .ofNat a/\y= .ofNat b/\a<=qP k/\b<=qP k/\v= .int k (.ofNat (f a b)):=by
 unfold aCW at h;split at h
 .rename_i a b;have⟨c,h⟩:=cH h;have⟨d,h⟩:=cH h;cases h;exact⟨a,b,rfl,rfl,Bd c,Bd d,rfl⟩
 .cases h
def zY(k:IntKind):qP k<2 ^ k.bits:=by cases k<;>simp [qP,IntKind.bits]
def aFp{k:IntKind}(h:n<=qP k):k.wrap (n:Int)=n:=by
 apply aDA
 .cases k<;>simp [IntKind.min,IntKind.signed,IntKind.bits]<;>omega
 .cases k<;>simp only[qP,IntKind.max,IntKind.signed,IntKind.bits] at * <;>simp<;>omega
def rQ{a:Nat}(h:a<2 ^ n):(BitVec.ofInt n (Int.ofNat a)).toNat=a:=by
 show(BitVec.ofInt n (a:Int)).toNat=a;rw[BitVec.toNat_ofInt];have:((a:Int) % ((2 ^ n:Nat):Int))=a:=Int.emod_eq_of_lt au (by exact_mod_cast h);rw[this];rfl
def aIc{k:IntKind}{a b:Nat}(e:a<=qP k)(f:b<=qP k):a ^^^ b<=qP k:=by
 have key:∀m:Nat,qP k=2 ^ m - 1->a ^^^ b<=qP k:=fun m g=>by
  have c:a<2 ^ m:=by have:=Nat.two_pow_pos m;omega
  have d:b<2 ^ m:=by have:=Nat.two_pow_pos m;omega
  have:=Nat.xor_lt_two_pow c d;omega
 cases k
 .exact key 7 rfl
 .exact key 15 rfl
 .exact key 31 rfl
 .exact key 63 rfl
 .exact key 8 rfl
 .exact key 16 rfl
 .exact key 32 rfl
 .exact key 64 rfl
def aJS{k:IntKind}{a b:Nat}(e:a<=qP k)(f:b<=qP k):a ||| b<=qP k:=by
 have key:∀m:Nat,qP k=2 ^ m - 1->a ||| b<=qP k:=fun m g=>by
  have c:a<2 ^ m:=by have:=Nat.two_pow_pos m;omega
  have d:b<2 ^ m:=by have:=Nat.two_pow_pos m;omega
  have:=Nat.or_lt_two_pow c d;omega
 cases k
 .exact key 7 rfl
 .exact key 15 rfl
 .exact key 31 rfl
 .exact key 63 rfl
 .exact key 8 rfl
 .exact key 16 rfl
 .exact key 32 rfl
 .exact key 64 rfl
def aMe{k:IntKind}{a:Int}(l:iE op=false)(h:aOg op k a b=some v):
  ∃V,(binOp op t (.int k a) (.int k b)).run P w= .ok V w/\Rv P σ v V:=by
 cases op
 case add=>cases h;exact⟨_,by rw[binOp_add];rfl,by simp only[Rv,aIm]⟩
 case sub=>cases h;exact⟨_,by rw[binOp_sub];rfl,by simp only[Rv,aBn]⟩
 case mul=>cases h;exact⟨_,by rw[binOp_mul];rfl,by simp only[Rv,aEv]⟩
 case quo=>
  have i:binOp .quo t (.int k a) (.int k b)=Op.intDiv .quo k a b:=binOp_quo ..;have h':aNz k a b=some v:=h;unfold aNz at h';rw[i];split at h'
  .rename_i x y;rw[cS] at h';split at h'
   .cases h'
   .rename_i c;rw[Bn] at c;cases h';have:¬ (Int.ofNat y=0):=by simpa using c
    refine⟨_,by simp only[Op.intDiv,if_neg this];rfl,?_⟩;simp only[Rv,nat_eq];congr 2
  .rw[cS,jA] at h';split at h'
   .cases h'
   .rename_i c;cases h';have:¬ (b=0):=by simpa using c
    exact⟨_,by simp only[Op.intDiv,if_neg this];rfl,by simp only[Rv,yE]⟩
 case rem=>
  have i:binOp .rem t (.int k a) (.int k b)=Op.intDiv .rem k a b:=by simp [binOp]
  have h':aNT k a b=some v:=h;unfold aNT at h';rw[i];split at h'
  .rename_i x y;rw[cS] at h';split at h'
   .cases h'
   .rename_i c;rw[Bn] at c;cases h';have:¬ (Int.ofNat y=0):=by simpa using c
    refine⟨_,by simp only[Op.intDiv,if_neg this];rfl,?_⟩;simp only[Rv];congr 1
  .rw[cS,jA] at h';split at h'
   .cases h'
   .rename_i c;cases h';have:¬ (b=0):=by simpa using c
    exact⟨_,by simp only[Op.intDiv,if_neg this];rfl,by simp only[Rv]⟩
 case and=>
  obtain⟨x,y,rfl,rfl,d,e,rfl⟩:=aAF (h:aCW Nat.land k a b=some v);refine⟨_,by simp only[binOp,ne_eq,Dd,Eh,Op.intBits];rfl,?_⟩;simp only[Rv];have f:=rQ (Fa d (zY k));have g:=rQ (Fa e (zY k));rw[BitVec.toNat_and,f,g];have j:x &&& y<=qP k:=Aq Nat.and_le_left d;rw[aFp j];rfl
 case or=>
  obtain⟨x,y,rfl,rfl,d,e,rfl⟩:=aAF (h:aCW Nat.lor k a b=some v);refine⟨_,by simp only[binOp,ne_eq,Dd,Eh,Op.intBits];rfl,?_⟩;simp only[Rv];have f:=rQ (Fa d (zY k));have g:=rQ (Fa e (zY k));rw[BitVec.toNat_or,f,g,aFp (aJS d e)];rfl
 case xor=>
  obtain⟨x,y,rfl,rfl,d,e,rfl⟩:=aAF (h:aCW Nat.xor k a b=some v);refine⟨_,by simp only[binOp,ne_eq,Dd,Eh,Op.intBits];rfl,?_⟩;simp only[Rv];have f:=rQ (Fa d (zY k));have g:=rQ (Fa e (zY k));rw[BitVec.toNat_xor,f,g,aFp (aIc d e)];rfl
 case shl=>simp [iE] at l
 case shr=>simp [iE] at l
 case andNot=>cases h
 case eql=>cases h;exact⟨_,by simp only[binOp,ne_eq,Dd,Eh,Op.intCmp];rfl,by simp only[Rv,jA]⟩
 case neq=>cases h;exact⟨_,by simp only[binOp,ne_eq,Dd,Eh,Op.intCmp];rfl,by simp only[Rv,jA,tO];rfl⟩
 case lss=>
  cases h;refine⟨_,by simp only[binOp,ne_eq,Dd,Eh,Op.intCmp];rfl,?_⟩;simp only[Rv,qT,tO];congr 1;rw[Cv];simp
 case leq=>cases h;exact⟨_,by simp only[binOp,ne_eq,Dd,Eh,Op.intCmp];rfl,by simp only[Rv,qT]⟩
 case gtr=>
  cases h;refine⟨_,by simp only[binOp,ne_eq,Dd,Eh,Op.intCmp];rfl,?_⟩;simp only[Rv,qT,tO];congr 1;rw[Cv];simp
 case geq=>cases h;exact⟨_,by simp only[binOp,ne_eq,Dd,Eh,Op.intCmp];rfl,by simp only[Rv,qT]⟩
def aJJ{k:IntKind}{a:Int}(h:fL op k a k' b=some v):
  ∃V,(binOp op t (.int k a) (.int k' b)).run P w= .ok V w/\Rv P σ v V:=by
 unfold fL at h;cases c:iE op
 .rw[c,aR] at h;have⟨d,e⟩:=cH h;have:=aAx d;subst this;exact aMe c e
 .rw[c,aL] at h;have⟨V,d,e⟩:=aH4 (P:=P) (σ:=σ) (w:=w) (k':=k') c h;refine⟨V,?_,e⟩;rcases(aBw op).1 c with rfl|rfl<;>exact d
def aDq{x:Nat}(h:x<256):(UInt8.ofNat x).toNat=x:=by
 rw[UInt8.toNat_ofNat'];exact Nat.mod_eq_of_lt h
def aHF:∀ {a b:cd},Bytes a->Bytes b->(pQ a b=true↔iP a=iP b):=by
 have inj:∀ {a b:cd},Bytes a->Bytes b->iP a=iP b->a=b:=fun {a b} c d h=>by
  have g:a.map UInt8.ofNat=b.map UInt8.ofNat:=by
   have:=congrArg (fun s:ByteArray=>s.data.toList) h;simpa [iP] using this
  have f:=congrArg (List.map UInt8.toNat) g;rw[Eu,Eu] at f;have e:∀l:cd,Bytes l->l.map (UInt8.toNat ∘ UInt8.ofNat)=l:=fun l i=>by
   conv=>rhs;rw[<-List.map_id l]
   exact Eb fun x j=>aDq (i x j)
  rw[e a c,e b d] at f;exact f
 have eqv:∀a b:cd,pQ a b=true↔a=b:=by
  intro a
  induction a with
  | nil=>intro b;cases b<;>simp [pQ]
  | cons x a k=>
   intro b;cases b with
   | nil=>simp [pQ]
   | cons y b=>
    simp only[pQ,cS];split
    .rename_i h;rw[Bn] at h;subst h;simp [k]
    .rename_i h;rw[Bn] at h;simp [h]
 intro a b c d;rw[eqv];exact⟨fun h=>by rw[h],inj c d⟩
def rT(a:cd):(iP a).toList=a.map UInt8.ofNat:=by
 exact ByteArray.toList_mk _
def tA(a:cd):(iP a).size=a.length:=by simp [iP,ByteArray.size]
def aHq(a b:cd):iP (a++b)=iP a++iP b:=by
 apply ByteArray.ext;rw[ByteArray.data_append];simp [iP]
end Go.Ev
