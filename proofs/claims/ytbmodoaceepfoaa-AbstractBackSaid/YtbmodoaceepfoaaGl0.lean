import Derived.Test.YtbmodoaceepfoaaEv8
set_option linter.all false
set_option maxHeartbeats 0
abbrev Go.Ev.eu:=@Go.Ev.Same.refl
namespace Go.Ev.Gl
variable {d:Option Nat}{op:AOp}{b:Bool}{l:ce}{F:Fr}{S:St}{Q:Out->bO->St->Prop}{c:cT}{x y:AC}{A:bO}{n:Int}{v:AV}{i:Nat}
abbrev je(n:Int):AV:=.int .i64 n
abbrev jf(l:List AV):Option AB:=some (.cells l false 0)
variable {fns:T eY}
def yG(a b:Bool):isB (.bool a) b=(a==b):=by cases a<;>cases b<;>rfl
def aGS{d:Option Nat}{op:AOp}{s:Nat}{b:Bool}{m:Nat}{l:List AO}{F:Fr}{S:St}{Q:Fr->St->Prop}:vT fns (⟨d,op,some (s,b),m⟩::l) F S Q↔if isB (aC s F) b=true then vT fns (⟨d,op,none,m⟩::l) F S Q else vT fns l (cU d F .undef) S Q:=by
 have e:∀call,aFf ⟨d,op,some (s,b),m⟩ call F S=cC (isB (aC s F) b) (aFf ⟨d,op,none,m⟩ call F S) (some (cU d F .undef,S)):=fun call=>by
  cases op<;>rfl
 constructor
 .rintro⟨n,F',f,a,g⟩;rw[iY,e] at a;cases c:isB (aC s F) b with
  | true=>
   rw[c,aN] at a;rw[if_pos rfl];exact⟨n,F',f,by rw[iY];exact a,g⟩
  | false=>
   rw[c,aU,aH] at a;rw[if_neg (by simp)];exact⟨n,F',f,a,g⟩
 .intro h;cases c:isB (aC s F) b with
  | true=>
   rw[c,if_pos rfl] at h;have⟨n,F',f,a,g⟩:=h;refine⟨n,F',f,?_,g⟩;rw[iY,e,c,aN,<-iY];exact a
  | false=>
   rw[c,if_neg (by simp)] at h;have⟨n,F',f,a,g⟩:=h;refine⟨n,F',f,?_,g⟩;rw[iY,e,c,aU,aH];exact a
def aQi{s:Nat}{m:Nat}{l:List AO}{Q:Fr->St->Prop}(a:aC s F= .bool b):vT fns (⟨d,op,some (s,b),m⟩::l) F S Q↔vT fns (⟨d,op,none,m⟩::l) F S Q:=by
 rw[aGS,a,yG,if_pos (by simp)]
def aOR{s:Nat}{m:Nat}{l:List AO}{Q:Fr->St->Prop}(a:aC s F= .bool (!b)):vT fns (⟨d,op,some (s,b),m⟩::l) F S Q↔vT fns l (cU d F .undef) S Q:=by
 rw[aGS,a,yG,if_neg (by cases b<;>simp)]
def aS(a:c.val A.F= .bool true)(h:jP fns x A S Q):jP fns (.cond c x y) A S Q:=aJ9 a (fun _=>h) (nofun)
def aQ(a:c.val A.F= .bool false)(h:jP fns y A S Q):jP fns (.cond c x y) A S Q:=aJ9 a (nofun) (fun _=>h)
def cA{a:List AO}(h:vT fns a A.F S fun F' b=>aFa fns y Q .normal ⟨F',A.inr⟩ b):jP fns (.seq (.reg a) y) A S Q:=aD (aL h)
def gH{a:List AO}{z:AC}(h:vT fns a A.F S fun F' b=>aFa fns y (aFa fns z Q) .normal ⟨F',A.inr⟩ b):jP fns (.seq (.seq (.reg a) y) z) A S Q:=aD (aD (aL h))
def vY(y:AC)(Q:Out->bO->St->Prop)(A:bO)(S:St):aFa fns y Q .normal A S=jP fns y A S Q:=rfl
def aCC(y:AC)(Q:Out->bO->St->Prop)(A:bO)(S:St):aFa fns y Q .ret A S=Q .ret A S:=rfl
def aAD(y:AC)(Q:Out->bO->St->Prop)(A:bO)(S:St)(i:Nat):aFa fns y Q (.exit i) A S=Q (.exit i) A S:=rfl
def uA(id:Nat)(Q:Out->bO->St->Prop)(A:bO)(S:St):aB3 id Q .normal A S=Q .normal A S:=rfl
def aA4(id:Nat)(Q:Out->bO->St->Prop)(A:bO)(S:St):aB3 id Q .ret A S=Q .ret A S:=rfl
def yA(id i:Nat)(Q:Out->bO->St->Prop)(A:bO)(S:St):aB3 id Q (.exit i) A S=if i=id then Q .normal A S else Q (.exit i) A S:=rfl
def tR(I:Nat->bO->St->Prop)(k:Nat)(Q:Out->bO->St->Prop)(A:bO)(S:St):aGK I k Q .normal A S=∃k',k'<k/\I k' A S:=rfl
def aAS(I:Nat->bO->St->Prop)(k:Nat)(Q:Out->bO->St->Prop)(A:bO)(S:St):aGK I k Q .ret A S=Q .ret A S:=rfl
def yV(I:Nat->bO->St->Prop)(k i:Nat)(Q:Out->bO->St->Prop)(A:bO)(S:St):aGK I k Q (.exit i) A S=Q (.exit i) A S:=rfl
def aDS(a:List RV)(Q:AV->St->Prop)(A:bO)(S:St):aRg a Q .ret A S=mR (results a A.F S.h) fun vs=>Q (oneOf vs) S:=rfl
def yS(F:Fr)(h:T AB):results [] F h=some []:=rfl
def aB1(i:Nat)(a:List RV)(F:Fr)(h:T AB):results (.t i::a) F h=bG (results a F h) fun vs=>some (aC i F::vs):=rfl
def aCa(v:AV):oneOf [v]=v:=rfl
def aBW(v u:AV)(vs:cd):oneOf (v::u::vs)= .tup (v::u::vs):=rfl
def aAL(i:Nat)(F:Fr):sH [] i F=F:=rfl
def yJ(v:AV)(vs:cd)(i:Nat)(F:Fr):sH (v::vs) i F=sH vs (i+1) (cU (some i) F v):=rfl
def aAH(t:Bool)(a b:cT)(F:Fr):zC (.bool t) a b F=some (cC t (a.val F) (b.val F)):=rfl
def zJ(x:cT):eE (.mv x)=false:=rfl
def vZ(op:BinOp)(e:sR)(x y:cT):eE (.bin op e x y)=false:=rfl
def oR(k:IxK)(x y:cT):eE (.df k x y)=false:=rfl
def rG(g:Bool)(n:Nat)(x:cT):eE (.ld g n x)=true:=rfl
def iO(x:cT):eE (.dh x)=false:=rfl
def aAT(k:IntKind)(x:cT):eE (.conv (.int k) x)=false:=rfl
def xY(a:T AB)(b:List (Nat×Nat×T AB)):iB a b []=true:=rfl
def pD(a:T AB)(b:List (Nat×Nat×T AB))(l:mC)(ls:List mC):iB a b (l::ls)=cC (fA l b a) (iB a b ls) false:=rfl
def aEo(l:mC)(h:T AB):fA l [] h=oY l.v (gO l.q l.F h):=rfl
def kO(v w:AV):oY v (some w)=cO w v:=rfl
def bL(m:Nat)(h:T AB):cP m [] h=([],h):=rfl
attribute [simp] dH aJF aCn aQi aOR aBr iC iW aFg yG vY aCC aAD uA aA4 yA tR aAS yV aDS yS aB1
 aCa aBW aAL yJ aAH aH vQ aN aU aGL aDA aI3 zH vB mQ aEH yO aEm aGZ fE aCM bH fC
 aGW aG4 aGI aG7 aG5 aGG aG9 aDv aGv aE7
 zJ vZ oR rG iO aAT xY pD aEo kO eM zY aEr mE aA5 bL
def wrap_i64(a: -9223372036854775808<=n)(b:n<=9223372036854775807):IntKind.i64.wrap n=n:=aBP (by simp [IntKind.min,IntKind.signed,IntKind.bits];omega) (by simp [IntKind.max,IntKind.signed,IntKind.bits];omega)
def ed(i:Nat)(h:i<9223372036854775807:=by omega):IntKind.i64.wrap ((i:Int)+1)=((i+1:Nat):Int):=by rw[wrap_i64 (by omega) (by omega)];omega
def wrap_u32(a:0<=n)(b:n<=4294967295):IntKind.u32.wrap n=n:=aBP (by simp [IntKind.min,IntKind.signed];omega) (by simp [IntKind.max,IntKind.signed,IntKind.bits];omega)
def iL(S:St)(v:AV)(l:ce):Prop:=bN .u32 S v (l.map Int.ofNat)
def iL.len(h:iL S v l):kR v=some (je (l.length:Int)):=by
 have:=bN.len h;rw[Al] at this;exact this
def iL.df(h:iL S v l)(hi:i<l.length):eQ (.slice 1) v i=some (xS v i):=bN.df h (by simpa using hi)
def iL.ld(h:iL S v l)(hi:i<l.length):eK (xS v i) false 1 S.h=some (.int .u32 ((l.getD i 0:Nat):Int)):=by
 have:=bN.ld h (i:=i) (by simpa using hi);rw[this];simp [Ad,hi]
def iL.same{a:St}(h:iL S v l)(b:Same S a):iL a v l:=bN.same h b
def nR(F:Fr):eF [] F= []:=rfl
def jQ(x:cT)(l:List cT)(F:Fr):eF (x::l) F=x.val F::eF l F:=rfl
def dL(n:Nat)(x v:cT)(call:fX)(F:Fr)(S:St):evX (.st n x v) call F S=bG (v.val F).cells fun cs=>qX (x.val F) n cs S:=rfl
def dD(k:IntKind)(n:Int):(AV.int k n).cells=some [.int k n]:=rfl
attribute [simp] nR jQ dL dD
def aDq(k:SlK)(x:cT)(lo hi mx:Option cT)(F:Fr)(h:T AB):gO (.slc k x lo hi mx) F h=rO k (x.val F) lo hi mx F:=rfl
def aGD(k:IntKind){z:Int}(h:0<=z):gN (.int k z)=some z.toNat:=by
 obtain⟨n,rfl⟩:=Int.eq_ofNat_of_zero_le h;rfl
attribute [simp] aDq aGD
end Go.Ev.Gl
