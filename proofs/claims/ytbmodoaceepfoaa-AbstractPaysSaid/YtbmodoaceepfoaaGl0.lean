import Derived.Test.YtbmodoaceepfoaaEv8
set_option linter.all false
set_option maxHeartbeats 0
abbrev Go.Ev.dy:=@Go.Ev.jq.refl
namespace Go.Ev.Gl
variable {d:Option Nat}{op:AOp}{b:Bool}{l:List AO}{F:Fr}{S:St}{Q:Out->bO->St->Prop}{c:cQ}{x y:AC}{A:bO}
abbrev jr(n:Int):AV:=.int .i64 n
abbrev js(l:List AV):Option AB:=some (.cells l false 0)
variable {fns:T fD}
def xU(a b:Bool):isB (.bool a) b=(a==b):=by cases a<;>cases b<;>rfl
def aG5{d:Option Nat}{op:AOp}{s:Nat}{b:Bool}{m:Nat}{l:List AO}{F:Fr}{S:St}{Q:Fr->St->Prop}:vG fns (⟨d,op,some (s,b),m⟩::l) F S Q↔if isB (aA s F) b=true then vG fns (⟨d,op,none,m⟩::l) F S Q else vG fns l (cT d F .undef) S Q:=by
 have e:∀call,aFe ⟨d,op,some (s,b),m⟩ call F S=bX (isB (aA s F) b) (aFe ⟨d,op,none,m⟩ call F S) (some (cT d F .undef,S)):=fun call=>by
  cases op<;>rfl
 constructor
 .rintro⟨n,F',S',a,f⟩;rw[iW,e] at a;cases c:isB (aA s F) b with
  | true=>
   rw[c,aL] at a;rw[if_pos rfl];exact⟨n,F',S',by rw[iW];exact a,f⟩
  | false=>
   rw[c,aR,aH] at a;rw[if_neg (by simp)];exact⟨n,F',S',a,f⟩
 .intro h;cases c:isB (aA s F) b with
  | true=>
   rw[c,if_pos rfl] at h;have⟨n,F',S',a,f⟩:=h;refine⟨n,F',S',?_,f⟩;rw[iW,e,c,aL,<-iW];exact a
  | false=>
   rw[c,if_neg (by simp)] at h;have⟨n,F',S',a,f⟩:=h;refine⟨n,F',S',?_,f⟩;rw[iW,e,c,aR,aH];exact a
def aQD{s:Nat}{m:Nat}{Q:Fr->St->Prop}(a:aA s F= .bool b):vG fns (⟨d,op,some (s,b),m⟩::l) F S Q↔vG fns (⟨d,op,none,m⟩::l) F S Q:=by
 rw[aG5,a,xU,if_pos (by simp)]
def aO6{s:Nat}{m:Nat}{Q:Fr->St->Prop}(a:aA s F= .bool (!b)):vG fns (⟨d,op,some (s,b),m⟩::l) F S Q↔vG fns l (cT d F .undef) S Q:=by
 rw[aG5,a,xU,if_neg (by cases b<;>simp)]
def aM(a:c.val A.F= .bool true)(h:jN fns x A S Q):jN fns (.cond c x y) A S Q:=aKq a (fun _=>h) (nofun)
def aK(a:c.val A.F= .bool false)(h:jN fns y A S Q):jN fns (.cond c x y) A S Q:=aKq a (nofun) (fun _=>h)
def bS{a:List AO}(h:vG fns a A.F S fun F' S'=>aFa fns y Q .normal ⟨F',A.inr⟩ S'):jN fns (.seq (.reg a) y) A S Q:=aB (aF h)
def fZ{a:List AO}{z:AC}(h:vG fns a A.F S fun F' S'=>aFa fns y (aFa fns z Q) .normal ⟨F',A.inr⟩ S'):jN fns (.seq (.seq (.reg a) y) z) A S Q:=aB (aB (aF h))
def vL(y:AC)(Q:Out->bO->St->Prop)(A:bO)(S:St):aFa fns y Q .normal A S=jN fns y A S Q:=rfl
def aCB(y:AC)(Q:Out->bO->St->Prop)(A:bO)(S:St):aFa fns y Q .ret A S=Q .ret A S:=rfl
def aAC(y:AC)(Q:Out->bO->St->Prop)(A:bO)(S:St)(i:Nat):aFa fns y Q (.exit i) A S=Q (.exit i) A S:=rfl
def uA(id:Nat)(Q:Out->bO->St->Prop)(A:bO)(S:St):aB1 id Q .normal A S=Q .normal A S:=rfl
def aA1(id:Nat)(Q:Out->bO->St->Prop)(A:bO)(S:St):aB1 id Q .ret A S=Q .ret A S:=rfl
def xN(id i:Nat)(Q:Out->bO->St->Prop)(A:bO)(S:St):aB1 id Q (.exit i) A S=if i=id then Q .normal A S else Q (.exit i) A S:=rfl
def tT(I:Nat->bO->St->Prop)(k:Nat)(Q:Out->bO->St->Prop)(A:bO)(S:St):aGV I k Q .normal A S=∃k',k'<k/\I k' A S:=rfl
def aAP(I:Nat->bO->St->Prop)(k:Nat)(Q:Out->bO->St->Prop)(A:bO)(S:St):aGV I k Q .ret A S=Q .ret A S:=rfl
def yO(I:Nat->bO->St->Prop)(k i:Nat)(Q:Out->bO->St->Prop)(A:bO)(S:St):aGV I k Q (.exit i) A S=Q (.exit i) A S:=rfl
def aDM(a:List RV)(Q:AV->St->Prop)(A:bO)(S:St):aRB a Q .ret A S=nE (results a A.F S.h) fun vs=>Q (oneOf vs) S:=rfl
def yJ(F:Fr)(h:T AB):results [] F h=some []:=rfl
def aB0(i:Nat)(a:List RV)(F:Fr)(h:T AB):results (.t i::a) F h=bD (results a F h) fun vs=>some (aA i F::vs):=rfl
def aB8(v:AV):oneOf [v]=v:=rfl
def aBV(v u:AV)(vs:bu):oneOf (v::u::vs)= .tup (v::u::vs):=rfl
def aAJ(i:Nat)(F:Fr):sN [] i F=F:=rfl
def xW(v:AV)(vs:bu)(i:Nat)(F:Fr):sN (v::vs) i F=sN vs (i+1) (cT (some i) F v):=rfl
def oH(t:Bool)(a b:cQ)(F:Fr):yV (.bool t) a b F=some (bX t (a.val F) (b.val F)):=rfl
def zF(x:cQ):dU (.mv x)=false:=rfl
def vM(op:BinOp)(e:tC)(x y:cQ):dU (.bin op e x y)=false:=rfl
def oW(k:IxK)(x y:cQ):dU (.c9 k x y)=false:=rfl
def rK(g:Bool)(n:Nat)(x:cQ):dU (.ld g n x)=true:=rfl
def iM(x:cQ):dU (.dc x)=false:=rfl
def aAQ(k:IntKind)(x:cQ):dU (.conv (.int k) x)=false:=rfl
def xL(a:T AB)(b:List (Nat×Nat×T AB)):iF a b []=true:=rfl
def pH(a:T AB)(b:List (Nat×Nat×T AB))(l:mC)(ls:List mC):iF a b (l::ls)=bX (eU l b a) (iF a b ls) false:=rfl
def aEm(l:mC)(h:T AB):eU l [] h=pE l.v (iC l.q l.F h):=rfl
def kO(v w:AV):pE v (some w)=cI w v:=rfl
def bK(m:Nat)(h:T AB):cN m [] h=([],h):=rfl
attribute [simp] dJ aJ0 aCm aQD aO6 aBr iL iT aFf xU vL aCB aAC uA aA1 xN tT aAP yO aDM yJ aB0
 aB8 aBV aAJ xW oH aH vD aL aR aGW aDy aJv zD uT nC aEF yC sK aHe fO aCJ bE fK
 aHb aHi aGS aHm aHj aGQ aHo aDt aGF aE6
 zF vM oW rK iM aAQ xL pH aEm kO dO aCw aEq nQ aA2 bK
def wrap_i64{n:Int}(a: -9223372036854775808<=n)(b:n<=9223372036854775807):IntKind.i64.wrap n=n:=aDA (by simp [IntKind.min,IntKind.signed,IntKind.bits];omega) (by simp [IntKind.max,IntKind.signed,IntKind.bits];omega)
def du(i:Nat)(h:i<9223372036854775807:=by omega):IntKind.i64.wrap ((i:Int)+1)=((i+1:Nat):Int):=by rw[wrap_i64 (by omega) (by omega)];omega
def kL(F:Fr):dV [] F= []:=rfl
def iO(x:cQ)(l:List cQ)(F:Fr):dV (x::l) F=x.val F::dV l F:=rfl
def dE(n:Nat)(x v:cQ)(call:gD)(F:Fr)(S:St):evX (.st n x v) call F S=bD (v.val F).cells fun cs=>qZ (x.val F) n cs S:=rfl
def cF(k:IntKind)(n:Int):(AV.int k n).cells=some [.int k n]:=rfl
attribute [simp] kL iO dE cF
def aDn(k:SlK)(x:cQ)(lo hi mx:Option cQ)(F:Fr)(h:T AB):iC (.slc k x lo hi mx) F h=rS k (x.val F) lo hi mx F:=rfl
def aGN(k:IntKind){z:Int}(h:0<=z):gL (.int k z)=some z.toNat:=by
 obtain⟨n,rfl⟩:=Int.eq_ofNat_of_zero_le h;rfl
attribute [simp] aDn aGN
end Go.Ev.Gl
