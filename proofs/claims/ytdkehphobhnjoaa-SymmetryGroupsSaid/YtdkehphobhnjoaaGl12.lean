import Derived.Test.YtdkehphobhnjoaaGl11
set_option maxHeartbeats 16000000
set_option linter.unusedSimpArgs false
set_option linter.unusedVariables false
namespace Go.Ev.Gl
variable {fns:T dE}
def aOl(_:St)(cs:List AV)(x:Int):Prop:=cs= [.int .i64 x]
theorem toG{S:St}{v:AV}{l:List Int}(h:bN .i64 S v l):aN 1 aOl S v l:=by
 rcases h with h | ⟨b,off,cap,o,cs,rfl,hc,hb,hcs,hel⟩
 ·exact .inl h
 ·refine .inr ⟨b,off,cap,o,cs,rfl,hc,hb,hcs,fun i a hi=>⟨[.int .i64 a],rfl,fun j x hj=>?_,rfl⟩⟩;cases j with
  | zero=>simp at hj;subst hj;rw[Dn,Bj];exact hel i a hi
  | succ j=>simp at hj
theorem ofG{S:St}{v:AV}{l:List Int}(h:aN 1 aOl S v l):bN .i64 S v l:=by
 rcases h with h | ⟨b,off,cap,o,cs,rfl,hc,hb,hcs,hel⟩
 ·exact .inl h
 ·refine .inr ⟨b,off,cap,o,cs,rfl,hc,hb,hcs,fun i a hi=>?_⟩;obtain⟨e,_,h2,h3⟩:=hel i a hi;have h3:e= [.int .i64 a]:=h3;subst h3;have:=h2 0 _ rfl;rw[Dn,Bj] at this;exact this
theorem aN.moveB{k:Nat}{α:Type}{E:St→List AV→α→Prop}{S S':St}{v:AV}{l:List α}(h:aN k E S v l)(hn:S.nx≤S'.nx)(hh:∀c,cL v=some c→S'.h.get c=S.h.get c)(hE:∀e a,E S e a→E S' e a):aN k E S' v l:=by
 rcases h with h | ⟨b,off,cap,o,cs,rfl,hc,hb,hcs,hel⟩
 ·exact .inl h
 ·refine .inr ⟨b,off,cap,o,cs,rfl,hc,Ae hb hn,?_,fun i a hi=>?_⟩
  ·unfold cS;rw[hh b rfl];exact hcs
  ·obtain⟨e,e1,e2,e3⟩:=hel i a hi;exact⟨e,e1,e2,hE e a e3⟩
theorem lT{S S':St}{v:AV}{l:List Int}(h:bN .i64 S v l)(hn:S.nx≤S'.nx)(hh:∀c,cL v=some c→S'.h.get c=S.h.get c):bN .i64 S' v l:=ofG (aN.moveB (toG h) hn hh fun _ _ h=>h)
theorem aB8{k:IntKind}{X:St}{v:AV}{l:List Int}{c:Nat}(h:bN k X v l)(hc:cL v=some c):c<X.nx:=by
 rcases h with⟨_,rfl | rfl⟩ | ⟨b,off,cap,o,cs,rfl,_,hb,_⟩
 ·cases hc
 ·cases hc
 ·cases hc;exact hb
end Go.Ev.Gl
