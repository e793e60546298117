import Derived.Test.YtdkehphobhnjoaaGl27
set_option maxHeartbeats 0
set_option linter.unusedSimpArgs false
set_option linter.unusedVariables false
namespace Go.Ev.Gl
variable {fns:T dU}
end Go.Ev.Gl
namespace Go.Ev.Gl
open Go.Sort
variable {fns:T dU}
def aQ2(g:bD)(L:bt)(a b:bu):Prop:=(jE g L≠0/\a= []/\b= [])\/(jE g L=0/\aPT g L a b)
theorem aKK{S S':St}{g:bD}{L:bt}{x y:AV}(h1:jE g L≠0->x= .cb/\y= .cb)(h2:jE g L=0->∃a b,mG S S' x a/\mG S S' y b/\aPT g L a b):∃a b,aQ2 g L a b/\bO .i64 S' x a/\bO .i64 S' y b:=by
 by_cases h0:jE g L=0
 ·have⟨a,b,p,q,r⟩:=h2 h0;exact⟨a,b,.inr ⟨h0,r⟩,p.is,q.is⟩
 ·have⟨e1,e2⟩:=h1 h0;rw[e1,e2];exact⟨[],[],.inl ⟨h0,rfl,rfl⟩,.inl ⟨rfl,.inl rfl⟩,.inl ⟨rfl,.inl rfl⟩⟩
def aOZ(g:bD)(L W:bt)(e:Int):Prop:=(jE g L≠0/\W= []/\e=jE g L)\/(jE g L=0/\aBw (eU g.bk.length) L 1000 none/\W= []/\e=5)\/(jE g L=0/\∃W0,aBw (eU g.bk.length) L 1000 (some W0)/\W.Perm W0/\W.Pairwise lQ/\e=0)
theorem aMF{g:bD}{L W W':bt}{e e':Int}(h:aOZ g L W e)(h':aOZ g L W' e'):W=W'/\e=e':=by
 rcases h with⟨h0,rfl,rfl⟩ | ⟨h0,h1,rfl,rfl⟩ | ⟨h0,W0,h1,h2,h3,rfl⟩
 ·rcases h' with⟨_,rfl,rfl⟩ | ⟨k0,_⟩ | ⟨k0,_⟩
  ·exact⟨rfl,rfl⟩
  ·exact absurd k0 h0
  ·exact absurd k0 h0
 ·rcases h' with⟨k0,_⟩ | ⟨_,_,rfl,rfl⟩ | ⟨k0,W1,k1,_⟩
  ·exact absurd h0 k0
  ·exact⟨rfl,rfl⟩
  ·have:=aD4 h1 k1;cases this
 ·rcases h' with⟨k0,_⟩ | ⟨_,k1,_⟩ | ⟨k0,W1,k1,k2,k3,rfl⟩
  ·exact absurd h0 k0
  ·have:=aD4 h1 k1;cases this
  ·have:=aD4 h1 k1;cases this;exact⟨aCQ (h2.trans k2.symm) h3 k3,rfl⟩
theorem aEG{S':St}{r:AV}{g:bD}{L:bt}(h:aQs S' r g L):∃v W e,r= .tup [v,.int .i64 e]/\aP 1 pF S' v W/\aOZ g L W e:=by
 rcases h with⟨h0,rfl⟩ | ⟨h0,h1,rfl⟩ | ⟨h0,W,W',v,h1,h2,h3,h4,rfl⟩
 ·exact⟨_,[],_,rfl,.inl ⟨rfl,.inl rfl⟩,.inl ⟨h0,rfl,rfl⟩⟩
 ·exact⟨_,[],_,rfl,.inl ⟨rfl,.inl rfl⟩,.inr (.inl ⟨h0,h1,rfl,rfl⟩)⟩
 ·exact⟨_,W',_,rfl,h4,.inr (.inr ⟨h0,W,h1,h2,h3,rfl⟩)⟩
end Go.Ev.Gl
namespace Go.Ev.Gl
section
variable {P:Program}{σ:Env}{S:St}{w:World}
end
end Go.Ev.Gl
