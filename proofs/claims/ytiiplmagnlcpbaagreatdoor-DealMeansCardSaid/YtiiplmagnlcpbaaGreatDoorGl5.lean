import Derived.Test.YtiiplmagnlcpbaaGreatDoorGl4
set_option linter.unusedSimpArgs false
set_option linter.unusedVariables false
set_option maxHeartbeats 0
namespace Go.Ev.Gl
end Go.Ev.Gl
namespace Go.Ev.Gl
end Go.Ev.Gl
namespace Go.Ev.Gl
variable {fns:T dD}
theorem aRj{z0 z1:AV}{x y:cP}{F:Fr}{h:T AB}(h1:(x.val F).cells=some [x.val F])(h2:(y.val F).cells=some [y.val F]):iT (.build [z0,z1] [(0,1,x),(1,1,y)]) F h=some (.agg [x.val F,y.val F]):=by
 show(aU (eQ [z0,z1] (fG F [(0,1,x),(1,1,y)])) fun cs=>some (AV.agg cs))=_;simp only[fG,eQ,h1,h2,aH];rfl
def noU:bo->Bool
 | []=>true
 | .int .u32 _::_=>false
 | _::l=>noU l
theorem aKy:∀ {cs:bo} {i:Nat} {n:Int},noU cs=true->cs[i]? ≠some (.int .u32 n)
 | [],_,_,_=>by simp
 | x::l,0,n,h=>by
  intro e;simp at e;subst e;simp [noU] at h
 | x::l,i+1,n,h=>by
  rw[Fy];refine aKy (cs:=l) ?_;cases x with
  | int k m=>cases k<;>first | exact h | (simp [noU] at h)
  | _=>exact h
theorem cO.stU{S S':St}{v:AV}{l:bt}{b:Nat}{cs cs':bo}{o o':Bool}{s s':Nat}(h:cO S v l)(hb:S.h.get b=some (.cells cs o s))(hn:noU cs=true)(hs:cB b S S')(hb':S'.h.get b=some (.cells cs' o' s')):cO S' v l:=by
 rcases h with h | ⟨b1,off,cap,o1,cs1,rfl,hc,hlt,hcs,hel⟩
 ·exact .inl h
 ·by_cases e:b1=b
  ·subst e;have h0:l= []:=by
    cases l with
    | nil=>rfl
    | cons x l=>
     have:=hel 0 (Int.ofNat x) (by simp);unfold cA at hcs;rw[hb,aH] at hcs;cases hcs;exact absurd this (aKy hn)
   subst h0;refine .inr ⟨b1,off,cap,o1,cs',rfl,hc,Ag hlt hs.1,by unfold cA;rw[hb',aH];rfl,fun i x hi=>by simp at hi⟩
  ·refine .inr ⟨b1,off,cap,o1,cs1,rfl,hc,Ag hlt hs.1,?_,hel⟩;unfold cA at hcs ⊢;rw[hs.2 _ hlt e];exact hcs
theorem dG.stU{S S':St}{v:AV}{n:Nat}{b:Nat}{cs cs':bo}{o o':Bool}{s s':Nat}(h:dG S v n)(hb:S.h.get b=some (.cells cs o s))(hn:noU cs=true)(hs:cB b S S')(hb':S'.h.get b=some (.cells cs' o' s')):dG S' v n:=by
 have⟨l,h1,h2,h3⟩:=h;exact⟨l,h1.stU hb hn hs hb',h2,h3⟩
theorem cE.stU{S S':St}{v:AV}{q:Rat}{b:Nat}{cs cs':bo}{o o':Bool}{s s':Nat}(h:cE S v q)(hb:S.h.get b=some (.cells cs o s))(hn:noU cs=true)(hs:cB b S S')(hb':S'.h.get b=some (.cells cs' o' s')):cE S' v q:=by
 have⟨nv,dv,h1,h2,h3⟩:=h;exact⟨nv,dv,h1,h2.stU hb hn hs hb',h3.stU hb hn hs hb'⟩
theorem aLc(e:qM){a b:Int}(hb:b≠0):kA .rem e (.int .i64 a) (.int .i64 b)=some (.int .i64 (a.tmod b)):=by
 show cU .rem .i64 a .i64 b=_;unfold cU;rw[show eX .rem=false from rfl,aR,fR,aN];show aNS .i64 a b=_;unfold aNS;split
 ·rename_i m n;have h0:Nat.beq n 0=false:=by
   rw[Ca];intro h;rw[Az] at h;subst h;exact hb rfl
  rw[h0,aR];rfl
 ·have h0:ieq b (.ofNat 0)=false:=by
   rw[Ca];intro h;rw[nJ] at h;exact hb (by simpa using h)
  rw[h0,aR]
theorem aY(x:cP)(F:Fr)(h:T AB):iT (.cl x) F h=sP (x.val F):=rfl
theorem bT(x:cP):dK (.cl x)=false:=rfl
theorem bB(b o:Nat):sP (.ptr b o)=some (.ptr b o):=rfl
section
variable {h:T AB}{b:Nat}{x y:AV}{o:Bool}{s:Nat}
end
theorem aL6{x y:AV}(h1:cQ x x=true)(h2:cQ y y=true):cQ (.agg [x,y]) (.agg [x,y])=true:=by
 simp only[cQ,oZ,h1,h2,aN]
def bP:AV->Option Nat
 | .sl b _ _ _ _=>some b
 | _=>none
def lN(k:Nat)(S0 S:St)(v:AV)(n:Nat)(cs:bo):Prop:=
 (v= .ce/\n=0/\cs= [])\/∃b,v= .sl b 0 n n true/\S0.nx<=b/\b<S.nx/\S.h.get b=some (.cells cs true k)/\cs.length=n * k
theorem lN.step{k n:Nat}{S0 S S':St}{v:AV}{cs:bo}(h:lN k S0 S v n cs)(hs:Same S S'):lN k S0 S' v n cs:=by
 rcases h with h | ⟨b,h1,h2,h3,h4,h5⟩
 ·exact .inl h
 ·exact .inr ⟨b,h1,h2,Ag h3 hs.1,(hs.2 b h3).trans h4,h5⟩
theorem ia8{b m N i:Nat}{o:Bool}(hi:i<m):dT (.slice 1) (.sl b 0 m N o) i=some (.ptr b i):=by
 show bO (Nat.blt i m) (some (AV.ptr b (0+i * 1))) none=_;rw[show Nat.blt i m=true from Ah hi,aN];simp
end Go.Ev.Gl
