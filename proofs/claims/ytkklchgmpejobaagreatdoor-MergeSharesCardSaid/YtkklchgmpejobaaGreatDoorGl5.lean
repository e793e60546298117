import Derived.Test.YtkklchgmpejobaaGreatDoorGl4
set_option maxHeartbeats 16000000
set_option linter.unusedSimpArgs false
set_option linter.unusedVariables false
namespace Go.Ev.Gl
end Go.Ev.Gl
namespace Go.Ev.Gl
end Go.Ev.Gl
namespace Go.Ev.Gl
variable {fns:T cW}
def uI(l:List Nat):List AV:=l.map fun x=>AV.int .u8 ((x:Nat):Int)
theorem aEj(l:List Nat):(uI l).length=l.length:=by simp [uI]
theorem aMz:∀ {l:List Nat},(∀x∈l,x≤255)→bytesOf (uI l)=some l
 | [],_=>rfl
 | x::l,h=>by
  show bN (Nat.ble x 255) (aX (bytesOf (uI l)) fun r=>some (x::r)) none=_;rw[Aj (h x (Cp ..)),aL,aMz fun y hy=>h y (Bw _ hy)];rfl
theorem jZ(x ix:cL)(F:Fr)(h:T AB):iG (.idxStr x ix) F h=aX (eY (ix.val F)) fun i=>nF (x.val F) i:=rfl
theorem aA2{s:List Nat}{i:Nat}(h:i<s.length):nF (.str s) i=some (.int .u8 ((s[i]?.getD 0:Nat):Int)):=by
 show(aX (nth s i) fun b=>some (AV.int .u8 (.ofNat b)))=_;rw[mQ,Ad h,aK];rfl
theorem gN(x y:cL):dE (.idxStr x y)=false:=rfl
theorem aPG{z0 z1:AV}{x y:cL}{F:Fr}{h:T AB}(h1:(x.val F).cells=some [x.val F])(h2:(y.val F).cells=some [y.val F]):iG (.build [z0,z1] [(0,1,x),(1,1,y)]) F h=some (.agg [x.val F,y.val F]):=by
 show(aX (fL [z0,z1] (eU F [(0,1,x),(1,1,y)])) fun cs=>some (AV.agg cs))=_;simp only[eU,fL,h1,h2,aK];rfl
theorem aI8{s:List Nat}{F:Fr}{x y:cL}{i j:Nat}(hx:eY (x.val F)=some i)(hy:eY (y.val F)=some j)(h1:i≤j)(h2:j≤s.length):qS .str (.str s) (some x) (some y) none F=some (.str ((s.take j).drop i)):=by
 show aD0 s (some x) (some y) none F=_;simp only[aD0,iQ,hx,hy,aK,dL];rw[Aj h2,aL,Aj h1,aL];unfold cut;rw[fH,fX,if_pos (by simp;omega),aK];congr 2;rw[List.drop_take]
theorem aBy:∀a b:List Nat,lA a b=decide (a=b)
 | [],[]=>rfl
 | [],b::y=>rfl
 | a::x,[]=>rfl
 | a::x,b::y=>by
  show bN (Nat.beq a b) (lA x y) false=_;rw[aBy x y];by_cases h:a=b
  ·subst h;rw[Nat.beq_refl,aL];simp
  ·rw[show Nat.beq a b=false from Bs.2 fun e=>h (Cf e),aR];simp [h]
theorem aKO(e:oR){a b:Int}(hb:b≠0):eX .rem e (.int .i64 a) (.int .i64 b)=some (.int .i64 (a.tmod b)):=by
 show cP .rem .i64 a .i64 b=_;unfold cP;rw[show dS .rem=false from rfl,aR,eG,aL];show aLE .i64 a b=_;unfold aLE;split
 ·rename_i m n;have h0:Nat.beq n 0=false:=by
   rw[Bs];intro h;rw[Ax] at h;subst h;exact hb rfl
  rw[h0,aR];rfl
 ·have h0:ieq b (.ofNat 0)=false:=by
   rw[Bs];intro h;rw[kG] at h;exact hb (by simpa using h)
  rw[h0,aR]
theorem bD(x:cL)(F:Fr)(h:T AB):iG (.nilchk x) F h=tX (x.val F):=rfl
theorem bO(x:cL):dE (.nilchk x)=false:=rfl
theorem bE(b o:Nat):tX (.ptr b o)=some (.ptr b o):=rfl
section
variable {h:T AB}{b:Nat}{x y:AV}{o:Bool}{s:Nat}
end
theorem aJJ{x y:AV}(h1:cJ x x=true)(h2:cJ y y=true):cJ (.agg [x,y]) (.agg [x,y])=true:=by
 simp only[cJ,mK,h1,h2,aL]
def aU:AV→Option Nat
 | .sl b _ _ _ _=>some b
 | _=>none
def iD(k:Nat)(S0 S:St)(v:AV)(n:Nat)(cs:List AV):Prop:=
 (v= .nilsl∧n=0∧cs= [])∨∃b,v= .sl b 0 n n true∧S0.nx≤b∧b<S.nx∧S.h.get b=some (.cells cs true k)∧cs.length=n * k
theorem iD.step{k n:Nat}{S0 S S':St}{v:AV}{cs:List AV}(h:iD k S0 S v n cs)(hs:Same S S'):iD k S0 S' v n cs:=by
 rcases h with h | ⟨b,h1,h2,h3,h4,h5⟩
 ·exact .inl h
 ·exact .inr ⟨b,h1,h2,Ah h3 hs.1,(hs.2 b h3).trans h4,h5⟩
theorem ia8{b m N i:Nat}{o:Bool}(hi:i<m):eI (.slice 1) (.sl b 0 m N o) i=some (.ptr b i):=by
 show bN (Nat.blt i m) (some (AV.ptr b (0+i * 1))) none=_;rw[show Nat.blt i m=true from Aj hi,aL];simp
theorem aRM{h:T AB}{b m N sz:Nat}{W:List Nat}{o o':Bool}(hg:h.get b=some (.cells (uI W) o sz))(hm:m≤W.length)(hW:∀x∈W.take m,x≤255):vV .bytesToStr (.sl b 0 m N o') h=some (.str (W.take m)):=by
 show(aX (aX (cN h b) fun cs=>cut cs 0 m) fun cs=>aX (bytesOf cs) fun s=>some (AV.str s))=_;unfold cN;rw[hg,aK];show(aX (aX (some (uI W)) fun cs=>cut cs 0 m) _)=_;rw[aK];have hcut:cut (uI W) 0 m=some (uI (W.take m)):=by
  unfold cut;rw[fH,fX,Cq,if_pos (by rw[aEj];exact hm)];unfold uI;rw[List.map_take]
 rw[hcut,aK,aMz hW,aK]
end Go.Ev.Gl
