import Derived.Test.YtkklchgmpejobaaGreatDoorGl4
set_option maxHeartbeats 16000000
set_option linter.unusedSimpArgs false
set_option linter.unusedVariables false
namespace Go.Ev.Gl
end Go.Ev.Gl
namespace Go.Ev.Gl
end Go.Ev.Gl
namespace Go.Ev.Gl
variable {fns:T cV}
def tR(l:List Nat):List AV:=l.map fun x=>AV.int .u8 ((x:Nat):Int)
theorem aD6(l:List Nat):(tR l).length=l.length:=by simp [tR]
theorem aLH:∀ {l:List Nat},(∀x∈l,x≤255)→bytesOf (tR l)=some l
 | [],_=>rfl
 | x::l,h=>by
  show bN (Nat.ble x 255) (aX (bytesOf (tR l)) fun r=>some (x::r)) none=_;rw[Aj (h x (Cd ..)),aL,aLH fun y hy=>h y (Bq _ hy)];rfl
theorem jX(x ix:cK)(F:Fr)(h:T AB):iI (.idxStr x ix) F h=aX (fB (ix.val F)) fun i=>mM (x.val F) i:=rfl
theorem aBp{s:List Nat}{i:Nat}(h:i<s.length):mM (.str s) i=some (.int .u8 ((s[i]?.getD 0:Nat):Int)):=by
 show(aX (nth s i) fun b=>some (AV.int .u8 (.ofNat b)))=_;rw[nD,Ab h,aK];rfl
theorem gK(x y:cK):dC (.idxStr x y)=false:=rfl
theorem aPF{z0 z1:AV}{x y:cK}{F:Fr}{h:T AB}(h1:(x.val F).cells=some [x.val F])(h2:(y.val F).cells=some [y.val F]):iI (.build [z0,z1] [(0,1,x),(1,1,y)]) F h=some (.agg [x.val F,y.val F]):=by
 show(aX (fG [z0,z1] (eT F [(0,1,x),(1,1,y)])) fun cs=>some (AV.agg cs))=_;simp only[eT,fG,h1,h2,aK];rfl
theorem aJz{s:List Nat}{F:Fr}{x y:cK}{i j:Nat}(hx:fB (x.val F)=some i)(hy:fB (y.val F)=some j)(h1:i≤j)(h2:j≤s.length):qX .str (.str s) (some x) (some y) none F=some (.str ((s.take j).drop i)):=by
 show aDV s (some x) (some y) none F=_;simp only[aDV,iR,hx,hy,aK,dO];rw[Aj h2,aL,Aj h1,aL];unfold cut;rw[fI,fT,if_pos (by simp;omega),aK];congr 2;rw[List.drop_take]
theorem aA6:∀a b:List Nat,lD a b=decide (a=b)
 | [],[]=>rfl
 | [],b::y=>rfl
 | a::x,[]=>rfl
 | a::x,b::y=>by
  show bN (Nat.beq a b) (lD x y) false=_;rw[aA6 x y];by_cases h:a=b
  ·subst h;rw[Nat.beq_refl,aL];simp
  ·rw[show Nat.beq a b=false from Bv.2 fun e=>h (Ci e),aQ];simp [h]
theorem aEl(e:oO){a b:Int}(hb:b≠0):eJ .rem e (.int .i64 a) (.int .i64 b)=some (.int .i64 (a.tmod b)):=by
 show cN .rem .i64 a .i64 b=_;unfold cN;rw[show dP .rem=false from rfl,aQ,eQ,aL];show aNk .i64 a b=_;unfold aNk;split
 ·rename_i m n;have h0:Nat.beq n 0=false:=by
   rw[Bv];intro h;rw[Bb] at h;subst h;exact hb rfl
  rw[h0,aQ];rfl
 ·have h0:ieq b (.ofNat 0)=false:=by
   rw[Bv];intro h;rw[lG] at h;exact hb (by simpa using h)
  rw[h0,aQ]
theorem bE(x:cK)(F:Fr)(h:T AB):iI (.nilchk x) F h=uY (x.val F):=rfl
theorem bO(x:cK):dC (.nilchk x)=false:=rfl
theorem bF(b o:Nat):uY (.ptr b o)=some (.ptr b o):=rfl
section
variable {h:T AB}{b:Nat}{x y:AV}{o:Bool}{s:Nat}
end
theorem aKo{x y:AV}(h1:cM x x=true)(h2:cM y y=true):cM (.agg [x,y]) (.agg [x,y])=true:=by
 simp only[cM,oN,h1,h2,aL]
def aT:AV→Option Nat
 | .sl b _ _ _ _=>some b
 | _=>none
def gQ(k:Nat)(S0 S:St)(v:AV)(n:Nat)(cs:List AV):Prop:=
 (v= .nilsl∧n=0∧cs= [])∨∃b,v= .sl b 0 n n true∧S0.nx≤b∧b<S.nx∧S.h.get b=some (.cells cs true k)∧cs.length=n * k
theorem gQ.step{k n:Nat}{S0 S S':St}{v:AV}{cs:List AV}(h:gQ k S0 S v n cs)(hs:Same S S'):gQ k S0 S' v n cs:=by
 rcases h with h | ⟨b,h1,h2,h3,h4,h5⟩
 ·exact .inl h
 ·exact .inr ⟨b,h1,h2,Ah h3 hs.1,(hs.2 b h3).trans h4,h5⟩
theorem ia8{b m N i:Nat}{o:Bool}(hi:i<m):eS (.slice 1) (.sl b 0 m N o) i=some (.ptr b i):=by
 show bN (Nat.blt i m) (some (AV.ptr b (0+i * 1))) none=_;rw[show Nat.blt i m=true from Aj hi,aL];simp
theorem aRv{h:T AB}{b m N sz:Nat}{W:List Nat}{o o':Bool}(hg:h.get b=some (.cells (tR W) o sz))(hm:m≤W.length)(hW:∀x∈W.take m,x≤255):wM .bytesToStr (.sl b 0 m N o') h=some (.str (W.take m)):=by
 show(aX (aX (cL h b) fun cs=>cut cs 0 m) fun cs=>aX (bytesOf cs) fun s=>some (AV.str s))=_;unfold cL;rw[hg,aK];show(aX (aX (some (tR W)) fun cs=>cut cs 0 m) _)=_;rw[aK];have hcut:cut (tR W) 0 m=some (tR (W.take m)):=by
  unfold cut;rw[fI,fT,Ct,if_pos (by rw[aD6];exact hm)];unfold tR;rw[List.map_take]
 rw[hcut,aK,aLH hW,aK]
end Go.Ev.Gl
