import Derived.Test.YtkklchgmpejobaaDoorGl4
set_option maxHeartbeats 16000000
set_option linter.unusedSimpArgs false
set_option linter.unusedVariables false
namespace Go.Ev.Gl
end Go.Ev.Gl
namespace Go.Ev.Gl
end Go.Ev.Gl
namespace Go.Ev.Gl
variable {fns:T dB}
def tP(l:List Nat):List AV:=l.map fun x=>AV.int .u8 ((x:Nat):Int)
theorem aD0(l:List Nat):(tP l).length=l.length:=by simp [tP]
theorem aKR:∀ {l:List Nat},(∀x∈l,x≤255)→bytesOf (tP l)=some l
 | [],_=>rfl
 | x::l,h=>by
  show bL (Nat.ble x 255) (aW (bytesOf (tP l)) fun r=>some (x::r)) none=_;rw[Aj (h x (Cn ..)),aL,aKR fun y hy=>h y (Bw _ hy)];rfl
theorem jU(x ix:cK)(F:Fr)(h:T AB):hJ (.idxStr x ix) F h=aW (fA (ix.val F)) fun i=>mS (x.val F) i:=rfl
theorem aAK{s:List Nat}{i:Nat}(h:i<s.length):mS (.str s) i=some (.int .u8 ((s[i]?.getD 0:Nat):Int)):=by
 show(aW (nth s i) fun b=>some (AV.int .u8 (.ofNat b)))=_;rw[mP,Ad h,aJ];rfl
theorem gJ(x y:cK):dE (.idxStr x y)=false:=rfl
theorem aOn{z0 z1:AV}{x y:cK}{F:Fr}{h:T AB}(h1:(x.val F).cells=some [x.val F])(h2:(y.val F).cells=some [y.val F]):hJ (.build [z0,z1] [(0,1,x),(1,1,y)]) F h=some (.agg [x.val F,y.val F]):=by
 show(aW (fI [z0,z1] (eY F [(0,1,x),(1,1,y)])) fun cs=>some (AV.agg cs))=_;simp only[eY,fI,h1,h2,aJ];rfl
theorem aIn{s:List Nat}{F:Fr}{x y:cK}{i j:Nat}(hx:fA (x.val F)=some i)(hy:fA (y.val F)=some j)(h1:i≤j)(h2:j≤s.length):qJ .str (.str s) (some x) (some y) none F=some (.str ((s.take j).drop i)):=by
 show aCG s (some x) (some y) none F=_;simp only[aCG,iL,hx,hy,aJ,dR];rw[Aj h2,aL,Aj h1,aL];unfold cut;rw[fF,fQ,if_pos (by simp;omega),aJ];congr 2;rw[List.drop_take]
theorem aA2:∀a b:List Nat,kO a b=decide (a=b)
 | [],[]=>rfl
 | [],b::y=>rfl
 | a::x,[]=>rfl
 | a::x,b::y=>by
  show bL (Nat.beq a b) (kO x y) false=_;rw[aA2 x y];by_cases h:a=b
  ·subst h;rw[Nat.beq_refl,aL];simp
  ·rw[show Nat.beq a b=false from Br.2 fun e=>h (Ce e),aR];simp [h]
theorem aKb(e:oG){a b:Int}(hb:b≠0):eX .rem e (.int .i64 a) (.int .i64 b)=some (.int .i64 (a.tmod b)):=by
 show cP .rem .i64 a .i64 b=_;unfold cP;rw[show dP .rem=false from rfl,aR,eG,aL];show aLN .i64 a b=_;unfold aLN;split
 ·rename_i m n;have h0:Nat.beq n 0=false:=by
   rw[Br];intro h;rw[Ax] at h;subst h;exact hb rfl
  rw[h0,aR];rfl
 ·have h0:ieq b (.ofNat 0)=false:=by
   rw[Br];intro h;rw[jO] at h;exact hb (by simpa using h)
  rw[h0,aR]
theorem bD(x:cK)(F:Fr)(h:T AB):hJ (.nilchk x) F h=tO (x.val F):=rfl
theorem bO(x:cK):dE (.nilchk x)=false:=rfl
theorem bE(b o:Nat):tO (.ptr b o)=some (.ptr b o):=rfl
section
variable {h:T AB}{b:Nat}{x y:AV}{o:Bool}{s:Nat}
end
theorem aD4{x y:AV}(h1:cL x x=true)(h2:cL y y=true):cL (.agg [x,y]) (.agg [x,y])=true:=by
 simp only[cL,oI,h1,h2,aL]
def aS:AV→Option Nat
 | .sl b _ _ _ _=>some b
 | _=>none
def gQ(k:Nat)(S0 S:St)(v:AV)(n:Nat)(cs:List AV):Prop:=
 (v= .nilsl∧n=0∧cs= [])∨∃b,v= .sl b 0 n n true∧S0.nx≤b∧b<S.nx∧S.h.get b=some (.cells cs true k)∧cs.length=n * k
theorem gQ.step{k n:Nat}{S0 S S':St}{v:AV}{cs:List AV}(h:gQ k S0 S v n cs)(hs:Same S S'):gQ k S0 S' v n cs:=by
 rcases h with h | ⟨b,h1,h2,h3,h4,h5⟩
 ·exact .inl h
 ·exact .inr ⟨b,h1,h2,Af h3 hs.1,(hs.2 b h3).trans h4,h5⟩
theorem ia8{b m N i:Nat}{o:Bool}(hi:i<m):eQ (.slice 1) (.sl b 0 m N o) i=some (.ptr b i):=by
 show bL (Nat.blt i m) (some (AV.ptr b (0+i * 1))) none=_;rw[show Nat.blt i m=true from Aj hi,aL];simp
theorem aQs{h:T AB}{b m N sz:Nat}{W:List Nat}{o o':Bool}(hg:h.get b=some (.cells (tP W) o sz))(hm:m≤W.length)(hW:∀x∈W.take m,x≤255):wG .bytesToStr (.sl b 0 m N o') h=some (.str (W.take m)):=by
 show(aW (aW (cM h b) fun cs=>cut cs 0 m) fun cs=>aW (bytesOf cs) fun s=>some (AV.str s))=_;unfold cM;rw[hg,aJ];show(aW (aW (some (tP W)) fun cs=>cut cs 0 m) _)=_;rw[aJ];have hcut:cut (tP W) 0 m=some (tP (W.take m)):=by
  unfold cut;rw[fF,fQ,Co,if_pos (by rw[aD0];exact hm)];unfold tP;rw[List.map_take]
 rw[hcut,aJ,aKR hW,aJ]
end Go.Ev.Gl
