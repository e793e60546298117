import Derived.Test.YtkklchgmpejobaaGreatDoorGl4
set_option maxHeartbeats 16000000
set_option linter.unusedSimpArgs false
set_option linter.unusedVariables false
namespace Go.Ev.Gl
end Go.Ev.Gl
namespace Go.Ev.Gl
end Go.Ev.Gl
namespace Go.Ev.Gl
variable {fns:T cW}
def uU(l:List Nat):List AV:=l.map fun x=>AV.int .u8 ((x:Nat):Int)
theorem aEp(l:List Nat):(uU l).length=l.length:=by simp [uU]
theorem aKL:∀ {l:List Nat},(∀x∈l,x≤255)→bytesOf (uU l)=some l
 | [],_=>rfl
 | x::l,h=>by
  show bK (Nat.ble x 255) (aZ (bytesOf (uU l)) fun r=>some (x::r)) none=_;rw[Aj (h x (Ed ..)),aP,aKL fun y hy=>h y (Cl _ hy)];rfl
theorem kH(x ix:cF)(F:Fr)(h:T AB):gT (.idxStr x ix) F h=aZ (eZ (ix.val F)) fun i=>nM (x.val F) i:=rfl
theorem aBF{s:List Nat}{i:Nat}(h:i<s.length):nM (.str s) i=some (.int .u8 ((s[i]?.getD 0:Nat):Int)):=by
 show(aZ (nth s i) fun b=>some (AV.int .u8 (.ofNat b)))=_;rw[kA,Ad h,aM];rfl
theorem gG(x y:cF):dO (.idxStr x y)=false:=rfl
theorem aO3{z0 z1:AV}{x y:cF}{F:Fr}{h:T AB}(h1:(x.val F).cells=some [x.val F])(h2:(y.val F).cells=some [y.val F]):gT (.build [z0,z1] [(0,1,x),(1,1,y)]) F h=some (.agg [x.val F,y.val F]):=by
 show(aZ (gM [z0,z1] (fJ F [(0,1,x),(1,1,y)])) fun cs=>some (AV.agg cs))=_;simp only[fJ,gM,h1,h2,aM];rfl
theorem aI4{s:List Nat}{F:Fr}{x y:cF}{i j:Nat}(hx:eZ (x.val F)=some i)(hy:eZ (y.val F)=some j)(h1:i≤j)(h2:j≤s.length):rR .str (.str s) (some x) (some y) none F=some (.str ((s.take j).drop i)):=by
 show aDy s (some x) (some y) none F=_;simp only[aDy,iJ,hx,hy,aM,dZ];rw[Aj h2,aP,Aj h1,aP];unfold cut;rw[fO,gJ,if_pos (by simp;omega),aM];congr 2;rw[List.drop_take]
theorem aBX:∀a b:List Nat,lD a b=decide (a=b)
 | [],[]=>rfl
 | [],b::y=>rfl
 | a::x,[]=>rfl
 | a::x,b::y=>by
  show bK (Nat.beq a b) (lD x y) false=_;rw[aBX x y];by_cases h:a=b
  ·subst h;rw[Nat.beq_refl,aP];simp
  ·rw[show Nat.beq a b=false from Ch.2 fun e=>h (Bx e),aU];simp [h]
theorem cS(x:cF)(F:Fr)(h:T AB):gT (.nilchk x) F h=vG (x.val F):=rfl
theorem dC(x:cF):dO (.nilchk x)=false:=rfl
theorem cQ(b o:Nat):vG (.ptr b o)=some (.ptr b o):=rfl
section
variable {h:T AB}{b:Nat}{x y:AV}{o:Bool}{s:Nat}
end
theorem aEU{x y:AV}(h1:bW x x=true)(h2:bW y y=true):bW (.agg [x,y]) (.agg [x,y])=true:=by
 simp only[bW,mU,h1,h2,aP]
def aX:AV→Option Nat
 | .sl b _ _ _ _=>some b
 | _=>none
def iD(k:Nat)(S0 S:St)(v:AV)(n:Nat)(cs:List AV):Prop:=
 (v= .nilsl∧n=0∧cs= [])∨∃b,v= .sl b 0 n n true∧S0.nx≤b∧b<S.nx∧S.h.get b=some (.cells cs true k)∧cs.length=n * k
theorem iD.step{k n:Nat}{S0 S S':St}{v:AV}{cs:List AV}(h:iD k S0 S v n cs)(hs:Same S S'):iD k S0 S' v n cs:=by
 rcases h with h | ⟨b,h1,h2,h3,h4,h5⟩
 ·exact .inl h
 ·exact .inr ⟨b,h1,h2,Ae h3 hs.1,(hs.2 b h3).trans h4,h5⟩
theorem ia8{b m N i:Nat}{o:Bool}(hi:i<m):eJ (.slice 1) (.sl b 0 m N o) i=some (.ptr b i):=by
 show bK (Nat.blt i m) (some (AV.ptr b (0+i * 1))) none=_;rw[show Nat.blt i m=true from Aj hi,aP];simp
theorem aQp{h:T AB}{b m N sz:Nat}{W:List Nat}{o o':Bool}(hg:h.get b=some (.cells (uU W) o sz))(hm:m≤W.length)(hW:∀x∈W.take m,x≤255):wZ .bytesToStr (.sl b 0 m N o') h=some (.str (W.take m)):=by
 show(aZ (aZ (cK h b) fun cs=>cut cs 0 m) fun cs=>aZ (bytesOf cs) fun s=>some (AV.str s))=_;unfold cK;rw[hg,aM];show(aZ (aZ (some (uU W)) fun cs=>cut cs 0 m) _)=_;rw[aM];have hcut:cut (uU W) 0 m=some (uU (W.take m)):=by
  unfold cut;rw[fO,gJ,Cn,if_pos (by rw[aEp];exact hm)];unfold uU;rw[List.map_take]
 rw[hcut,aM,aKL hW,aM]
end Go.Ev.Gl
