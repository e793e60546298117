import Derived.Test.YtkklchgmpejobaaDoorGl4
set_option maxHeartbeats 16000000
set_option linter.unusedSimpArgs false
set_option linter.unusedVariables false
namespace Go.Ev.Gl
end Go.Ev.Gl
namespace Go.Ev.Gl
end Go.Ev.Gl
namespace Go.Ev.Gl
variable {fns:T cR}
def qQ(l:List Nat):List AV:=l.map fun x=>AV.int .u8 ((x:Nat):Int)
theorem aCN(l:List Nat):(qQ l).length=l.length:=by simp [qQ]
theorem aJz:∀ {l:List Nat},(∀x∈l,x≤255)→bytesOf (qQ l)=some l
 | [],_=>rfl
 | x::l,h=>by
  show bG (Nat.ble x 255) (aW (bytesOf (qQ l)) fun r=>some (x::r)) none=_;rw[Ak (h x (Dl ..)),aM,aJz fun y hy=>h y (Cd _ hy)];rfl
theorem jB(x ix:cC)(F:Fr)(h:T AB):gB (.idxStr x ix) F h=aW (eG (ix.val F)) fun i=>lA (x.val F) i:=rfl
theorem zJ{s:List Nat}{i:Nat}(h:i<s.length):lA (.str s) i=some (.int .u8 ((s[i]?.getD 0:Nat):Int)):=by
 show(aW (nth s i) fun b=>some (AV.int .u8 (.ofNat b)))=_;rw[iO,Ad h,aO];rfl
theorem fK(x y:cC):dE (.idxStr x y)=false:=rfl
theorem aMi{z0 z1:AV}{x y:cC}{F:Fr}{h:T AB}(h1:(x.val F).cells=some [x.val F])(h2:(y.val F).cells=some [y.val F]):gB (.build [z0,z1] [(0,1,x),(1,1,y)]) F h=some (.agg [x.val F,y.val F]):=by
 show(aW (fY [z0,z1] (fF F [(0,1,x),(1,1,y)])) fun cs=>some (AV.agg cs))=_;simp only[fF,fY,h1,h2,aO];rfl
theorem aG9{s:List Nat}{F:Fr}{x y:cC}{i j:Nat}(hx:eG (x.val F)=some i)(hy:eG (y.val F)=some j)(h1:i≤j)(h2:j≤s.length):pT .str (.str s) (some x) (some y) none F=some (.str ((s.take j).drop i)):=by
 show aB2 s (some x) (some y) none F=_;simp only[aB2,gE,hx,hy,aO,dI];rw[Ak h2,aM,Ak h1,aM];unfold cut;rw[fO,gC,if_pos (by simp;omega),aO];congr 2;rw[List.drop_take]
theorem aAv:∀a b:List Nat,jL a b=decide (a=b)
 | [],[]=>rfl
 | [],b::y=>rfl
 | a::x,[]=>rfl
 | a::x,b::y=>by
  show bG (Nat.beq a b) (jL x y) false=_;rw[aAv x y];by_cases h:a=b
  ·subst h;rw[Nat.beq_refl,aM];simp
  ·rw[show Nat.beq a b=false from Cf.2 fun e=>h (Bs e),aT];simp [h]
theorem cG(x:cC)(F:Fr)(h:T AB):gB (.nilchk x) F h=rH (x.val F):=rfl
theorem cH(x:cC):dE (.nilchk x)=false:=rfl
theorem cE(b o:Nat):rH (.ptr b o)=some (.ptr b o):=rfl
section
variable {h:T AB}{b:Nat}{x y:AV}{o:Bool}{s:Nat}
end
theorem aDa{x y:AV}(h1:bW x x=true)(h2:bW y y=true):bW (.agg [x,y]) (.agg [x,y])=true:=by
 simp only[bW,kE,h1,h2,aM]
def aY:AV→Option Nat
 | .sl b _ _ _ _=>some b
 | _=>none
def gI(k:Nat)(S0 S:St)(v:AV)(n:Nat)(cs:List AV):Prop:=
 (v= .nilsl∧n=0∧cs= [])∨∃b,v= .sl b 0 n n true∧S0.nx≤b∧b<S.nx∧S.h.get b=some (.cells cs true k)∧cs.length=n * k
theorem gI.step{k n:Nat}{S0 S S':St}{v:AV}{cs:List AV}(h:gI k S0 S v n cs)(hs:Same S S'):gI k S0 S' v n cs:=by
 rcases h with h | ⟨b,h1,h2,h3,h4,h5⟩
 ·exact .inl h
 ·exact .inr ⟨b,h1,h2,Ae h3 hs.1,(hs.2 b h3).trans h4,h5⟩
theorem ia8{b m N i:Nat}{o:Bool}(hi:i<m):fC (.slice 1) (.sl b 0 m N o) i=some (.ptr b i):=by
 show bG (Nat.blt i m) (some (AV.ptr b (0+i * 1))) none=_;rw[show Nat.blt i m=true from Ak hi,aM];simp
theorem aNS{h:T AB}{b m N sz:Nat}{W:List Nat}{o o':Bool}(hg:h.get b=some (.cells (qQ W) o sz))(hm:m≤W.length)(hW:∀x∈W.take m,x≤255):tX .bytesToStr (.sl b 0 m N o') h=some (.str (W.take m)):=by
 show(aW (aW (cK h b) fun cs=>cut cs 0 m) fun cs=>aW (bytesOf cs) fun s=>some (AV.str s))=_;unfold cK;rw[hg,aO];show(aW (aW (some (qQ W)) fun cs=>cut cs 0 m) _)=_;rw[aO];have hcut:cut (qQ W) 0 m=some (qQ (W.take m)):=by
  unfold cut;rw[fO,gC,Co,if_pos (by rw[aCN];exact hm)];unfold qQ;rw[List.map_take]
 rw[hcut,aO,aJz hW,aO]
end Go.Ev.Gl
