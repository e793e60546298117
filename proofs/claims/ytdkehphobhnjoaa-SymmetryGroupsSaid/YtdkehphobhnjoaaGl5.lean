import Derived.Test.YtdkehphobhnjoaaGl4
set_option maxHeartbeats 16000000
set_option linter.unusedSimpArgs false
set_option linter.unusedVariables false
namespace Go.Ev.Gl
end Go.Ev.Gl
namespace Go.Ev.Gl
end Go.Ev.Gl
namespace Go.Ev.Gl
variable {fns:T dE}
def gC(l:List Nat):List AV:=l.map fun x=>AV.int .u8 ((x:Nat):Int)
theorem vR(l:List Nat):(gC l).length=l.length:=by simp [gC]
theorem st8{S:St}{b p w:Nat}{l:List Nat}{o:Bool}{sz:Nat}(h:S.h.get b=some (.cells (gC l) o sz))(hp:p<l.length):
  lK (.ptr b p) 1 [.int .u8 ((w:Nat):Int)] S=some (.undef,⟨S.h.set b (some (.cells (gC (l.set p w)) o sz)),S.nx⟩):=by
 have hput:put (gC l) p [AV.int .u8 ((w:Nat):Int)]=some (gC (l.set p w)):=by
  rw[put_eq,if_pos (by rw[vR];simp;omega)];congr 1;unfold gC;rw[List.map_set,List.set_eq_take_append_cons_drop,if_pos (by simp;omega)];simp
 simp only[lK,pD,h,aT,wL,hput];rfl
theorem aJM:∀ {l:List Nat},(∀x∈l,x≤255)→bytesOf (gC l)=some l
 | [],_=>rfl
 | x::l,h=>by
  show bL (Nat.ble x 255) (aZ (bytesOf (gC l)) fun r=>some (x::r)) none=_;rw[Am (h x (Bt ..)),aQ,aJM fun y hy=>h y (Bn _ hy)];rfl
theorem aGm(x ix:cJ)(F:Fr)(h:T AB):gS (.idxStr x ix) F h=aZ (eR (ix.val F)) fun i=>mP (x.val F) i:=rfl
theorem aIU{s:List Nat}{i:Nat}(h:i<s.length):mP (.str s) i=some (.int .u8 ((s[i]?.getD 0:Nat):Int)):=by
 show(aZ (nth s i) fun b=>some (AV.int .u8 (.ofNat b)))=_;rw[kM,Ac h,aT];rfl
theorem aCL(x y:cJ):dL (.idxStr x y)=false:=rfl
theorem aMy{z0 z1:AV}{x y:cJ}{F:Fr}{h:T AB}(h1:(x.val F).cells=some [x.val F])(h2:(y.val F).cells=some [y.val F]):gS (.build [z0,z1] [(0,1,x),(1,1,y)]) F h=some (.agg [x.val F,y.val F]):=by
 show(aZ (gH [z0,z1] (fF F [(0,1,x),(1,1,y)])) fun cs=>some (AV.agg cs))=_;simp only[fF,gH,h1,h2,aT];rfl
theorem aDk:∀a b:List Nat,jT a b=decide (a=b)
 | [],[]=>rfl
 | [],b::y=>rfl
 | a::x,[]=>rfl
 | a::x,b::y=>by
  show bL (Nat.beq a b) (jT x y) false=_;rw[aDk x y];by_cases h:a=b
  ·subst h;rw[Nat.beq_refl,aQ];simp
  ·rw[show Nat.beq a b=false from Dh.2 fun e=>h (Ci e),aV];simp [h]
theorem bF(x:cJ)(F:Fr)(h:T AB):gS (.nilchk x) F h=rZ (x.val F):=rfl
theorem bO(x:cJ):dL (.nilchk x)=false:=rfl
theorem bG(b o:Nat):rZ (.ptr b o)=some (.ptr b o):=rfl
section
variable {h:T AB}{b:Nat}{x y:AV}{o:Bool}{s:Nat}
end
theorem aIm{x y:AV}(h1:cB x x=true)(h2:cB y y=true):cB (.agg [x,y]) (.agg [x,y])=true:=by
 simp only[cB,jP,h1,h2,aQ]
def cL:AV→Option Nat
 | .sl b _ _ _ _=>some b
 | _=>none
def jZ(k:Nat)(S0 S:St)(v:AV)(n:Nat)(cs:List AV):Prop:=
 (v= .nilsl∧n=0∧cs= [])∨∃b,v= .sl b 0 n n true∧S0.nx≤b∧b<S.nx∧S.h.get b=some (.cells cs true k)∧cs.length=n * k
theorem jZ.step{k n:Nat}{S0 S S':St}{v:AV}{cs:List AV}(h:jZ k S0 S v n cs)(hs:Same S S'):jZ k S0 S' v n cs:=by
 rcases h with h | ⟨b,h1,h2,h3,h4,h5⟩
 ·exact .inl h
 ·exact .inr ⟨b,h1,h2,Ae h3 hs.1,(hs.2 b h3).trans h4,h5⟩
theorem jZ.len{k n:Nat}{S0 S:St}{v:AV}{cs:List AV}(h:jZ k S0 S v n cs):gW v=some (.int .i64 ((n:Nat):Int)):=by
 rcases h with⟨rfl,rfl,_⟩ | ⟨b,rfl,_⟩<;>rfl
theorem jZ.app{k n m bytes:Nat}{S0 S:St}{v x:AV}{cs new:List AV}(h:jZ k S0 S v n cs)(hS:Same S0 S)(hl:zD x=some m)(hs:fP x S.h k m=some new)(hn:new.length=m * k)(hm:0<m)(h1:n+m≤room)(h2:(n+m) * bytes≤room):
  ∃v' S',iN bytes k v x S=some (v',S')∧jZ k S0 S' v' (n+m) (cs++new)∧Same S0 S'∧S.nx≤S'.nx∧∀c,c<S.nx→cL v≠some c→S'.h.get c=S.h.get c:=by
 rcases h with⟨rfl,rfl,rfl⟩ | ⟨b,rfl,hb0,hb,hg,hc⟩
 ·refine⟨.sl S.nx 0 m m true,⟨S.h.set S.nx (some (.cells new true k)),S.nx+1⟩,?_,.inr ⟨S.nx,by rw[An],hS.1,by simp,?_,by rw[An];exact hn⟩,hS.trans (Same.alloc S _),by simp,fun c hc _=>(Same.alloc S _).2 c hc⟩
  ·show(aZ (zD x) fun j=>aZ (fP x S.h k j) fun new=>aDN .nilsl bytes k j new S)=_;rw[hl,aT,hs,aT];show uC bytes k m new S=_;unfold uC;rw[show Nat.beq m 0=false from Dh.2 fun e=>by rw[Bd] at e;omega,aV,Am (by omega),aQ,Am (by rw[An] at h2;exact h2),aQ];rfl
  ·simp only;rw[T.get_set,if_pos rfl];rfl
 ·refine⟨.sl S.nx 0 (n+m) (n+m) true,⟨(S.h.set b none).set S.nx (some (.cells (cs++new) true k)),S.nx+1⟩,?_,.inr ⟨S.nx,rfl,hS.1,by simp,?_,by rw[Ak,hc,hn,Et]⟩,⟨Ay hS.1 (by simp),fun c hc=>?_⟩,by simp,fun c hc hne=>?_⟩
  ·show(aZ (zD x) fun j=>aZ (fP x S.h k j) fun new=>aDN (.sl b 0 n n true) bytes k j new S)=_;rw[hl,aT,hs,aT];show vT bytes k b 0 n n true m new S=_;unfold vT;have e2:Nat.ble (n+m) n=false:=by rw[Dh];intro h;have:=Aw h;omega
   rw[e2,aV,Am h1,aQ,Am h2,aQ,hg,aT];have e3:cut cs 0 (n * k)=some cs:=by
    unfold cut;rw[jX,kU,Dj,if_pos (by omega),Ax (by omega)]
   have e4:Nat.beq (0+n * k) (jN cs)=true:=by rw[dV,hc,Bd];omega
   have e5:Nat.beq k k=true:=Nat.beq_refl k;simp only[aEx,e3,aT,aQ,e4,e5,grown,fK]
  ·simp only;rw[T.get_set,if_pos rfl]
  ·simp only;have:=hS.1;rw[T.get_set,if_neg (by omega),T.get_set,if_neg (by omega)];exact hS.2 c hc
  ·simp only;have:c≠b:=fun e=>hne (by rw[e];rfl);rw[T.get_set,if_neg (by omega),T.get_set,if_neg this]
theorem ia8{b m N i:Nat}{o:Bool}(hi:i<m):eU (.slice 1) (.sl b 0 m N o) i=some (.ptr b i):=by
 show bL (Nat.blt i m) (some (AV.ptr b (0+i * 1))) none=_;rw[show Nat.blt i m=true from Am hi,aQ];simp
theorem aOE{h:T AB}{b m N sz:Nat}{W:List Nat}{o o':Bool}(hg:h.get b=some (.cells (gC W) o sz))(hm:m≤W.length)(hW:∀x∈W.take m,x≤255):vK .bytesToStr (.sl b 0 m N o') h=some (.str (W.take m)):=by
 show(aZ (aZ (cS h b) fun cs=>cut cs 0 m) fun cs=>aZ (bytesOf cs) fun s=>some (AV.str s))=_;unfold cS;rw[hg,aT];show(aZ (aZ (some (gC W)) fun cs=>cut cs 0 m) _)=_;rw[aT];have hcut:cut (gC W) 0 m=some (gC (W.take m)):=by
  unfold cut;rw[jX,kU,Dj,if_pos (by rw[vR];exact hm)];unfold gC;rw[List.map_take]
 rw[hcut,aT,aJM hW,aT]
end Go.Ev.Gl
