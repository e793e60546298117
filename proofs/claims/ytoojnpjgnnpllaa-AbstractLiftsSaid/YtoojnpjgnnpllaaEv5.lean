import Derived.Test.YtoojnpjgnnpllaaEv4
import Derived.Laws.MakeOwn
import Derived.Lib.ConvBytes
import Derived.CallsIn
import Derived.Deep.Upon
import Derived.OrdersIn
import Derived.RangeFuncLeaves
import Derived.LoopNIn
import Derived.Laws.Externs
import Derived.KernelRfl
namespace Go.Ev
variable {P:Program}{σ:Env}{S:St}{w:World}
def aDg(P:Program)(σ:Env)(w:World)(id:Nat)(v:AV)(bl:AB)(V:Value)(w':World):Prop:=
 ∃ob e,w'.heap=w.heap.push ob/\w'.os=w.os/\w'.tape=w.tape/\w'.output=w.output/\
  rY P (upd σ id ⟨w.heap.size,0,e⟩) w' ⟨w.heap.size,0,e⟩ bl/\wE bl/\Rv P (upd σ id ⟨w.heap.size,0,e⟩) v V
theorem aD2{w':World}{C:Array Value}{t:TypeId}{fz:Nat×Nat}(hw:w'.heap=w.heap.push (.cells C t fz))(j:Nat):w'.cell? ⟨w.heap.size,j,none⟩=C[j]? :=by
 simp [World.cell?,hw]
theorem aHG{w':World}{C:Array Value}{t:TypeId}{fz:Nat×Nat}(hw:w'.heap=w.heap.push (.cells C t fz))(j:Nat)(h:¬ (fz.1<=j/\j<fz.2)):w'.frozen? ⟨w.heap.size,j,none⟩=false:=by
 simp [World.frozen?,hw];intro h1;omega
theorem wT{w':World}{C:List Value}{X:List Value}{t:TypeId}{fz:Nat×Nat}{cs:bf}{o:Bool}{e s:Nat}(hw:w'.heap=w.heap.push (.cells (C++X).toArray t fz))(hfz:(C++X).length<=fz.1\/fz.1=fz.2)
  (hC:iH P σ cs C) (h1:∀u∈C,u.oneCell'=true) (hx:o=true->X.length=e * s):rY P σ w' ⟨w.heap.size,0,e⟩ (.cells cs o s):=by
 refine⟨C,hC,h1,fun j v hv=>?_,fun j hj=>?_⟩
 ·rw[An,aD2 hw];have hj:=(Ai.1 hv).1;simp [Bg hj,hv]
 ·have hj':j<(C++X).length:=by
   rw[Ao];cases o
   ·simp at hj;omega
   ·have:=hx rfl;simp at hj;omega
  rw[An,aD2 hw];refine⟨?_,aHG hw j (by rcases hfz with h | h<;>omega)⟩;simp;simpa using hj'
theorem aH8{o:Oper}{t:TypeId}{cells:bf}{a:Act}(ho:o.op= .alloc t)(hz:jX P t=some cells)(id:Nat)(hid:σ id=none):
  ∃V w',(execOp a.eval o).run P w= .ok (.value V) w'/\aDg P σ w id (.ptr id 0) (.cells cells false 0) V w':=by
 have⟨i,Z,hi,hZ,h1,h2⟩:=mJ (σ:=upd σ id ⟨w.heap.size,0,0⟩) hz;refine⟨.pointer (some ⟨w.heap.size,0,none⟩),w.alloc (.cells Z.cells t),?_,⟨.cells Z.cells t,0,rfl,rfl,rfl,rfl,?_,trivial,?_⟩⟩
 ·simp [execOp,ho,Instr.alloc,xD hi hZ,newVar,newRow]
 ·refine wT (X:=[]) (t:=t) (fz:=(0,0)) ?_ (.inr rfl) h1 h2 (by simp);show w.heap.push _=_;simp
 ·simp only[Rv];exact⟨_,upd_same _ _,by simp⟩
theorem aKf{o:Oper}{t:TypeId}{x:Operand}{X:cO}{F:Fr}{a:Act}(ho:o.op= .box t x)(hX:iB P x=some X)(hF:qO P σ F a.tmps)(hR:kT P σ S w){cs:bf}(hcs:(X.val F).cells=some cs)(id:Nat)(hid:σ id=none):
  ∃V w',(execOp a.eval o).run P w= .ok (.value V) w'/\aDg P σ w id (.ptr id 0) (.cells cs false 0) V w':=by
 have hx:=(cL hF hR hX).mono (fX (L:=⟨w.heap.size,0,0⟩) hid);have⟨h1,h2⟩:=aAG hx hcs;refine⟨.pointer (some ⟨w.heap.size,0,none⟩),w.alloc (.cells (a.eval x).cells t),?_,⟨.cells (a.eval x).cells t,0,rfl,rfl,rfl,rfl,?_,trivial,?_⟩⟩
 ·simp [execOp,ho,Instr.box,newVar,newRow]
 ·refine wT (X:=[]) (t:=t) (fz:=(0,0)) ?_ (.inr rfl) h1 h2 (by simp);show w.heap.push _=_;simp
 ·simp only[Rv];exact⟨_,upd_same _ _,by simp⟩
theorem aHU{o:Oper}{t:TypeId}{a:Act}(ho:o.op= .makeMap t none)(id:Nat):
  ∃V w',(execOp a.eval o).run P w= .ok (.value V) w'/\aDg P σ w id (.map id) (.map []) V w':=by
 refine⟨.map (some w.heap.size),w.alloc (.map #[] 0),?_,⟨.map #[] 0,0,rfl,rfl,rfl,rfl,?_,trivial,?_⟩⟩
 ·simp [execOp,ho,Instr.makeMap]
 ·refine⟨#[],0,?_,rfl⟩;show(w.heap.push _)[w.heap.size]? =_;simp
 ·simp only[Rv];exact⟨_,upd_same _ _,rfl⟩
theorem aCE{F:Fr}{a:Act}{size:Nat}(hF:qO P σ F a.tmps)(hR:kT P σ S w):∀ {ps:List (Nat×Operand)} {qs:List (Nat×cO)},yQ P ps=some qs->
  (ps.map fun p=>(p.1,a.eval p.2)).length=(kK size F qs).length/\
  ∀ (j i:Nat) (V:Value) (off n:Nat) (v:AV),(ps.map fun p=>(p.1,a.eval p.2))[j]? =some (i,V)->(kK size F qs)[j]? =some (off,n,v)->(fun i=>some (i * size,size)) i=some (off,n)/\Rv P σ v V
 | [],qs,h=>by
  simp only[yQ,Ap] at h;subst h;exact⟨rfl,fun j i V off n v h1=>by simp at h1⟩
 | (i,x)::ps,qs,h=>by
  simp only[yQ] at h;split at h
  ·rename_i X qs' hx hqs;cases h;have⟨h1,h2⟩:=aCE (size:=size) hF hR hqs;refine⟨by simp [kK] at h1 ⊢;exact h1,fun j i' V off' n' v hj1 hj2=>?_⟩;cases j with
   | zero=>
    simp only[Dc,List.getElem?_cons_zero,kK,Ap,Prod.mk.injEq] at hj1 hj2;obtain⟨rfl,rfl⟩:=hj1;obtain⟨rfl,rfl,rfl⟩:=hj2;exact⟨rfl,cL hF hR hx⟩
   | succ j=>
    simp only[Dc,Eb,kK] at hj1 hj2;exact h2 j i' V off' n' v hj1 hj2
  ·cases h
theorem oV(Z:List Value):∀n:Nat,(List.range (n * Z.length)).map (fun i=>Z[i % Z.length]!)=repeatL Z n
 | 0=>by simp [vE]
 | n+1=>by
  rw[Fe,Nat.add_comm,List.range_add,Dz,lF];congr 1
  ·apply Dp
   ·simp
   ·intro j h1 h2;simp only[Aj,Ay] at h1;simp [Nat.mod_eq_of_lt h1,List.getElem!_eq_getElem?_getD,h1]
  ·rw[<-oV Z n,List.map_map];apply Ej;intro j _;simp
theorem aAn{z:bf}{Z:List Value}(h:iH P σ z Z):∀n,iH P σ (repeatL z n) (repeatL Z n)
 | 0=>cS.2 rfl
 | n+1=>by rw[lF,lF];exact h.append (aAn h n)
theorem aAh{Z:List Value}(h:∀u∈Z,u.oneCell'=true):∀n,∀u∈repeatL Z n,u.oneCell'=true
 | 0,u,hu=>by simp [vE] at hu
 | n+1,u,hu=>by
  rw[lF] at hu;rcases Cb.1 hu with hu | hu
  ·exact h u hu
  ·exact aAh h n u hu
theorem vS{t e:TypeId}{i:TypeInfo}(h:tL P t=some (e,i)):P.underlying t=some (.slice e)/\P.info? e=some i:=by
 unfold tL at h;split at h
 ·rename_i e' hu;have⟨i',hi,h2⟩:=Aw.1 h;cases h2;exact⟨hu,hi⟩
 ·cases h
theorem rZ{e:TypeId}{i:TypeInfo}{z:bf}(hi:P.info? e=some i)(h:mW P e i=some z):
  ∃Z,i.zero=some Z/\iH P σ z Z.cells.toList/\(∀u∈Z.cells.toList,u.oneCell'=true)/\Z.cells.size=i.size/\z.length=i.size:=by
 unfold mW at h;split at h
 ·rename_i z' hz;rw[Bi] at h;split at h
  ·rename_i hn;rw[Bj] at hn;cases h;have⟨i',Z,hi',hZ,h1,h2⟩:=mJ (σ:=σ) hz;rw[hi] at hi';cases hi';exact⟨Z,hZ,h1,h2,by have:=h1.length;simp at this;omega,hn⟩
  ·cases h
 ·cases h
theorem aF2{o:Oper}{t e:TypeId}{i:TypeInfo}{n:Nat}{ps:Array (Nat×Operand)}{qs:List (Nat×cO)}{z:bf}{F:Fr}{a:Act}(ho:o.op= .buildSlice t n ps)(he:tL P t=some (e,i))
  (hn:n * i.size<=65536) (hz:mW P e i=some z) (hq:yQ P ps.toList=some qs) (hF:qO P σ F a.tmps) (hR:kT P σ S w) (id:Nat) (hid:σ id=none)
  {cs:bf} (h:eQ (repeatL z n) (kK i.size F qs)=some cs):
  ∃V w',(execOp a.eval o).run P w= .ok (.value V) w'/\aDg P σ w id (.sl id 0 n n false) (.cells cs false 0) V w':=by
 have⟨hu,hi⟩:=vS he;have⟨Z,hZ,h1,h2,h3,h4⟩:=rZ (σ:=σ) hi hz;have⟨hl,hp⟩:=aCE (size:=i.size) hF hR hq;have⟨R,hR1,hR2,hR3⟩:=vW hl hp (aAn h1 n) (aAh h2 n) h;have hm:=fX (L:=⟨w.heap.size,0,0⟩) hid;have hpl:(ps.map fun(i,x)=>(i,a.eval x)).toList=ps.toList.map fun p=>(p.1,a.eval p.2):=by simp
 have hlim:¬ (n * i.size>2 ^ 24):=by
  have:(2:Nat) ^ 24=16777216:=rfl;omega
 refine⟨.slice (some ⟨w.heap.size,0,none⟩) n n,w.alloc (.cells ⟨R⟩ e),?_,⟨.cells ⟨R⟩ e,0,rfl,rfl,rfl,rfl,?_,trivial,?_⟩⟩
 ·by_cases h0:n * i.size=0
  ·have hrange:Array.range (n * i.size)= #[]:=by rw[h0];rfl
   have hlen:=repeatL_length Z.cells.toList n;simp only[Cy,h3,h0] at hlen;have hrep:=List.eq_nil_of_length_eq_zero hlen;rw[hrep] at hR1;simp only[execOp,ho,Instr.buildSlice,Sem.run_bind,run_underlying hu,Result.andThen_ok,sizeOf,typeInfo,run_program,hi,Sem.run_pure,if_neg hlim,hpl,if_pos h0,hrange,Array.map_empty,hR1,newRow,run_newObj];rfl
  ·have hrow:(Array.range (n * i.size)).map (Z.cells[· % Z.cells.size]!)=(⟨repeatL Z.cells.toList n⟩:Array Value):=by
    have:=oV Z.cells.toList n;simp only[Cy,h3] at this;apply Array.ext';simp only[Fa,Array.toList_range,h3];rw[<-this];apply Ej;intro j _;simp [Array.getElem!_eq_getD,Bh]
   simp only[execOp,ho,Instr.buildSlice,Sem.run_bind,run_underlying hu,Result.andThen_ok,sizeOf,typeInfo,run_program,hi,Sem.run_pure,if_neg hlim,hpl,if_neg h0,xD hi hZ,hrow,hR1,newRow,run_newObj];rfl
 ·refine wT (X:=[]) (t:=e) (fz:=(0,0)) ?_ (.inr rfl) (hR2.mono hm) hR3 (by simp);show w.heap.push _=_;simp
 ·simp only[Rv];exact⟨_,upd_same _ _,by simp⟩
theorem aEQ{o:Oper}{t e:TypeId}{i:TypeInfo}{lo co:Operand}{L C:cO}{z:bf}{F:Fr}{a:Act}(ho:o.op= .makeSlice t lo co)(he:tL P t=some (e,i))
  (hz:mW P e i=some z) (hL:iB P lo=some L) (hC:iB P co=some C) (hF:qO P σ F a.tmps) (hR:kT P σ S w) (id:Nat) (hid:σ id=none) {v:AV} {bl:AB}
  (h:xW e i.size i.bytes z L C F id=some (v,bl)):
  ∃V w',(execOp a.eval o).run P w= .ok (.value V) w'/\aDg P σ w id v bl V w':=by
 have⟨hu,hi⟩:=vS he;have⟨Z,hZ,h1,h2,h3,h4⟩:=rZ (σ:=σ) hi hz;have⟨l,hl,h⟩:=aO h;have⟨c,hc,h⟩:=aO h;have⟨hlc,h⟩:=cH h;have⟨hc1,h⟩:=cH h;have⟨hc2,h⟩:=cH h;cases h;have hlc:=Bd hlc;have hc1:=Bd hc1;have hc2:=Bd hc2;unfold room at hc1 hc2;have⟨kl,hkl⟩:=rR hl;have⟨kc,hkc⟩:=rR hc;have hl':=cL hF hR hL;have hc':=cL hF hR hC;rw[hkl] at hl';rw[hkc] at hc';simp only[Rv] at hl' hc';have hm:=fX (L:=⟨w.heap.size,0,0⟩) hid;have hrun:=run_make (P:=P) w t e i Z hu hi hZ kl kc (Int.ofNat l) (Int.ofNat c) (by simp) (by simpa using hlc) (by
  have:((i.bytes * c:Nat):Int)<=281474976710656:=by omega
  simpa using this) (by simp;omega)
 have hcells:madeCells Z.cells (c * i.size)=(⟨repeatL Z.cells.toList c⟩:Array Value):=by
  have:=oV Z.cells.toList c;simp only[Cy,h3] at this;apply Array.ext';simp only[madeCells,Fa,Array.toList_range,h3];rw[<-this];apply Ej;intro j _;simp [Array.getElem!_eq_getD,Bh]
 refine⟨.slice (some ⟨w.heap.size,0,none⟩) l c,w.alloc (.cells ⟨repeatL Z.cells.toList c⟩ e),?_,⟨.cells ⟨repeatL Z.cells.toList c⟩ e,0,rfl,rfl,rfl,rfl,?_,trivial,?_⟩⟩
 ·have ht1:(Int.ofNat l).toNat=l:=rfl;have ht2:(Int.ofNat c).toNat=c:=rfl;rw[ht1,ht2,hcells] at hrun;simp only[execOp,ho,hl',hc',Sem.run_bind,hrun,Result.andThen_ok,Sem.run_pure]
 ·refine wT (X:=[]) (t:=e) (fz:=(0,0)) ?_ (.inr rfl) ((aAn h1 c).mono hm) (aAh h2 c) (by simp);show w.heap.push _=_;simp
 ·simp only[Rv];exact⟨_,upd_same _ _,by simp⟩
theorem xX(s:bg)(hb:Bytes s):Go.byteCells (gH s)=s.map fun b=>Value.int .u8 (Int.ofNat b):=by
 unfold Go.byteCells;simp only[gH,List.map_map];apply Ej;intro b hbm;show Value.int .u8 (((UInt8.ofNat b).toNat:Nat):Int)=_;rw[aCR (hb b hbm)];rfl
theorem zA:∀ (s:bg),iH P σ (byteCells s) (s.map fun b=>Value.int .u8 (Int.ofNat b))
 | []=>cS.2 rfl
 | b::s=>dB.2 ⟨_,_,rfl,by simp only[Rv],zA s⟩
end Go.Ev
namespace Go.Ev
variable {P:Program}{σ:Env}{S:St}{w:World}
theorem aFx{o:Oper}{ao:wN}(hc:uX P o.op=some (.a ao)){F:Fr}{a:Act}(hF:qO P σ F a.tmps)(hR:kT P σ S w)(id:Nat)(hid:σ id=none){v:AV}{bl:AB}(hv:uW ao F id=some (v,bl)):
  ∃V w',(execOp a.eval o).run P w= .ok (.value V) w'/\aDg P σ w id v bl V w':=by
 have⟨dst,op,type,pos,after,guard⟩:=o;simp only at hc;cases op<;>(try (first | (have⟨y,_,h2⟩:=dV hc;cases h2;done) | (have⟨y,_,h2⟩:=jS hc;cases h2;done) | (cases hc;done)))
 case alloc t=>
  have⟨y,h1,h2⟩:=lJ hc;cases h2;have⟨z,hz,h1⟩:=bE h1;cases h1;cases hv;exact aH8 rfl hz id hid
 case box t x=>
  have⟨y,h1,h2⟩:=lJ hc;cases h2;have⟨X,hX,h1⟩:=bE h1;cases h1;have⟨cs,h3,h4⟩:=aO (show(bC (X.val F).cells fun cs=>some (AV.ptr id 0,AB.cells cs false 0))=some (v,bl) from hv);cases h4;exact aKf rfl hX hF hR h3 id hid
 case build t ps=>
  simp only[uX] at hc;split at hc
  ·rw[Bi] at hc;split at hc
   ·have⟨y,_,h2⟩:=dV hc;cases h2
   ·cases hc
  ·have⟨y,_,h2⟩:=dV hc;cases h2
  ·cases hc
 case buildSlice t n ps=>
  have⟨y,h1,h2⟩:=lJ hc;cases h2;have⟨⟨e,i⟩,he,h1⟩:=bE h1;simp only at h1;split at h1
  ·cases h1
  ·rename_i hn;have⟨z,hz,h1⟩:=bE h1;have⟨qs,hq,h1⟩:=bE h1;cases h1;have⟨cs,h3,h4⟩:=aO (show(bC (eQ (repeatL z n) (kK i.size F qs)) fun cs=>some (AV.sl id 0 n n false,AB.cells cs false 0))=some (v,bl) from hv);cases h4;exact aF2 rfl he ar hz hq hF hR id hid h3
 case makeSlice t l c=>
  have⟨y,h1,h2⟩:=lJ hc;cases h2;have⟨⟨e,i⟩,he,h1⟩:=bE h1;have⟨z,hz,h1⟩:=bE h1;have⟨L,hL,h1⟩:=bE h1;have⟨C,hC,h1⟩:=bE h1;cases h1;exact aEQ rfl he hz hL hC hF hR id hid hv
 case makeMap t r=>
  cases r<;>simp only[uX,reduceCtorEq] at hc;have⟨y,h1,h2⟩:=lJ hc;cases h2;cases h1;cases hv;exact aHU rfl id
 case insert t m k x=>
  simp only[uX] at hc;split at hc
  ·have⟨y,_,h2⟩:=jS hc;cases h2
  ·cases hc
 case mapUpdate t m k x=>
  simp only[uX] at hc;split at hc
  ·have⟨y,_,h2⟩:=jS hc;cases h2
  ·cases hc
 case makeInterface t x=>
  simp only[uX] at hc;split at hc
  ·cases hc
  ·have⟨y,_,h2⟩:=dV hc;cases h2
  ·cases hc
 case makeFunc fn x y=>
  cases fn<;>(first | (have⟨y,_,h2⟩:=dV hc;cases h2;done) | (cases hc;done))
 case slice t x lo hh mx=>
  simp only[uX,Bi] at hc;split at hc
  ·cases hc
  ·split at hc
   ·have⟨y,_,h2⟩:=dV hc;cases h2
   ·have⟨y,_,h2⟩:=dV hc;cases h2
   ·cases hc
 case fieldAddr t x f=>
  simp only[uX] at hc;split at hc
  ·have⟨y,_,h2⟩:=dV hc;cases h2
  ·cases hc
 case field t x f=>
  simp only[uX] at hc;split at hc
  ·have⟨y,_,h2⟩:=dV hc;cases h2
  ·cases hc
 case indexAddr t x f=>
  simp only[uX] at hc;split at hc
  ·have⟨y,_,h2⟩:=dV hc;cases h2
  ·have⟨y,_,h2⟩:=dV hc;cases h2
  ·cases hc
 case lookup t x f ok=>
  simp only[uX] at hc;split at hc
  ·have⟨y,_,h2⟩:=dV hc;cases h2
  ·cases hc
 case call c=>
  have⟨callee,args,argTypes⟩:=c;cases callee with
  | value f=>
   simp only[uX] at hc;split at hc
   ·cases hc
   ·have⟨y,_,h2⟩:=jS hc;cases h2
  | invoke r m=>cases hc
  | builtin b=>
   simp only[uX] at hc;split at hc
   ·split at hc
    all_goals (first | (have⟨y,_,h2⟩:=dV hc;cases h2;done) | (cases hc;done))
   ·have⟨y,_,h2⟩:=dV hc;cases h2
   ·have⟨y,_,h2⟩:=dV hc;cases h2
   ·split at hc
    ·rw[Bi] at hc;split at hc
     ·have⟨y,_,h2⟩:=jS hc;cases h2
     ·cases hc
    ·cases hc
   ·cases hc
theorem heap_setCells_other(g:Nat):∀ (vs:List Value) (o:Nat) (w:World) (r:Nat),r≠g->(w.setCells g o vs).heap[r]? =w.heap[r]?
 | [],o,w,r,h=>rfl
 | v::vs,o,w,r,h=>by
  rw[World.setCells,heap_setCells_other g vs (o+1) _ r h];exact heap_setCell_other w ⟨g,o,none⟩ r v h
theorem size_setCells(g:Nat):∀ (vs:List Value) (o:Nat) (w:World),(w.setCells g o vs).heap.size=w.heap.size
 | [],o,w=>rfl
 | v::vs,o,w=>by rw[World.setCells,size_setCells g vs (o+1)];simp
theorem os_setCells(g:Nat):∀ (vs:List Value) (o:Nat) (w:World),(w.setCells g o vs).os=w.os/\(w.setCells g o vs).tape=w.tape/\(w.setCells g o vs).output=w.output
 | [],o,w=>⟨rfl,rfl,rfl⟩
 | v::vs,o,w=>by rw[World.setCells];exact os_setCells g vs (o+1) _
theorem aCo(hR:kT P σ S w){b off:Nat}{cs:bf}{Cs:List Value}(hC:iH P σ cs Cs)(h1:∀u∈Cs,u.oneCell'=true){S':St}(h:tN S b off cs=some S'):
  ∃L,σ b=some L/\w.there L.r (L.d+off) Cs.length/\iV P σ S w σ S' (w.setCells L.r (L.d+off) Cs):=by
 have⟨bl,hb,h⟩:=aO h;cases bl<;>simp only[aBJ,reduceCtorEq] at h;rename_i old o s;have⟨cs',hput,h⟩:=aO h;cases h;have⟨L,hL,hlt,Os,h2,h3,h4,h5⟩:=hR.blk b _ hb;have hle:=(aBj hput).1;have hlen:=h2.length;have hcl:=hC.length;have hth:w.there L.r (L.d+off) Cs.length:=fun j hj=>by
  have:=h5 (off+j) ar
  rwa [<-Cq] at this
 refine⟨L,hL,hth,?_⟩;have⟨e1,e2,e3⟩:=os_setCells L.r Cs (L.d+off) w;have hput':=h2.put hC hput;refine iV.write hR hb trivial trivial hL (fun r hr=>heap_setCells_other L.r Cs _ w r hr) (size_setCells L.r Cs _ w) e1 e2 e3 ?_;refine⟨Os.take off++Cs++Os.drop (off+Cs.length),hput',fun u hu=>?_,fun j v hv=>?_,fun j hj=>?_⟩
 ·simp only[Cb] at hu;rcases hu with(hu | hu) | hu
  ·exact h3 u (Ea hu)
  ·exact h1 u hu
  ·exact h3 u (Ex hu)
 ·have hget:(Os.take off++Cs++Os.drop (off+Cs.length))[j]? =if j<off then Os[j]? else if j<off+Cs.length then Cs[j - off]? else Os[j]? :=
   aN9 (l:=Os) (vs:=Cs) (k:=off) (by rw[put_eq,if_pos ar]) j
  rw[hget] at hv;split at hv
  ·rename_i hlt1;rw[World.cell?_setCells_out L.r Cs (L.d+off) w _ (fun _ _=>.inl (by simp only;omega))];exact h4 j v hv
  ·split at hv
   ·rename_i h6 h7;have:=World.cell?_setCells_in L.r Cs (L.d+off) w (fun k hk=>(hth k hk).1) (j - off) ar;rw[show L.d+off+(j - off)=L.d+j by omega] at this;rw[this];rw[Ab ar] at hv;exact hv
   ·rename_i h6 h7;rw[World.cell?_setCells_out L.r Cs (L.d+off) w _ (fun _ _=>.inr (by simp only;omega))];exact h4 j v hv
 ·have hj':j<Os.length+if o=true then L.e * s else 0:=by
   have:(Os.take off++Cs++Os.drop (off+Cs.length)).length=Os.length:=by simp;omega
   rw[this] at hj;exact hj
  have:=h5 j hj';exact⟨World.isSome_setCells L.r Cs (L.d+off) w _ this.1,by rw[World.frozen?_setCells];exact this.2⟩
end Go.Ev
namespace Go.Ev
variable {P:Program}{σ:Env}{S:St}{w:World}
theorem aK3{u:TypeId}{i:TypeInfo}(hu:aNv P u i=true)(hR:kT P σ S w){x:AV}{X:Value}(hx:Rv P σ x X){n:Nat}{new:bf}(hn:mL x=some n)(hs:eY x S.h i.size n=some new):
  ∃News,Src P i.size u X n News w/\iH P σ new News:=by
 have hkind:(∃e',P.underlying u=some (.slice e'))\/P.underlying u=some .string:=by
  unfold aNv at hu;split at hu
  ·exact .inl ⟨_, ‹_›⟩
  ·exact .inr ‹_›
  ·cases hu
 cases x<;>simp only[mL,reduceCtorEq,Ap] at hn<;>simp only[eY] at hs<;>simp only[Rv] at hx
 ·obtain⟨rfl,hb⟩:=hx;rename_i s;rw[fS] at hn;subst hn;have⟨h0,hs⟩:=cH hs;rw[Bj] at h0;have⟨r,h1,h2⟩:=aO hs;cases h2;rw[iF,if_pos (Ag _),List.take_length] at h1;cases h1;refine⟨s.map fun b=>Value.int .u8 (Int.ofNat b),⟨hkind,fun _=>by simp [Builtin.lenOf,rK],?_,?_,by simp [h0],fun u hu=>by obtain⟨_,_,rfl⟩:=Dg.1 hu;rfl⟩,zA s⟩
  ·rw[h0,<-xX s hb];have:=firstCells_string (P:=P) (gH s) w;rw[rK] at this;exact this
  ·rw[h0,<-xX s hb];have:=firstCells_string (P:=P) (gH s) w.drew;rw[rK] at this;exact this
 ·obtain⟨L,hL,rfl⟩:=hx;subst hn;have⟨L',Cs,hL',h3,h4,h5,h6⟩:=aDL hR hs;rw[hL] at hL';cases hL';have hcell:∀j u,Cs[j]? =some u->w.cell? ((⟨L.r,L.d+_,none⟩:Addr).add j)=some u:=fun j u hu=>by rw[Addr.add_mid];exact h6 j u hu
  exact⟨Cs,⟨hkind,fun _=>rfl,run_firstCells_some w _ _ _ _ _ Cs h4 hcell,run_firstCells_some w.drew _ _ _ _ _ Cs h4 (by simpa using hcell),h4,h5⟩,h3⟩
 ·subst hx;subst hn;have⟨_,hs⟩:=cH hs;cases hs;exact⟨[],⟨hkind,fun _=>rfl,run_firstCells_none w _ _ _ _,run_firstCells_none w.drew _ _ _ _,by simp,fun _ h=>by cases h⟩,cS.2 rfl⟩
 ·obtain⟨A,c,rfl⟩:=hx;subst hn;have⟨_,hs⟩:=cH hs;cases hs;exact⟨[],⟨hkind,fun _=>rfl,run_firstCells_some w _ _ _ _ _ [] (by simp) (fun j u h=>by simp at h),run_firstCells_some w.drew _ _ _ _ _ [] (by simp) (fun j u h=>by simp at h),by simp,fun _ h=>by cases h⟩,cS.2 rfl⟩
theorem sQ{t u ty e:TypeId}{i:TypeInfo}{Z:Value}(ht:P.underlying t=some (.slice e))(hi:P.info? e=some i)(hZ:i.zero=some Z)(hzs:Z.cells.size=i.size)(hR:kT P σ S w)
  {base:Option Addr} {sLen sCap n:Nat} {old new:bf} {Olds News:List Value} (hO:iH P σ old Olds) (hO1:∀u∈Olds,u.oneCell'=true) (hOl:Olds.length=sLen * i.size)
  (hold:(Builtin.firstCells i.size sLen (.slice base sLen sCap)).run P w.drew= .ok Olds.toArray w.drew) {X:Value} (hs:Src P i.size u X n News w) (hN:iH P σ new News)
  (hg:sCap<sLen+n) (h1:sLen+n<=room) (h2:(sLen+n) * i.bytes<=room):
  ∃V w' σ',(Builtin.append_ #[t,u] ty #[.slice base sLen sCap,X]).run P w= .ok V w'/\Rv P σ' (.sl S.nx 0 (sLen+n) (sLen+n) true) V/\
   iV P σ S w σ' ⟨S.h.set S.nx (some (.cells (yA old new) true i.size)),Nat.succ S.nx⟩ w':=by
 unfold room at h1 h2;have hrun:=run_append_grow_src w t u ty e i Z ht hi hZ base sLen sCap Olds hold X n News hs hg ar (growslice_fits hg ar);have hge:=grownCap_ge w (sLen+n) sCap e;generalize hcap:grownCap w (sLen+n) sCap e=cap at hrun hge;have hid:=hR.fresh S.nx (Ag _);refine⟨_,_,upd σ S.nx ⟨w.heap.size,0,cap - (sLen+n)⟩,hrun,?_,?_⟩
 ·simp only[Rv];refine⟨_,upd_same _ _,?_⟩;simp only[Eo,Br];congr 1;omega
 ·refine iV.alloc hR (ob:=.cells ((Olds++News).toArray++Builtin.zeroCells Z.cells (cap - (sLen+n))) e) rfl rfl rfl rfl ?_ trivial;refine wT (C:=Olds++News) (X:=(Builtin.zeroCells Z.cells (cap - (sLen+n))).toList) (t:=e) (fz:=(0,0)) ?_ (.inr rfl) ?_ ?_ (fun _=>?_)
  ·show w.heap.push _=_;congr 2;apply Array.ext';simp
  ·rw[gE];exact(hO.append hN).mono (fX hid)
  ·intro u hu;rcases Cb.1 hu with hu | hu
   ·exact hO1 u hu
   ·exact hs.one u hu
  ·simp [Builtin.zeroCells,hzs]
theorem aF9{t u ty e:TypeId}{i:TypeInfo}{z:bf}(he:tL P t=some (e,i))(hu:aNv P u i=true)(hz:mW P e i=some z)(hR:kT P σ S w)
  {s x:AV} {Sv X:Value} (hs:Rv P σ s Sv) (hx:Rv P σ x X) {v:AV} {S':St} (h:gP i.bytes i.size s x S=some (v,S')):
  ∃V w' σ',(Builtin.append_ #[t,u] ty #[Sv,X]).run P w= .ok V w'/\Rv P σ' v V/\iV P σ S w σ' S' w':=by
 have⟨ht,hi⟩:=vS he;have⟨Z,hZ,_,_,hzs,_⟩:=rZ (σ:=σ) hi hz;have⟨n,hn,hh⟩:=aO h;clear h;have⟨new,hnew,h⟩:=aO hh;clear hh;have⟨News,hsrc,hN⟩:=aK3 hu hR hx hn hnew;have hnl:=hsrc.newsLen;have hnothing:n=0->Src P i.size u X 0 [] w:=fun h0=>by
  subst h0;have:News= []:=List.eq_nil_of_length_eq_zero (by simpa using hnl);subst this;exact hsrc
 cases s<;>simp only[aD1,reduceCtorEq] at h
 case bw=>
  simp only[Rv] at hs;subst hs;unfold tO at h;rw[cN] at h;split at h
  ·rename_i h0;rw[Bj] at h0;cases h;exact⟨_,w,σ,run_append_nothing w t u ty e i ht hi none 0 0 (Ag _) X (hnothing h0),by simp only[Rv],iV.refl hR⟩
  ·rename_i h0;rw[Bj] at h0;have⟨h1,h⟩:=cH h;have⟨h2,h⟩:=cH h;cases h;have h1:=Bd h1;have h2:=Bd h2;have:=sQ (ty:=ty) ht hi hZ hzs hR (base:=none) (sLen:=0) (sCap:=0) (old:=[]) (Olds:=[]) (cS.2 rfl) (by simp) (by simp) (run_firstCells_none w.drew _ _ _ _) hsrc hN ar (by simpa using h1) (by simpa using h2);simpa [gE] using this
 case emp=>
  simp only[Rv] at hs;obtain⟨A,c,rfl⟩:=hs;have⟨h0,h⟩:=cH h;rw[Bj] at h0;cases h;exact⟨_,w,σ,run_append_nothing w t u ty e i ht hi (some A) 0 c (Du _) X (hnothing h0),by simp only[Rv];exact⟨A,c,rfl⟩,iV.refl hR⟩
 case sl b off len cap o=>
  have hs':=hs;simp only[Rv] at hs;obtain⟨L,hL,rfl⟩:=hs;unfold qF at h;rw[cN] at h;split at h
  ·rename_i hfit;have hfit:=Bd hfit;have hcap:len+n<=if o=true then cap+L.e else cap:=by split<;>omega
   rw[cN] at h;split at h
   ·rename_i h0;rw[Bj] at h0;cases h;exact⟨_,w,σ,run_append_nothing w t u ty e i ht hi _ len _ ar X (hnothing h0),hs',iV.refl hR⟩
   ·have⟨S1,hst,h⟩:=aO h;cases h;have⟨L',hL',hth,hext⟩:=aCo hR hN hsrc.one hst;rw[hL] at hL';cases hL';have hrun:=run_append_room_src w t u ty e i ht hi L.r (L.d+off) len (if o=true then cap+L.e else cap) X n News hsrc hcap
     (fun j hj=>by have:=(hth j hj).1;rwa [show L.d+off+len * i.size=L.d+(off+len * i.size) by omega])
     (fun j hj=>by have:=(hth j hj).2;rwa [show L.d+off+len * i.size=L.d+(off+len * i.size) by omega])
    refine⟨_,_,σ,hrun,by simp only[Rv];exact⟨L,hL,rfl⟩,?_⟩;rw[show L.d+off+len * i.size=L.d+(off+len * i.size) by omega];exact hext
  ·rename_i hfit;rw[Ff] at hfit;have⟨h1,h⟩:=cH h;have⟨h2,h⟩:=cH h;have⟨bl,hb,h⟩:=aO h;have h1:=Bd h1;have h2:=Bd h2;have⟨L',hL',hLr,hblk⟩:=hR.blk b bl hb;rw[hL] at hL';cases hL';have hold:∀ (cs:bf) (Cs:List Value),iH P σ cs Cs->(∀u∈Cs,u.oneCell'=true)->w.rangeAt L.r L.d Cs->∀old,cut cs off (len * i.size)=some old->
     ∃Olds,iH P σ old Olds/\(∀u∈Olds,u.oneCell'=true)/\Olds.length=len * i.size/\w.rangeAt L.r (L.d+off) Olds/\Olds=(Cs.drop off).take (len * i.size)/\
      ∀c,(Builtin.firstCells i.size len (.slice (some ⟨L.r,L.d+off,none⟩) len c)).run P w.drew= .ok Olds.toArray w.drew:=by
    intro cs Cs hC hC1 hC2 old hcut;have hc:=hC.cut hcut;have hr:=aE6 (i:=off) (n:=len * i.size) hC2;exact⟨_,hc.1,fun u hu=>hC1 u (Ex (Ea hu)),hc.2,hr,rfl,fun c=>run_firstCells_some w.drew _ _ _ _ _ _ hc.2 (fun j u hu=>by
     rw[Addr.add_mid];simpa using hr j u hu)⟩
   cases bl<;>simp only[aCc,reduceCtorEq] at h
   ·rename_i cs o' sz;have⟨Cs,hC,hC1,hC2,hC3⟩:=hblk;have⟨old,hcut,h⟩:=aO h;have⟨Olds,hO,hO1,hOl,hO2,hOe,hOf⟩:=hold cs Cs hC hC1 hC2 old hcut;cases o with
    | false=>
     rw[bB] at h;cases h;simp only[Bc,Eg];exact sQ ht hi hZ hzs hR hO hO1 hOl (hOf cap) hsrc hN ar h1 h2
    | true=>
     rw[aR] at h;have⟨ho',g1⟩:=cH h;have⟨hsz,g2⟩:=cH g1;have⟨hend,g3⟩:=cH g2;clear h g1 g2;subst ho';rw[Bj] at hsz hend;rw[fS] at hend;subst hsz;cases g3;simp only[Eo];have hCl:=hC.length;by_cases hin:len+n<=cap+L.e
     ·-- in place
      have hthere:∀j,j<News.length->(w.cell? ⟨L.r,L.d+off+len * i.size+j,none⟩).isSome=true/\w.frozen? ⟨L.r,L.d+off+len * i.size+j,none⟩=false:=by
       intro j hj;have hb1:off+len * i.size+j<Cs.length+L.e * i.size:=by
        have e1:(len+n) * i.size<=(cap+L.e) * i.size:=Dm _ hin;rw[Ec,Ec] at e1;omega
       have:=hC3 (off+len * i.size+j) (by simpa using hb1)
       rwa [show L.d+(off+len * i.size+j)=L.d+off+len * i.size+j by omega] at this
      have hrun:=run_append_room_src w t u ty e i ht hi L.r (L.d+off) len (cap+L.e) X n News hsrc hin (fun j hj=>(hthere j hj).1) (fun j hj=>(hthere j hj).2);have hid:=hR.fresh S.nx (Ag _);refine⟨_,_,upd σ S.nx ⟨L.r,L.d+off,cap+L.e - (len+n)⟩,hrun,?_,?_⟩
      ·simp only[Rv];refine⟨_,upd_same _ _,?_⟩;simp only[Eo,Br];congr 1;omega
      ·have⟨e1,e2,e3⟩:=os_setCells L.r News (L.d+off+len * i.size) w;refine iV.rename hR hb trivial trivial hL rfl (fun r hr=>heap_setCells_other L.r News _ w r hr) (size_setCells L.r News _ w) e1 e2 e3 ?_;refine⟨Olds++News,?_,?_,fun j v hv=>?_,fun j hj=>?_⟩
       ·rw[gE];exact(hO.append hN).mono (fX hid)
       ·intro u hu;rcases Cb.1 hu with hu | hu
        ·exact hO1 u hu
        ·exact hsrc.one u hu
       ·by_cases hj:j<Olds.length
        ·rw[Bg hj] at hv;rw[World.cell?_setCells_out L.r News _ w _ (fun _ _=>.inl (by simp only;omega))];exact hO2 j v hv
        ·rw[Be ar] at hv;have hj2:=(Ai.1 hv).1;have:=World.cell?_setCells_in L.r News (L.d+off+len * i.size) w (fun k hk=>(hthere k hk).1) (j - Olds.length) hj2;rw[show L.d+off+len * i.size+(j - Olds.length)=L.d+off+j by omega] at this;simp only;rw[this];rw[Ab hj2] at hv;exact hv
       ·have e4:(len+n) * i.size+(cap+L.e - (len+n)) * i.size=(cap+L.e) * i.size:=by rw[<-Ec];congr 1;omega
        have e5:(len+n) * i.size=len * i.size+n * i.size:=Ec _ _ _;have e6:(cap+L.e) * i.size=cap * i.size+L.e * i.size:=Ec _ _ _;simp only[Ao,Eo] at hj;have:=hC3 (off+j) (by simp only[Eo];omega);rw[<-Cq] at this;exact⟨World.isSome_setCells L.r News _ w _ this.1,by rw[World.frozen?_setCells];exact this.2⟩
     ·-- a new row;the old name is given up
      have hdrop:=iV.drop hR b;have⟨V,w',σ',h5,h6,h7⟩:=sQ (S:=⟨S.h.set b none,S.nx⟩) (ty:=ty) ht hi hZ hzs hdrop.rep hO hO1 hOl (hOf (cap+L.e)) hsrc hN ar h1 h2;exact⟨V,w',σ',h5,h6,hdrop.trans h7⟩
   ·rename_i cs;have⟨Cs,hC,hC1,hC2⟩:=hblk;cases o with
    | true=>simp [aR] at h
    | false=>
     rw[bB] at h;have⟨old,hcut,h⟩:=aO h;have⟨Olds,hO,hO1,hOl,hO2,hOe,hOf⟩:=hold cs Cs hC hC1 hC2 old hcut;cases h;simp only[Bc,Eg];exact sQ ht hi hZ hzs hR hO hO1 hOl (hOf cap) hsrc hN ar h1 h2
end Go.Ev
namespace Go.Ev
variable {P:Program}{σ:Env}{S:St}{w:World}
theorem uO.append:∀ {m:List (AV×AV)} {es:List MapEntry} {k v:AV} {e:MapEntry},uO P σ m es->Rv P σ k e.key->Rv P σ v e.val->uO P σ (m++ [(k,v)]) (es++ [e])
 | [],es,k,v,e,h,h1,h2=>by have h:es= []:=h;subst h;exact⟨e,[],rfl,h1,h2,rfl⟩
 | (k',v')::m,es,k,v,e,h,h1,h2=>by
  obtain⟨x,es',rfl,h3,h4,h5⟩:=h;exact⟨x,es'++ [e],rfl,h3,h4,uO.append h5 h1 h2⟩
theorem uO.modify:∀ {m:List (AV×AV)} {es:List MapEntry} {k v:AV} {K V:Value} (i:Nat),uO P σ m es->Rv P σ k K->Rv P σ v V->
  uO P σ (pU (fun _=>(k,v)) m i) (es.modify i fun e=>{e with key:=K,val:=V})
 | [],es,k,v,K,V,i,h,_,_=>by have h:es= []:=h;subst h;simp [pU];rfl
 | (k',v')::m,es,k,v,K,V,i,h,h1,h2=>by
  obtain⟨x,es',rfl,h3,h4,h5⟩:=h;simp only[pU,cN];cases i with
  | zero=>exact⟨{x with key:=K,val:=V},es',by simp,h1,h2,h5⟩
  | succ i=>
   rw[if_neg (by simp)];exact⟨x,es'.modify i (fun e=>{e with key:=K,val:=V}),by simp,h3,h4,by simpa using uO.modify i h5 h1 h2⟩
def nB(P:Program):Prop:=∀ (σ:Env) (kt:TypeId) (e:tZ) (k k':AV) (K K':Value),aBS P kt=some e->Rv P σ k K->Rv P σ k' K'->eqv e k k'=some true->Instr.sameBits 10000 K' K=true
theorem aHV:∀ {e:tZ} {k:AV} {m:List (AV×AV)} {i j:Nat} {v:AV},sF e k m i=some (some (j,v))->i<=j/\∃k',m[j - i]? =some (k',v)/\eqv e k k'=some true
 | e,k,[],i,j,v,h=>by simp [sF] at h
 | e,k,(k',v')::m,i,j,v,h=>by
  simp only[sF] at h;have⟨b,h1,h⟩:=aO h;cases b
  ·rw[bB] at h;have⟨h2,k2,h3,h4⟩:=aHV h;refine⟨ar,k2,?_,h4⟩;rw[show j - i=(j - Nat.succ i)+1 by omega];simpa using h3
  ·rw[aR] at h;cases h;exact⟨Ag _,k',by simp,h1⟩
theorem uO.get:∀ {m:List (AV×AV)} {es:List MapEntry} {i:Nat} {k v:AV},uO P σ m es->m[i]? =some (k,v)->∃e,es[i]? =some e/\Rv P σ k e.key/\Rv P σ v e.val
 | [],es,i,k,v,h,h1=>by simp at h1
 | (k',v')::m,es,i,k,v,h,h1=>by
  obtain⟨x,es',rfl,h3,h4,h5⟩:=h;cases i with
  | zero=>simp at h1;obtain⟨rfl,rfl⟩:=h1;exact⟨x,by simp,h3,h4⟩
  | succ i=>simp at h1;have⟨e,h6,h7⟩:=uO.get h5 h1;exact⟨e,by simpa using h6,h7⟩
theorem oW{r:Nat}{ob old:Obj}(h:w.heap[r]? =some old)(hc:∀c e f,old≠ .cells c e f):(setObj r ob).run P w= .ok () {w with heap:=w.heap.setIfInBounds r ob}:=by
 simp only[setObj,Sem.run,h]
theorem zV{r:Nat}{ob:Obj}(h:w.heap[r]? =some ob)(hc:∀c e f,ob≠ .cells c e f):(getObj r).run P w= .ok ob w:=by
 simp only[getObj,Sem.run,h]
theorem aAJ(hA:zH P)(hB:nB P){t kt et:TypeId}{e:tZ}(ht:P.underlying t=some (.map kt et))(hkt:aBS P kt=some e)(hR:kT P σ S w){m k x:AV}{M K X:Value}(hm:Rv P σ m M)(hk:Rv P σ k K)(hx:Rv P σ x X)
  {v:AV} {S':St} (h:qK m e k x S=some (v,S')):v= .undef/\∃w',(Instr.mapUpdate t M K X).run P w= .ok () w'/\iV P σ S w σ S' w':=by
 cases m<;>simp only[qK,reduceCtorEq] at h;rename_i b;have⟨es,h1,h⟩:=aO h;have⟨bl,hb,h1⟩:=aO h1;have⟨r,h2,h⟩:=aO h;cases h;refine⟨rfl,?_⟩;have⟨hself,hf⟩:=aCb h2;cases bl<;>simp only[tQ,reduceCtorEq,Ap] at h1;rename_i es0;have h1:=h1.symm;subst h1;have⟨L,hL,hlt,ms,c,h3,h4⟩:=hR.blk b _ hb;simp only[Rv] at hm;obtain⟨L',hL',rfl⟩:=hm;rw[hL] at hL';cases hL';have⟨R,h5,h6⟩:=zD (w:=w) hA.eq hkt hk h4 hf;have hck:=hA.key σ w kt e k K false hkt hk hself;have hg:=zV (P:=P) h3 (by simp);have key:∀ob,rY P σ {w with heap:=w.heap.setIfInBounds L.r ob} L (.map (zO r es k x))->
   iV P σ S w σ ⟨S.h.set b (some (.map (zO r es k x))),S.nx⟩ {w with heap:=w.heap.setIfInBounds L.r ob}:=fun ob hbl=>
  iV.write hR hb trivial trivial hL (fun r hr=>by simp [Array.getElem?_setIfInBounds_ne (Bt hr)]) (by simp) rfl rfl rfl hbl
 have hat:∀ob,(w.heap.setIfInBounds L.r ob)[L.r]? =some ob:=fun ob=>by
  rw[Array.getElem?_setIfInBounds_self_of_lt hlt]
 cases r with
 | none=>
  cases R with
  | some _=>exact h6.elim
  | none=>
   refine⟨_,?_,key (.map (ms.push {key:=K,val:=X,born:=c}) (c+1)) ?_⟩
   ·simp only[Instr.mapUpdate,Sem.run_bind,run_underlying ht,Result.andThen_ok,hg,hck,h5];rw[oW h3 (by simp)]
   ·refine⟨_,_,hat _,?_⟩;simp only[zO,gE,Array.toList_push];exact h4.append hk hx
 | some jv=>
  have⟨j,v0⟩:=jv;cases R with
  | none=>exact h6.elim
  | some jV=>
   have⟨j',V0⟩:=jV;obtain⟨rfl,_⟩:=h6;have⟨_,k',hk1,hk2⟩:=aHV hf;simp only[Nat.sub_zero] at hk1;have⟨en,he1,he2,_⟩:=h4.get hk1;have hbits:=hB σ kt e k k' K en.key hkt hk he2 hk2;refine⟨_,?_,key (.map (ms.modify j fun e=>{e with key:=K,val:=X}) c) ?_⟩
   ·have hms:ms[j]? =some en:=by rw[<-Cw];exact he1
    simp only[Instr.mapUpdate,Sem.run_bind,run_underlying ht,Result.andThen_ok,hg,hck,h5,hms,Dy,Dq,Instr.keyThatStays,hbits,Eo,Sem.run_pure];rw[oW h3 (by simp)]
   ·refine⟨_,_,hat _,?_⟩;simp only[zO];rw[Array.toList_modify];exact h4.modify j hk hx
def rX(P:Program)(R:Value->World->Prop):Result Next->Prop
 | .ok (.value v) w'=>R v w'
 | .ok .skip w'=>R undef w'
 | .ok (.enter f args) w'=>CallsIn Fence.wide 0 P f args w' fun
   | .returned v,w''=>R v w''
   | _,_=>False
 | .ok (.round l f tmps assign body) w'=>RoundIn Fence.wide 0 P l f tmps assign body w' fun
   | .returned v,w''=>R v w''
   | _,_=>False
 | _=>False
def mG(P:Program)(call:fA):Prop:=∀ (f:AV) (args:bf) (S:St) (v:AV) (S':St),call f args S=some (v,S')->∀ (σ:Env) (w:World) (fv:Value) (Args:List Value),
 Rv P σ f fv->iH P σ args Args->kT P σ S w->rX P (fun V w'=>∃σ',Rv P σ' v V/\iV P σ S w σ' S' w') ((do let d <-Deferred.ofValue fv ⟨Args⟩;invoke d.target d.args:Sem Next).run P w)
theorem aL6{t:TypeId}{agg:Bool}{n:Nat}(ht:aCI P t=some (agg,n))(hR:kT P σ S w){x y:AV}{X Y:Value}(hx:Rv P σ x X)(hy:Rv P σ y Y){cs:bf}(hcs:y.cells=some cs){v:AV}{S':St}
  (h:sO x n cs S=some (v,S')):v= .undef/\∃w',(Instr.storeAt t X Y).run P w= .ok () w'/\iV P σ S w σ S' w':=by
 have⟨d,i,hu,hi,hn,hd⟩:=aB1 ht;cases x<;>simp only[sO,reduceCtorEq] at h;have⟨hl,h⟩:=cH h;have⟨S1,hst,h⟩:=aO h;cases h;refine⟨rfl,?_⟩;simp only[Rv] at hx;obtain⟨L,hL,rfl⟩:=hx;have⟨hc1,hc2⟩:=aAG hy hcs;have⟨L',hL',hth,hext⟩:=aCo hR hc1 hc2 hst;rw[hL] at hL';cases hL';rw[fS,Bj] at hl;refine⟨_,?_,hext⟩;have hsz:Y.cells.size=i.size:=by have:=hc1.length;simp at this;omega
 have hrun:=run_storeCells_cells (P:=P) L.r (L.d+_) Y.cells.toList 0 w (fun j hj=>by simpa using (hth j hj).1) (fun j hj=>by simpa using (hth j hj).2) hc2;simp only[Br] at hrun;simp [Instr.storeAt,Instr.sureAddr,storeVar,sizeOf,typeInfo,hi,hsz,hrun]
theorem aFl(hA:zH P)(hB:nB P){call:fA}(hcall:mG P call){o:Oper}{xo:XOp}(hc:uX P o.op=some (.x xo)){F:Fr}{a:Act}(hF:qO P σ F a.tmps)(hR:kT P σ S w){v:AV}{S':St}
  (hv:evX xo call F S=some (v,S')):rX P (fun V w'=>∃σ',Rv P σ' v V/\iV P σ S w σ' S' w') ((execOp a.eval o).run P w):=by
 have⟨dst,op,type,pos,after,guard⟩:=o;simp only at hc;have hundef:∀σ',Rv P σ' .undef undef:=fun σ'=>by simp only[AV.undef,undef,Rv];exact⟨[],rfl,cS.2 rfl⟩
 cases op<;>(try (first | (have⟨y,_,h2⟩:=dV hc;cases h2;done) | (have⟨y,_,h2⟩:=lJ hc;cases h2;done) | (cases hc;done)))
 case store t x y=>
  have⟨z,h1,h2⟩:=jS hc;cases h2;have⟨⟨agg,n⟩,hag,h1⟩:=bE h1;have⟨X,hX,h1⟩:=bE h1;have⟨Y,hY,h1⟩:=bE h1;cases h1;have⟨cs,h3,h4⟩:=aO (show(bC (Y.val F).cells fun cs=>sO (X.val F) n cs S)=some (v,S') from hv);obtain⟨rfl,w',h5,h6⟩:=aL6 hag hR (cL hF hR hX) (cL hF hR hY) h3 h4;simp only[execOp,Sem.run_bind,h5,Result.andThen_ok,Sem.run_pure];exact⟨σ,hundef σ,h6⟩
 case insert t m k x=>
  simp only[uX] at hc;split at hc
  ·rename_i kt et hu;have⟨y,h1,h2⟩:=jS hc;cases h2;have⟨e,he,h1⟩:=bE h1;have⟨M,hM,h1⟩:=bE h1;have⟨K,hK,h1⟩:=bE h1;have⟨X,hX,h1⟩:=bE h1;cases h1;obtain⟨rfl,w',h5,h6⟩:=aAJ hA hB hu he hR (cL hF hR hM) (cL hF hR hK) (cL hF hR hX) hv;simp only[execOp,Sem.run_bind,h5,Result.andThen_ok,Sem.run_pure];exact⟨σ,hundef σ,h6⟩
  ·cases hc
 case mapUpdate t m k x=>
  simp only[uX] at hc;split at hc
  ·rename_i kt et hu;have⟨y,h1,h2⟩:=jS hc;cases h2;have⟨e,he,h1⟩:=bE h1;have⟨M,hM,h1⟩:=bE h1;have⟨K,hK,h1⟩:=bE h1;have⟨X,hX,h1⟩:=bE h1;cases h1;obtain⟨rfl,w',h5,h6⟩:=aAJ hA hB hu he hR (cL hF hR hM) (cL hF hR hK) (cL hF hR hX) hv;simp only[execOp,Sem.run_bind,h5,Result.andThen_ok,Sem.run_pure];exact⟨σ,hundef σ,h6⟩
  ·cases hc
 case call c=>
  have⟨callee,args,argTypes⟩:=c;cases callee with
  | value f=>
   simp only[uX] at hc;split at hc
   ·cases hc
   ·have⟨y,h1,h2⟩:=jS hc;cases h2;have⟨Fo,hFo,h1⟩:=bE h1;have⟨As,hAs,h1⟩:=bE h1;cases h1;have:=hcall _ _ _ _ _ hv σ w _ _ (cL hF hR hFo) (oN hF hR hAs) hR;have he:(args.map a.eval)=⟨args.toList.map a.eval⟩:=by apply Array.ext';simp
    simp only[execOp,resolve,he];exact this
  | invoke r m=>cases hc
  | builtin b=>
   have arr:∀ {α:Type} {x:Array α} {l:List α},x.toList=l->x=l.toArray:=fun h=>by apply Array.ext';rw[h]
   simp only[uX] at hc;split at hc
   ·split at hc
    all_goals (first | (have⟨y,_,h2⟩:=dV hc;cases h2;done) | (cases hc;done))
   ·have⟨y,_,h2⟩:=dV hc;cases h2
   ·have⟨y,_,h2⟩:=dV hc;cases h2
   ·rename_i s x t u hx ht;have:=arr hx;subst this;have:=arr ht;subst this;split at hc
    ·rename_i e i he;rw[Bi] at hc;split at hc
     ·rename_i hcond;rw[Co] at hcond;have⟨z,hz⟩:=Option.isSome_iff_exists.1 hcond.2;have⟨y,h1,h2⟩:=jS hc;cases h2;have⟨So,hS,h1⟩:=bE h1;have⟨Xo,hX,h1⟩:=bE h1;cases h1;have⟨V,w',σ',h3,h4,h5⟩:=aF9 (ty:=type) he hcond.1 hz hR (cL hF hR hS) (cL hF hR hX) hv;have hex:(execOp a.eval ⟨dst,.call ⟨.builtin .append, #[s,x], #[t,u]⟩,type,pos,after,guard⟩).run P w= .ok (.value V) w':=by
       simp [execOp,resolve,invoke,builtin,h3]
      have hex':(execOp a.eval ⟨dst,.call ⟨.builtin .append,[s,x].toArray,[t,u].toArray⟩,type,pos,after,guard⟩).run P w= .ok (.value V) w':=hex;rw[hex'];exact⟨σ',h4,h5⟩
     ·cases hc
    ·cases hc
   ·cases hc
 case makeFunc fn x y=>
  cases fn<;>(first | (have⟨y,_,h2⟩:=dV hc;cases h2;done) | (cases hc;done))
 case makeMap t r=>
  cases r<;>simp only[uX,reduceCtorEq] at hc;have⟨y,_,h2⟩:=lJ hc;cases h2
 all_goals
  simp only[uX,Bi] at hc
  (repeat' split at hc)<;>first
   | (have⟨y,_,h2⟩:=dV hc;cases h2;done)
   | (have⟨y,_,h2⟩:=lJ hc;cases h2;done)
   | (cases hc;done)
end Go.Ev
namespace Go.Ev
variable {P:Program}{σ:Env}{S:St}{w:World}
def Fw(ro:Option Nat):Fence:={Fence.wide with round:=ro}
theorem aCr{ro:Option Nat}{n m:Nat}{f:FuncId}{args:Array Value}{R:Ending->World->Prop}(h:CallsIn Fence.wide m P f args w R):CallsIn (Fw ro) n P f args w R:=
 ⟨trivial,fun cs _=>h.2 cs (room_wide _)⟩
theorem aGE{ro:Option Nat}{n m l:Nat}{f:FuncId}{tmps:Array Value}{as bd:Code}{R:Ending->World->Prop}(h:RoundIn Fence.wide m P l f tmps as bd w R):RoundIn (Fw ro) n P l f tmps as bd w R:=
 ⟨trivial,fun c cs _=>h.2 c cs (room_wide _)⟩
theorem rX.mono{R R':Value->World->Prop}{r:Result Next}(h:rX P R r)(hr:∀v w,R v w->R' v w):rX P R' r:=by
 unfold rX at *;split at h
 ·exact hr _ _ h
 ·exact hr _ _ h
 ·exact CallsIn.mono h fun e w' he=>by cases e<;>first | exact hr _ _ he | exact he
 ·exact RoundIn.mono h fun e w' he=>by cases e<;>first | exact hr _ _ he | exact he
 ·exact h.elim
theorem aAQ{ro:Option Nat}{n:Nat}{o:Oper}{a:Act}{next:Act->World->Prop}{Q:Exit->Act->World->Prop}{R:Value->World->Prop}{r:Result Next}(h:rX P R r)
  (hr:∀v w,R v w->next (a.put o.dst v) w):o.uponIn (Fw ro) n P a next Q r:=by
 unfold rX at h;split at h
 ·exact hr _ _ h
 ·exact hr _ _ h
 ·refine⟨fun hd=>by simp [Fw,Fence.wide] at hd,aCr (CallsIn.mono h fun e w' he=>?_)⟩;cases e with
  | returned v=>exact hr _ _ he
  | panicked c=>exact he.elim
  | outgrown=>exact he.elim
 ·refine⟨fun hd=>by simp [Fw,Fence.wide] at hd,aGE (RoundIn.mono h fun e w' he=>?_)⟩;cases e with
  | returned v=>exact hr _ _ he
  | panicked c=>exact he.elim
  | outgrown=>exact he.elim
 ·exact h.elim
theorem aJl(t:Nat)(F:Fr):aD t F=(F.get t).getD .undef:=by
 unfold aD;cases F.get t<;>rfl
theorem wP(F:Fr)(d t:Nat)(v:AV):aD t (F.set d (some v))=if t=d then v else aD t F:=by
 rw[aJl,di];split
 ·rfl
 ·rw[aJl]
theorem qO.put{F:Fr}{a:Act}{d:Option Tmp}{v:AV}{V:Value}(hF:qO P σ F a.tmps)(hd:zG a.tmps.size d=true)(hv:Rv P σ v V):qO P σ (cM d F v) (a.put d V).tmps:=by
 cases d with
 | none=>exact hF
 | some d=>
  have hlt:d<a.tmps.size:=Bd hd;refine⟨fun t=>?_⟩;show Rv P σ (aD t (F.set d (some v))) _;rw[wP];simp only[Act.put,Bh,Array.getElem?_setIfInBounds];split
  ·rename_i e;subst e;simp;exact hv
  ·rename_i hne;rw[if_neg (Bt hne)];have:=hF.get t;simpa [Bh] using this
theorem aDo(a:Act)(d:Option Tmp)(V:Value):(a.put d V).tmps.size=a.tmps.size:=by cases d<;>simp [Act.put]
theorem put_defers(a:Act)(d:Option Tmp)(V:Value):(a.put d V).defers=a.defers:=by cases d<;>rfl
theorem aCB{ops:Array Oper}{o:Oper}{g:Option (Nat×Bool)}(hg:aBo ops o.guard=some g){F:Fr}{tmps:Array Value}(hF:qO P σ F tmps):Region.wanted o (yielded ops tmps)=eS g F:=by
 unfold Region.wanted;cases ho:o.guard with
 | none=>
  rw[ho] at hg;simp only[aBo,Ap] at hg;subst hg;rfl
 | some jw=>
  have⟨j,want⟩:=jw;rw[ho] at hg;simp only[aBo] at hg;split at hg
  ·rename_i d hd;cases hg;show(yielded ops tmps j==some want)=isB (aD d F) want;have hv:=hF.get d;unfold yielded;rw[hd];simp only[Option.bind_some];have hgd:tmps.getD d undef=(tmps[d]?).getD undef:=Bh ..;rw[hgd] at hv;cases ht:tmps[d]? with
   | none=>
    rw[ht] at hv;simp only[Option.getD_none] at hv;cases hb:aD d F<;>rw[hb] at hv<;>simp only[isB]<;>first | rfl | (simp only[Rv,undef,reduceCtorEq] at hv)
   | some X=>
    rw[ht] at hv;simp only[Dq] at hv;cases hb:aD d F<;>rw[hb] at hv<;>simp only[isB]<;>simp only[Rv] at hv
    case bool b=>subst hv;simp only[vC];cases b<;>cases want<;>rfl
    all_goals first
     | (subst hv;rfl)
     | (obtain⟨rfl,_⟩:=hv;rfl)
     | (obtain⟨L,_,rfl⟩:=hv;rfl)
     | (obtain⟨A,c,rfl⟩:=hv;rfl)
     | (obtain⟨A,B,rfl,_⟩:=hv;rfl)
     | (obtain⟨A,rfl,_⟩:=hv;rfl)
  ·cases hg
theorem semAt_eq{o:Oper}{r:Option Nat}{ρ:Operand->Value}(h:∀c,o.op≠ .defer c):o.semAt r ρ=execOp ρ o:=by
 unfold Oper.semAt;split
 ·rename_i h1;exact absurd h1 (h _)
 ·rfl
theorem tK{op:Op}{r:AOp}(h:uX P op=some r):∀c,op≠ .defer c:=by
 rintro c rfl;cases h
theorem aAs{nt:Nat}{ops:Array Oper}{o:Oper}{m:Nat}{ao:AO}(h:aJN P nt ops o m=some ao):
  zG nt o.dst=true/\aBo ops o.guard=some ao.grd/\ao.dst=o.dst/\ao.mask=m/\(uX P o.op=some ao.op\/ao.op= .x .bad):=by
 unfold aJN at h;rw[Bi] at h;split at h
 ·rename_i hd;split at h
  ·rename_i g hg;split at h
   ·rename_i op hop;cases h;exact⟨hd,hg,rfl,rfl,.inl hop⟩
   ·cases h;exact⟨hd,hg,rfl,rfl,.inr rfl⟩
  ·cases h
 ·cases h
theorem aIY(hA:zH P)(hB:nB P){call:fA}(hcall:mG P call){ao:AO}{o:Oper}(hop:uX P o.op=some ao.op\/ao.op= .x .bad){F F':Fr}{a:Act}(hdst:ao.dst=o.dst)(hd:zG a.tmps.size o.dst=true)
  (hF:qO P σ F a.tmps) (hR:kT P σ S w) {S':St} (h:oOp ao.op ao.dst call F S=some (F',S')):
  (∀c,o.op≠ .defer c)/\rX P (fun V w'=>∃σ',qO P σ' F' (a.put o.dst V).tmps/\iV P σ S w σ' S' w') ((execOp a.eval o).run P w):=by
 rcases hop with hop | hop
 ·refine⟨tK hop,?_⟩;cases hao:ao.op with
  | q qo=>
   rw[hao] at h hop;have⟨v,h1,h2⟩:=aO (show(bC (gM qo F S.h) fun v=>some (cM ao.dst F v,S))=some (F',S') from h);cases h2;have⟨V,h3,h4⟩:=aFt hA hop hF hR h1;rw[h3];exact⟨σ,by rw[hdst];exact hF.put hd h4,iV.refl hR⟩
  | a al=>
   rw[hao] at h hop;have⟨⟨v,bl⟩,h1,h2⟩:=aO (show(bC (uW al F S.nx) fun r=>some (cM ao.dst F r.1,(⟨S.h.set S.nx (some r.2),Nat.succ S.nx⟩:St)))=some (F',S') from h);cases h2;have⟨V,w',h3,ob,e,m1,m2,m3,m4,m5,m6,m7⟩:=aFx hop hF hR S.nx (hR.fresh _ (Ag _)) h1;rw[h3];have hext:=iV.alloc hR m1 m2 m3 m4 m5 m6;exact⟨_,by rw[hdst];exact(hF.mono (hext.mono hR)).put hd m7,hext⟩
  | x xo=>
   rw[hao] at h hop;have⟨⟨v,S1⟩,h1,h2⟩:=aO (show(bC (evX xo call F S) fun r=>some (cM ao.dst F r.1,r.2))=some (F',S') from h);cases h2;refine(aFl hA hB hcall hop hF hR h1).mono ?_;rintro V w' ⟨σ',h3,h4⟩;exact⟨σ',by rw[hdst];exact(hF.mono (h4.mono hR)).put hd h3,h4⟩
 ·rw[hop] at h;have⟨r,h1,_⟩:=aO (show(bC (evX .bad call F S) fun r=>some (cM ao.dst F r.1,r.2))=some (F',S') from h);cases h1
theorem gQ(o:AO)(os:List AO)(call:fA)(F:Fr)(S:St):wJ (o::os) call F S=bC (aDd o call F S) fun r=>wJ os call r.1 r.2:=rfl
theorem yB(hA:zH P)(hB:nB P){call:fA}(hcall:mG P call){ro:Option Nat}{n nt:Nat}{ops:Array Oper}{Q:Exit->Act->World->Prop}:
  ∀ (l:List Oper) (k:Nat) (ms:bg) (aos:List AO) (σ:Env) (F F':Fr) (S S':St) (a:Act) (w:World),(∀j,l[j]? =ops[k+j]?)->wB P nt ops l ms=some aos->a.tmps.size=nt->qO P σ F a.tmps->kT P σ S w->
   wJ aos call F S=some (F',S')->(∀σ' a' w',qO P σ' F' a'.tmps->a'.tmps.size=nt->a'.defers=a.defers->iV P σ S w σ' S' w'->Q .normal a' w')->
   wpOpsIn (Fw ro) n P ops Q (List.range' k l.length) a w
 | [],k,ms,aos,σ,F,F',S,S',a,w,hl,hc,hn,hF,hR,h,hQ=>by
  simp only[wB,Ap] at hc;subst hc;cases h;exact hQ σ a w hF hn rfl (iV.refl hR)
 | o::l,k,ms,aos,σ,F,F',S,S',a,w,hl,hc,hn,hF,hR,h,hQ=>by
  simp only[wB] at hc;split at hc
  ·rename_i ao aos' hao haos;cases hc;have⟨hd,hg,hdst,_,hop⟩:=aAs hao;rw[gQ] at h;have⟨⟨F1,S1⟩,h1,h2⟩:=aO h;have ho:ops[k]? =some o:=by have:=hl 0;simpa using this.symm
   have hl':∀j,l[j]? =ops[(k+1)+j]? :=fun j=>by have:=hl (j+1);simpa [Cq,Nat.add_comm 1 j] using this
   simp only[Ax,List.range'_succ,wpOpsIn,ho];rw[aCB hg hF];unfold aDd at h1;rw[cN] at h1;have hd':zG a.tmps.size o.dst=true:=by rw[hn];exact hd
   split at h1
   ·rename_i hw;rw[if_pos hw];have⟨hnd,hnext⟩:=aIY hA hB hcall hop hdst hd' hF hR h1;refine⟨fun _ _=>trivial,?_⟩;rw[semAt_eq hnd];refine aAQ hnext ?_;rintro V w' ⟨σ1,hF1,hE1⟩;exact yB hA hB hcall l (k+1) ms.tail aos' σ1 F1 F' S1 S' _ w' hl' haos (by rw[aDo];exact hn) hF1 hE1.rep h2 (fun σ' a' w'' q1 q2 q3 q4=>hQ σ' a' w'' q1 q2 (by rw[q3,put_defers]) (hE1.trans q4))
   ·rename_i hw;rw[if_neg hw];cases h1;refine⟨fun _ _=>trivial,?_⟩;have hund:Rv P σ .undef undef:=by simp only[AV.undef,undef,Rv];exact⟨[],rfl,cS.2 rfl⟩
    exact yB hA hB hcall l (k+1) ms.tail aos' σ _ F' S S' _ w hl' haos (by rw[aDo];exact hn) (by rw[hdst];exact hF.put hd' hund) hR h2 (fun σ' a' w'' q1 q2 q3 q4=>hQ σ' a' w'' q1 q2 (by rw[q3,put_defers]) q4)
  ·cases hc
end Go.Ev
