import Derived.Test.YtdkehphobhnjoaaEv4
import Derived.Laws.MakeOwn
import Derived.Lib.ConvBytes
import Derived.CallsIn
import Derived.Deep.Upon
import Derived.OrdersIn
import Derived.RangeFuncLeaves
import Derived.LoopNIn
import Derived.Laws.Externs
import Derived.KernelRfl
namespace Go.Ev
variable {P:Program}{σ:Env}{S:St}{w:World}
def aCm(P:Program)(σ:Env)(w:World)(id:Nat)(v:AV)(bl:AB)(V:Value)(w':World):Prop:=
 ∃ob e,w'.heap=w.heap.push ob/\w'.os=w.os/\w'.tape=w.tape/\w'.output=w.output/\
  qL P (upd σ id ⟨w.heap.size,0,e⟩) w' ⟨w.heap.size,0,e⟩ bl/\uV bl/\Rv P (upd σ id ⟨w.heap.size,0,e⟩) v V
theorem aCX{w':World}{C:Array Value}{t:TypeId}{fz:Nat×Nat}(hw:w'.heap=w.heap.push (.cells C t fz))(j:Nat):w'.cell? ⟨w.heap.size,j,none⟩=C[j]? :=by
 simp [World.cell?,hw]
theorem aGo{w':World}{C:Array Value}{t:TypeId}{fz:Nat×Nat}(hw:w'.heap=w.heap.push (.cells C t fz))(j:Nat)(h:¬ (fz.1<=j/\j<fz.2)):w'.frozen? ⟨w.heap.size,j,none⟩=false:=by
 simp [World.frozen?,hw];intro h1;omega
theorem sJ{w':World}{C:List Value}{X:List Value}{t:TypeId}{fz:Nat×Nat}{cs:b6}{o:Bool}{e s:Nat}(hw:w'.heap=w.heap.push (.cells (C++X).toArray t fz))(hfz:(C++X).length<=fz.1\/fz.1=fz.2)
  (hC:iK P σ cs C) (h1:∀u∈C,u.oneCell'=true) (hx:o=true->X.length=e * s):qL P σ w' ⟨w.heap.size,0,e⟩ (.cells cs o s):=by
 refine⟨C,hC,h1,fun j v hv=>?_,fun j hj=>?_⟩
 ·rw[An,aCX hw];have hj:=(Aj.1 hv).1;simp [Al hj,hv]
 ·have hj':j<(C++X).length:=by
   rw[Ai];cases o
   ·simp at hj;omega
   ·have:=hx rfl;simp at hj;omega
  rw[An,aCX hw];refine⟨?_,aGo hw j (by rcases hfz with h | h<;>omega)⟩;simp;simpa using hj'
theorem aHm{o:Oper}{t:TypeId}{cells:b6}{a:Act}(ho:o.op= .alloc t)(hz:jS P t=some cells)(id:Nat)(hid:σ id=none):
  ∃V w',(execOp a.eval o).run P w= .ok (.value V) w'/\aCm P σ w id (.ptr id 0) (.cells cells false 0) V w':=by
 have⟨i,Z,hi,hZ,h1,h2⟩:=mU (σ:=upd σ id ⟨w.heap.size,0,0⟩) hz;refine⟨.pointer (some ⟨w.heap.size,0,none⟩),w.alloc (.cells Z.cells t),?_,⟨.cells Z.cells t,0,rfl,rfl,rfl,rfl,?_,trivial,?_⟩⟩
 ·simp [execOp,ho,Instr.alloc,xA hi hZ,newVar,newRow]
 ·refine sJ (X:=[]) (t:=t) (fz:=(0,0)) ?_ (.inr rfl) h1 h2 (by simp);show w.heap.push _=_;simp
 ·simp only[Rv];exact⟨_,upd_same _ _,by simp⟩
theorem aJ6{o:Oper}{t:TypeId}{x:Operand}{X:cU}{F:Fr}{a:Act}(ho:o.op= .box t x)(hX:gJ P x=some X)(hF:rV P σ F a.tmps)(hR:mF P σ S w){cs:b6}(hcs:(X.val F).cells=some cs)(id:Nat)(hid:σ id=none):
  ∃V w',(execOp a.eval o).run P w= .ok (.value V) w'/\aCm P σ w id (.ptr id 0) (.cells cs false 0) V w':=by
 have hx:=(cD hF hR hX).mono (gR (L:=⟨w.heap.size,0,0⟩) hid);have⟨h1,h2⟩:=aAi hx hcs;refine⟨.pointer (some ⟨w.heap.size,0,none⟩),w.alloc (.cells (a.eval x).cells t),?_,⟨.cells (a.eval x).cells t,0,rfl,rfl,rfl,rfl,?_,trivial,?_⟩⟩
 ·simp [execOp,ho,Instr.box,newVar,newRow]
 ·refine sJ (X:=[]) (t:=t) (fz:=(0,0)) ?_ (.inr rfl) h1 h2 (by simp);show w.heap.push _=_;simp
 ·simp only[Rv];exact⟨_,upd_same _ _,by simp⟩
theorem aHB{o:Oper}{t:TypeId}{a:Act}(ho:o.op= .makeMap t none)(id:Nat):
  ∃V w',(execOp a.eval o).run P w= .ok (.value V) w'/\aCm P σ w id (.map id) (.map []) V w':=by
 refine⟨.map (some w.heap.size),w.alloc (.map #[] 0),?_,⟨.map #[] 0,0,rfl,rfl,rfl,rfl,?_,trivial,?_⟩⟩
 ·simp [execOp,ho,Instr.makeMap]
 ·refine⟨#[],0,?_,rfl⟩;show(w.heap.push _)[w.heap.size]? =_;simp
 ·simp only[Rv];exact⟨_,upd_same _ _,rfl⟩
theorem aB2{F:Fr}{a:Act}{size:Nat}(hF:rV P σ F a.tmps)(hR:mF P σ S w):∀ {ps:List (Nat×Operand)} {qs:List (Nat×cU)},xQ P ps=some qs->
  (ps.map fun p=>(p.1,a.eval p.2)).length=(kR size F qs).length/\
  ∀ (j i:Nat) (V:Value) (off n:Nat) (v:AV),(ps.map fun p=>(p.1,a.eval p.2))[j]? =some (i,V)->(kR size F qs)[j]? =some (off,n,v)->(fun i=>some (i * size,size)) i=some (off,n)/\Rv P σ v V
 | [],qs,h=>by
  simp only[xQ,Ao] at h;subst h;exact⟨rfl,fun j i V off n v h1=>by simp at h1⟩
 | (i,x)::ps,qs,h=>by
  simp only[xQ] at h;split at h
  ·rename_i X qs' hx hqs;cases h;have⟨h1,h2⟩:=aB2 (size:=size) hF hR hqs;refine⟨by simp [kR] at h1 ⊢;exact h1,fun j i' V off' n' v hj1 hj2=>?_⟩;cases j with
   | zero=>
    simp only[Dv,List.getElem?_cons_zero,kR,Ao,Prod.mk.injEq] at hj1 hj2;obtain⟨rfl,rfl⟩:=hj1;obtain⟨rfl,rfl,rfl⟩:=hj2;exact⟨rfl,cD hF hR hx⟩
   | succ j=>
    simp only[Dv,Cz,kR] at hj1 hj2;exact h2 j i' V off' n' v hj1 hj2
  ·cases h
theorem oI(Z:List Value):∀n:Nat,(List.range (n * Z.length)).map (fun i=>Z[i % Z.length]!)=repeatL Z n
 | 0=>by simp [uS]
 | n+1=>by
  rw[Cm,Fq,List.range_add,Dd,lP];congr 1
  ·apply Ff
   ·simp
   ·intro j h1 h2;simp only[Ay,Dr] at h1;simp [Nat.mod_eq_of_lt h1,List.getElem!_eq_getElem?_getD,h1]
  ·rw[<-oI Z n,Fj];apply Et;intro j _;simp
theorem zL{z:b6}{Z:List Value}(h:iK P σ z Z):∀n,iK P σ (repeatL z n) (repeatL Z n)
 | 0=>dH.2 rfl
 | n+1=>by rw[lP,lP];exact h.append (zL h n)
theorem yR{Z:List Value}(h:∀u∈Z,u.oneCell'=true):∀n,∀u∈repeatL Z n,u.oneCell'=true
 | 0,u,hu=>by simp [uS] at hu
 | n+1,u,hu=>by
  rw[lP] at hu;rcases Bf.1 hu with hu | hu
  ·exact h u hu
  ·exact yR h n u hu
theorem tW{t e:TypeId}{i:TypeInfo}(h:pO P t=some (e,i)):P.underlying t=some (.slice e)/\P.info? e=some i:=by
 unfold pO at h;split at h
 ·rename_i e' hu;have⟨i',hi,h2⟩:=Az.1 h;cases h2;exact⟨hu,hi⟩
 ·cases h
theorem qM{e:TypeId}{i:TypeInfo}{z:b6}(hi:P.info? e=some i)(h:nD P e i=some z):
  ∃Z,i.zero=some Z/\iK P σ z Z.cells.toList/\(∀u∈Z.cells.toList,u.oneCell'=true)/\Z.cells.size=i.size/\z.length=i.size:=by
 unfold nD at h;split at h
 ·rename_i z' hz;rw[Bn] at h;split at h
  ·rename_i hn;rw[Bg] at hn;cases h;have⟨i',Z,hi',hZ,h1,h2⟩:=mU (σ:=σ) hz;rw[hi] at hi';cases hi';exact⟨Z,hZ,h1,h2,by have:=h1.length;simp at this;omega,hn⟩
  ·cases h
 ·cases h
theorem aFT{o:Oper}{t e:TypeId}{i:TypeInfo}{n:Nat}{ps:Array (Nat×Operand)}{qs:List (Nat×cU)}{z:b6}{F:Fr}{a:Act}(ho:o.op= .buildSlice t n ps)(he:pO P t=some (e,i))
  (hn:n * i.size<=65536) (hz:nD P e i=some z) (hq:xQ P ps.toList=some qs) (hF:rV P σ F a.tmps) (hR:mF P σ S w) (id:Nat) (hid:σ id=none)
  {cs:b6} (h:eZ (repeatL z n) (kR i.size F qs)=some cs):
  ∃V w',(execOp a.eval o).run P w= .ok (.value V) w'/\aCm P σ w id (.sl id 0 n n false) (.cells cs false 0) V w':=by
 have⟨hu,hi⟩:=tW he;have⟨Z,hZ,h1,h2,h3,h4⟩:=qM (σ:=σ) hi hz;have⟨hl,hp⟩:=aB2 (size:=i.size) hF hR hq;have⟨R,hR1,hR2,hR3⟩:=uC hl hp (zL h1 n) (yR h2 n) h;have hm:=gR (L:=⟨w.heap.size,0,0⟩) hid;have hpl:(ps.map fun(i,x)=>(i,a.eval x)).toList=ps.toList.map fun p=>(p.1,a.eval p.2):=by simp
 have hlim:¬ (n * i.size>2 ^ 24):=by
  have:(2:Nat) ^ 24=16777216:=rfl;omega
 refine⟨.slice (some ⟨w.heap.size,0,none⟩) n n,w.alloc (.cells ⟨R⟩ e),?_,⟨.cells ⟨R⟩ e,0,rfl,rfl,rfl,rfl,?_,trivial,?_⟩⟩
 ·by_cases h0:n * i.size=0
  ·have hrange:Array.range (n * i.size)= #[]:=by rw[h0];rfl
   have hlen:=repeatL_length Z.cells.toList n;simp only[Cu,h3,h0] at hlen;have hrep:=List.eq_nil_of_length_eq_zero hlen;rw[hrep] at hR1;simp only[execOp,ho,Instr.buildSlice,Sem.run_bind,run_underlying hu,Result.andThen_ok,sizeOf,typeInfo,run_program,hi,Sem.run_pure,if_neg hlim,hpl,if_pos h0,hrange,Array.map_empty,hR1,newRow,run_newObj];rfl
  ·have hrow:(Array.range (n * i.size)).map (Z.cells[· % Z.cells.size]!)=(⟨repeatL Z.cells.toList n⟩:Array Value):=by
    have:=oI Z.cells.toList n;simp only[Cu,h3] at this;apply Ft;simp only[Ex,Array.toList_range,h3];rw[<-this];apply Et;intro j _;simp [Array.getElem!_eq_getD,Bs]
   simp only[execOp,ho,Instr.buildSlice,Sem.run_bind,run_underlying hu,Result.andThen_ok,sizeOf,typeInfo,run_program,hi,Sem.run_pure,if_neg hlim,hpl,if_neg h0,xA hi hZ,hrow,hR1,newRow,run_newObj];rfl
 ·refine sJ (X:=[]) (t:=e) (fz:=(0,0)) ?_ (.inr rfl) (hR2.mono hm) hR3 (by simp);show w.heap.push _=_;simp
 ·simp only[Rv];exact⟨_,upd_same _ _,by simp⟩
theorem aEz{o:Oper}{t e:TypeId}{i:TypeInfo}{lo co:Operand}{L C:cU}{z:b6}{F:Fr}{a:Act}(ho:o.op= .makeSlice t lo co)(he:pO P t=some (e,i))
  (hz:nD P e i=some z) (hL:gJ P lo=some L) (hC:gJ P co=some C) (hF:rV P σ F a.tmps) (hR:mF P σ S w) (id:Nat) (hid:σ id=none) {v:AV} {bl:AB}
  (h:xB e i.size i.bytes z L C F id=some (v,bl)):
  ∃V w',(execOp a.eval o).run P w= .ok (.value V) w'/\aCm P σ w id v bl V w':=by
 have⟨hu,hi⟩:=tW he;have⟨Z,hZ,h1,h2,h3,h4⟩:=qM (σ:=σ) hi hz;have⟨l,hl,h⟩:=aS h;have⟨c,hc,h⟩:=aS h;have⟨hlc,h⟩:=cG h;have⟨hc1,h⟩:=cG h;have⟨hc2,h⟩:=cG h;cases h;have hlc:=Ba hlc;have hc1:=Ba hc1;have hc2:=Ba hc2;unfold room at hc1 hc2;have⟨kl,hkl⟩:=nC hl;have⟨kc,hkc⟩:=nC hc;have hl':=cD hF hR hL;have hc':=cD hF hR hC;rw[hkl] at hl';rw[hkc] at hc';simp only[Rv] at hl' hc';have hm:=gR (L:=⟨w.heap.size,0,0⟩) hid;have hrun:=run_make (P:=P) w t e i Z hu hi hZ kl kc (Int.ofNat l) (Int.ofNat c) (by simp) (by simpa using hlc) (by
  have:((i.bytes * c:Nat):Int)<=281474976710656:=by omega
  simpa using this) (by simp;omega)
 have hcells:madeCells Z.cells (c * i.size)=(⟨repeatL Z.cells.toList c⟩:Array Value):=by
  have:=oI Z.cells.toList c;simp only[Cu,h3] at this;apply Ft;simp only[madeCells,Ex,Array.toList_range,h3];rw[<-this];apply Et;intro j _;simp [Array.getElem!_eq_getD,Bs]
 refine⟨.slice (some ⟨w.heap.size,0,none⟩) l c,w.alloc (.cells ⟨repeatL Z.cells.toList c⟩ e),?_,⟨.cells ⟨repeatL Z.cells.toList c⟩ e,0,rfl,rfl,rfl,rfl,?_,trivial,?_⟩⟩
 ·have ht1:(Int.ofNat l).toNat=l:=rfl;have ht2:(Int.ofNat c).toNat=c:=rfl;rw[ht1,ht2,hcells] at hrun;simp only[execOp,ho,hl',hc',Sem.run_bind,hrun,Result.andThen_ok,Sem.run_pure]
 ·refine sJ (X:=[]) (t:=e) (fz:=(0,0)) ?_ (.inr rfl) ((zL h1 c).mono hm) (yR h2 c) (by simp);show w.heap.push _=_;simp
 ·simp only[Rv];exact⟨_,upd_same _ _,by simp⟩
theorem vA(w:World)(e:TypeId)(s:ByteArray):(Lib.bytesWorld w e s).heap=w.heap.push (.cells (Lib.bytesCells w e s) e ((Lib.bytesCells w e s).size,(Lib.bytesCells w e s).size+1)):=by
 apply Array.ext_getElem?;intro j;by_cases h1:j<w.heap.size
 ·rw[Lib.bytesWorld_at_old w e s j h1,Array.getElem?_push,if_neg ay]
 ·by_cases h2:j=w.heap.size
  ·subst h2;rw[Lib.bytesWorld_at_new,Array.getElem?_push_size]
  ·rw[Array.getElem?_eq_none (by rw[Lib.bytesWorld_size];omega),Array.getElem?_eq_none (by simp;omega)]
theorem qR(s:b9)(hb:Bytes s):Go.byteCells (fF s)=s.map fun b=>Value.int .u8 (Int.ofNat b):=by
 unfold Go.byteCells;simp only[fF,Fj];apply Et;intro b hbm;show Value.int .u8 (((UInt8.ofNat b).toNat:Nat):Int)=_;rw[aAI (hb b hbm)];rfl
theorem sE:∀ (s:b9),iK P σ (byteCells s) (s.map fun b=>Value.int .u8 (Int.ofNat b))
 | []=>dH.2 rfl
 | b::s=>dF.2 ⟨_,_,rfl,by simp only[Rv],sE s⟩
theorem aDZ{o:Oper}{src dst e:TypeId}{x:Operand}{xv:AV}{a:Act}(ho:o.op= .convert src dst x)(hs:P.underlying src=some .string)(hd:P.underlying dst=some (.slice e))(he:P.underlying e=some (.int .u8))
  (hx:Rv P σ xv (a.eval x)) (id:Nat) (hid:σ id=none) {v:AV} {bl:AB} (hv:sK xv id=some (v,bl)):∃V w',(execOp a.eval o).run P w= .ok (.value V) w'/\aCm P σ w id v bl V w':=by
 cases xv<;>simp only[sK,reduceCtorEq,Ao,Prod.mk.injEq] at hv;obtain⟨rfl,rfl⟩:=hv;rename_i s;simp only[Rv] at hx;have⟨hx,hb⟩:=hx;have hrun:=Lib.run_convert_string_bytes (P:=P) w src dst e (fF s) hs hd he;have hge:=grownCap_ge w (fF s).size 0 e;rw[lN] at hrun hge;refine⟨_,_,by simp only[execOp,ho,hx,Sem.run_bind,hrun,Result.andThen_ok,Sem.run_pure];rfl,?_⟩;refine⟨_,grownCap w s.length 0 e - s.length,vA w e (fF s),?_,?_,?_,?_,trivial,?_⟩
 ·simp [Lib.bytesWorld,World.freeze,World.alloc,World.drew, -World.alloc_eq, -World.drew_eq]
 ·simp [Lib.bytesWorld,World.freeze,World.alloc,World.drew, -World.alloc_eq, -World.drew_eq]
 ·simp [Lib.bytesWorld,World.freeze,World.alloc,World.drew, -World.alloc_eq, -World.drew_eq]
 ·have hcells:Lib.bytesCells w e (fF s)=((s.map fun b=>Value.int .u8 (Int.ofNat b))++List.replicate (grownCap w s.length 0 e - s.length) (Value.int .u8 0)).toArray:=by
   apply Ft;unfold Lib.bytesCells;rw[lN];simp only[Array.toList_append,Ex,Array.toList_replicate];congr 1;exact qR s hb
  have hw:=vA w e (fF s);rw[hcells] at hw;refine sJ (s:=1) hw (.inl ?_) (sE s) (fun u hu=>?_) (fun _=>?_)
  ·simp
  ·obtain⟨_,_,rfl⟩:=Dl.1 hu;rfl
  ·simp
 ·simp only[Rv];refine⟨_,upd_same _ _,?_⟩;rw[fL];simp only[Ej,Bh];congr 1;omega
end Go.Ev
namespace Go.Ev
variable {P:Program}{σ:Env}{S:St}{w:World}
theorem aEJ{o:Oper}{ao:wY}(hc:rJ P o.op=some (.a ao)){F:Fr}{a:Act}(hF:rV P σ F a.tmps)(hR:mF P σ S w)(id:Nat)(hid:σ id=none){v:AV}{bl:AB}(hv:sH ao F id=some (v,bl)):
  ∃V w',(execOp a.eval o).run P w= .ok (.value V) w'/\aCm P σ w id v bl V w':=by
 have⟨dst,op,type,pos,after,guard⟩:=o;simp only at hc;cases op<;>(try (first | (have⟨y,_,h2⟩:=dD hc;cases h2;done) | (have⟨y,_,h2⟩:=jR hc;cases h2;done) | (cases hc;done)))
 case alloc t=>
  have⟨y,h1,h2⟩:=jM hc;cases h2;have⟨z,hz,h1⟩:=bF h1;cases h1;cases hv;exact aHm rfl hz id hid
 case box t x=>
  have⟨y,h1,h2⟩:=jM hc;cases h2;have⟨X,hX,h1⟩:=bF h1;cases h1;have⟨cs,h3,h4⟩:=aS (show(bH (X.val F).cells fun cs=>some (AV.ptr id 0,AB.cells cs false 0))=some (v,bl) from hv);cases h4;exact aJ6 rfl hX hF hR h3 id hid
 case build t ps=>
  simp only[rJ] at hc;split at hc
  ·rw[Bn] at hc;split at hc
   ·have⟨y,_,h2⟩:=dD hc;cases h2
   ·cases hc
  ·have⟨y,_,h2⟩:=dD hc;cases h2
  ·cases hc
 case buildSlice t n ps=>
  have⟨y,h1,h2⟩:=jM hc;cases h2;have⟨⟨e,i⟩,he,h1⟩:=bF h1;simp only at h1;split at h1
  ·cases h1
  ·rename_i hn;have⟨z,hz,h1⟩:=bF h1;have⟨qs,hq,h1⟩:=bF h1;cases h1;have⟨cs,h3,h4⟩:=aS (show(bH (eZ (repeatL z n) (kR i.size F qs)) fun cs=>some (AV.sl id 0 n n false,AB.cells cs false 0))=some (v,bl) from hv);cases h4;exact aFT rfl he ay hz hq hF hR id hid h3
 case makeSlice t l c=>
  have⟨y,h1,h2⟩:=jM hc;cases h2;have⟨⟨e,i⟩,he,h1⟩:=bF h1;have⟨z,hz,h1⟩:=bF h1;have⟨L,hL,h1⟩:=bF h1;have⟨C,hC,h1⟩:=bF h1;cases h1;exact aEz rfl he hz hL hC hF hR id hid hv
 case makeMap t r=>
  cases r<;>simp only[rJ,reduceCtorEq] at hc;have⟨y,h1,h2⟩:=jM hc;cases h2;cases h1;cases hv;exact aHB rfl id
 case insert t m k x=>
  simp only[rJ] at hc;split at hc
  ·have⟨y,_,h2⟩:=jR hc;cases h2
  ·cases hc
 case mapUpdate t m k x=>
  simp only[rJ] at hc;split at hc
  ·have⟨y,_,h2⟩:=jR hc;cases h2
  ·cases hc
 case convert src dst x=>
  simp only[rJ] at hc;split at hc
  ·have⟨y,_,h2⟩:=dD hc;cases h2
  ·have⟨y,_,h2⟩:=dD hc;cases h2
  ·have⟨y,_,h2⟩:=dD hc;cases h2
  ·split at hc
   ·have⟨y,_,h2⟩:=dD hc;cases h2
   ·cases hc
  ·rename_i e hs hd;split at hc
   ·rename_i he;have⟨y,h1,h2⟩:=jM hc;cases h2;have⟨X,hX,h1⟩:=bF h1;cases h1;exact aDZ rfl hs hd he (cD hF hR hX) id hid hv
   ·cases hc
  ·cases hc
 case makeInterface t x=>
  simp only[rJ] at hc;split at hc
  ·cases hc
  ·have⟨y,_,h2⟩:=dD hc;cases h2
  ·cases hc
 case makeFunc fn x y=>
  cases fn<;>(first | (have⟨y,_,h2⟩:=dD hc;cases h2;done) | (cases hc;done))
 case slice t x lo hh mx=>
  simp only[rJ,Bn] at hc;split at hc
  ·cases hc
  ·split at hc
   ·have⟨y,_,h2⟩:=dD hc;cases h2
   ·have⟨y,_,h2⟩:=dD hc;cases h2
   ·cases hc
 case fieldAddr t x f=>
  simp only[rJ] at hc;split at hc
  ·have⟨y,_,h2⟩:=dD hc;cases h2
  ·cases hc
 case field t x f=>
  simp only[rJ] at hc;split at hc
  ·have⟨y,_,h2⟩:=dD hc;cases h2
  ·cases hc
 case indexAddr t x f=>
  simp only[rJ] at hc;split at hc
  ·have⟨y,_,h2⟩:=dD hc;cases h2
  ·have⟨y,_,h2⟩:=dD hc;cases h2
  ·cases hc
 case index t x f=>
  simp only[rJ] at hc;split at hc
  ·have⟨y,_,h2⟩:=dD hc;cases h2
  ·have⟨y,_,h2⟩:=dD hc;cases h2
  ·cases hc
 case lookup t x f ok=>
  simp only[rJ] at hc;split at hc
  ·have⟨y,_,h2⟩:=dD hc;cases h2
  ·cases hc
 case call c=>
  have⟨callee,args,argTypes⟩:=c;cases callee with
  | value f=>
   simp only[rJ] at hc;split at hc
   ·cases hc
   ·have⟨y,_,h2⟩:=jR hc;cases h2
  | invoke r m=>cases hc
  | builtin b=>
   simp only[rJ] at hc;split at hc
   ·split at hc
    all_goals (first | (have⟨y,_,h2⟩:=dD hc;cases h2;done) | (cases hc;done))
   ·have⟨y,_,h2⟩:=dD hc;cases h2
   ·have⟨y,_,h2⟩:=dD hc;cases h2
   ·split at hc
    ·rw[Bn] at hc;split at hc
     ·have⟨y,_,h2⟩:=jR hc;cases h2
     ·cases hc
    ·cases hc
   ·cases hc
theorem heap_setCells_other(g:Nat):∀ (vs:List Value) (o:Nat) (w:World) (r:Nat),r≠g->(w.setCells g o vs).heap[r]? =w.heap[r]?
 | [],o,w,r,h=>rfl
 | v::vs,o,w,r,h=>by
  rw[World.setCells,heap_setCells_other g vs (o+1) _ r h];exact heap_setCell_other w ⟨g,o,none⟩ r v h
theorem size_setCells(g:Nat):∀ (vs:List Value) (o:Nat) (w:World),(w.setCells g o vs).heap.size=w.heap.size
 | [],o,w=>rfl
 | v::vs,o,w=>by rw[World.setCells,size_setCells g vs (o+1)];simp
theorem os_setCells(g:Nat):∀ (vs:List Value) (o:Nat) (w:World),(w.setCells g o vs).os=w.os/\(w.setCells g o vs).tape=w.tape/\(w.setCells g o vs).output=w.output
 | [],o,w=>⟨rfl,rfl,rfl⟩
 | v::vs,o,w=>by rw[World.setCells];exact os_setCells g vs (o+1) _
theorem aB8(hR:mF P σ S w){b off:Nat}{cs:b6}{Cs:List Value}(hC:iK P σ cs Cs)(h1:∀u∈Cs,u.oneCell'=true){S':St}(h:pJ S b off cs=some S'):
  ∃L,σ b=some L/\w.there L.r (L.d+off) Cs.length/\kJ P σ S w σ S' (w.setCells L.r (L.d+off) Cs):=by
 have⟨bl,hb,h⟩:=aS h;cases bl<;>simp only[vX,reduceCtorEq] at h;rename_i old o s;have⟨cs',hput,h⟩:=aS h;cases h;have⟨L,hL,hlt,Os,h2,h3,h4,h5⟩:=hR.blk b _ hb;have hle:=(aAz hput).1;have hlen:=h2.length;have hcl:=hC.length;have hth:w.there L.r (L.d+off) Cs.length:=fun j hj=>by
  have:=h5 (off+j) ay
  rwa [<-Db] at this
 refine⟨L,hL,hth,?_⟩;have⟨e1,e2,e3⟩:=os_setCells L.r Cs (L.d+off) w;have hput':=h2.put hC hput;refine kJ.write hR hb trivial trivial hL (fun r hr=>heap_setCells_other L.r Cs _ w r hr) (size_setCells L.r Cs _ w) e1 e2 e3 ?_;refine⟨Os.take off++Cs++Os.drop (off+Cs.length),hput',fun u hu=>?_,fun j v hv=>?_,fun j hj=>?_⟩
 ·simp only[Bf] at hu;rcases hu with(hu | hu) | hu
  ·exact h3 u (Eb hu)
  ·exact h1 u hu
  ·exact h3 u (Fe hu)
 ·have hget:(Os.take off++Cs++Os.drop (off+Cs.length))[j]? =if j<off then Os[j]? else if j<off+Cs.length then Cs[j - off]? else Os[j]? :=
   aOr (l:=Os) (vs:=Cs) (k:=off) (by rw[put_eq,if_pos ay]) j
  rw[hget] at hv;split at hv
  ·rename_i hlt1;rw[World.cell?_setCells_out L.r Cs (L.d+off) w _ (fun _ _=>.inl (by simp only;omega))];exact h4 j v hv
  ·split at hv
   ·rename_i h6 h7;have:=World.cell?_setCells_in L.r Cs (L.d+off) w (fun k hk=>(hth k hk).1) (j - off) ay;rw[show L.d+off+(j - off)=L.d+j by omega] at this;rw[this];rw[Ac ay] at hv;exact hv
   ·rename_i h6 h7;rw[World.cell?_setCells_out L.r Cs (L.d+off) w _ (fun _ _=>.inr (by simp only;omega))];exact h4 j v hv
 ·have hj':j<Os.length+if o=true then L.e * s else 0:=by
   have:(Os.take off++Cs++Os.drop (off+Cs.length)).length=Os.length:=by simp;omega
   rw[this] at hj;exact hj
  have:=h5 j hj';exact⟨World.isSome_setCells L.r Cs (L.d+off) w _ this.1,by rw[World.frozen?_setCells];exact this.2⟩
end Go.Ev
namespace Go.Ev
variable {P:Program}{σ:Env}{S:St}{w:World}
theorem aK7{u:TypeId}{i:TypeInfo}(hu:aOJ P u i=true)(hR:mF P σ S w){x:AV}{X:Value}(hx:Rv P σ x X){n:Nat}{new:b6}(hn:mC x=some n)(hs:eE x S.h i.size n=some new):
  ∃News,Src P i.size u X n News w/\iK P σ new News:=by
 have hkind:(∃e',P.underlying u=some (.slice e'))\/P.underlying u=some .string:=by
  unfold aOJ at hu;split at hu
  ·exact .inl ⟨_, ‹_›⟩
  ·exact .inr ‹_›
  ·cases hu
 cases x<;>simp only[mC,reduceCtorEq,Ao] at hn<;>simp only[eE] at hs<;>simp only[Rv] at hx
 ·obtain⟨rfl,hb⟩:=hx;rename_i s;rw[fL] at hn;subst hn;have⟨h0,hs⟩:=cG hs;rw[Bg] at h0;have⟨r,h1,h2⟩:=aS hs;cases h2;rw[fU,if_pos (Ag _),Ey] at h1;cases h1;refine⟨s.map fun b=>Value.int .u8 (Int.ofNat b),⟨hkind,fun _=>by simp [Builtin.lenOf,lN],?_,?_,by simp [h0],fun u hu=>by obtain⟨_,_,rfl⟩:=Dl.1 hu;rfl⟩,sE s⟩
  ·rw[h0,<-qR s hb];have:=firstCells_string (P:=P) (fF s) w;rw[lN] at this;exact this
  ·rw[h0,<-qR s hb];have:=firstCells_string (P:=P) (fF s) w.drew;rw[lN] at this;exact this
 ·obtain⟨L,hL,rfl⟩:=hx;subst hn;have⟨L',Cs,hL',h3,h4,h5,h6⟩:=zO hR hs;rw[hL] at hL';cases hL';have hcell:∀j u,Cs[j]? =some u->w.cell? ((⟨L.r,L.d+_,none⟩:Addr).add j)=some u:=fun j u hu=>by rw[Addr.add_mid];exact h6 j u hu
  exact⟨Cs,⟨hkind,fun _=>rfl,run_firstCells_some w _ _ _ _ _ Cs h4 hcell,run_firstCells_some w.drew _ _ _ _ _ Cs h4 (by simpa using hcell),h4,h5⟩,h3⟩
 ·subst hx;subst hn;have⟨_,hs⟩:=cG hs;cases hs;exact⟨[],⟨hkind,fun _=>rfl,run_firstCells_none w _ _ _ _,run_firstCells_none w.drew _ _ _ _,by simp,fun _ h=>by cases h⟩,dH.2 rfl⟩
 ·obtain⟨A,c,rfl⟩:=hx;subst hn;have⟨_,hs⟩:=cG hs;cases hs;exact⟨[],⟨hkind,fun _=>rfl,run_firstCells_some w _ _ _ _ _ [] (by simp) (fun j u h=>by simp at h),run_firstCells_some w.drew _ _ _ _ _ [] (by simp) (fun j u h=>by simp at h),by simp,fun _ h=>by cases h⟩,dH.2 rfl⟩
theorem rN{t u ty e:TypeId}{i:TypeInfo}{Z:Value}(ht:P.underlying t=some (.slice e))(hi:P.info? e=some i)(hZ:i.zero=some Z)(hzs:Z.cells.size=i.size)(hR:mF P σ S w)
  {base:Option Addr} {sLen sCap n:Nat} {old new:b6} {Olds News:List Value} (hO:iK P σ old Olds) (hO1:∀u∈Olds,u.oneCell'=true) (hOl:Olds.length=sLen * i.size)
  (hold:(Builtin.firstCells i.size sLen (.slice base sLen sCap)).run P w.drew= .ok Olds.toArray w.drew) {X:Value} (hs:Src P i.size u X n News w) (hN:iK P σ new News)
  (hg:sCap<sLen+n) (h1:sLen+n<=room) (h2:(sLen+n) * i.bytes<=room):
  ∃V w' σ',(Builtin.append_ #[t,u] ty #[.slice base sLen sCap,X]).run P w= .ok V w'/\Rv P σ' (.sl S.nx 0 (sLen+n) (sLen+n) true) V/\
   kJ P σ S w σ' ⟨S.h.set S.nx (some (.cells (wR old new) true i.size)),Nat.succ S.nx⟩ w':=by
 unfold room at h1 h2;have hrun:=run_append_grow_src w t u ty e i Z ht hi hZ base sLen sCap Olds hold X n News hs hg ay (growslice_fits hg ay);have hge:=grownCap_ge w (sLen+n) sCap e;generalize hcap:grownCap w (sLen+n) sCap e=cap at hrun hge;have hid:=hR.fresh S.nx (Ag _);refine⟨_,_,upd σ S.nx ⟨w.heap.size,0,cap - (sLen+n)⟩,hrun,?_,?_⟩
 ·simp only[Rv];refine⟨_,upd_same _ _,?_⟩;simp only[Ej,Bh];congr 1;omega
 ·refine kJ.alloc hR (ob:=.cells ((Olds++News).toArray++Builtin.zeroCells Z.cells (cap - (sLen+n))) e) rfl rfl rfl rfl ?_ trivial;refine sJ (C:=Olds++News) (X:=(Builtin.zeroCells Z.cells (cap - (sLen+n))).toList) (t:=e) (fz:=(0,0)) ?_ (.inr rfl) ?_ ?_ (fun _=>?_)
  ·show w.heap.push _=_;congr 2;apply Ft;simp
  ·rw[fW];exact(hO.append hN).mono (gR hid)
  ·intro u hu;rcases Bf.1 hu with hu | hu
   ·exact hO1 u hu
   ·exact hs.one u hu
  ·simp [Builtin.zeroCells,hzs]
theorem aFQ{t u ty e:TypeId}{i:TypeInfo}{z:b6}(he:pO P t=some (e,i))(hu:aOJ P u i=true)(hz:nD P e i=some z)(hR:mF P σ S w)
  {s x:AV} {Sv X:Value} (hs:Rv P σ s Sv) (hx:Rv P σ x X) {v:AV} {S':St} (h:fN i.bytes i.size s x S=some (v,S')):
  ∃V w' σ',(Builtin.append_ #[t,u] ty #[Sv,X]).run P w= .ok V w'/\Rv P σ' v V/\kJ P σ S w σ' S' w':=by
 have⟨ht,hi⟩:=tW he;have⟨Z,hZ,_,_,hzs,_⟩:=qM (σ:=σ) hi hz;have⟨n,hn,hh⟩:=aS h;clear h;have⟨new,hnew,h⟩:=aS hh;clear hh;have⟨News,hsrc,hN⟩:=aK7 hu hR hx hn hnew;have hnl:=hsrc.newsLen;have hnothing:n=0->Src P i.size u X 0 [] w:=fun h0=>by
  subst h0;have:News= []:=List.eq_nil_of_length_eq_zero (by simpa using hnl);subst this;exact hsrc
 cases s<;>simp only[yA,reduceCtorEq] at h
 case cb=>
  simp only[Rv] at hs;subst hs;unfold pI at h;rw[cN] at h;split at h
  ·rename_i h0;rw[Bg] at h0;cases h;exact⟨_,w,σ,run_append_nothing w t u ty e i ht hi none 0 0 (Ag _) X (hnothing h0),by simp only[Rv],kJ.refl hR⟩
  ·rename_i h0;rw[Bg] at h0;have⟨h1,h⟩:=cG h;have⟨h2,h⟩:=cG h;cases h;have h1:=Ba h1;have h2:=Ba h2;have:=rN (ty:=ty) ht hi hZ hzs hR (base:=none) (sLen:=0) (sCap:=0) (old:=[]) (Olds:=[]) (dH.2 rfl) (by simp) (by simp) (run_firstCells_none w.drew _ _ _ _) hsrc hN ay (by simpa using h1) (by simpa using h2);simpa [fW] using this
 case emp=>
  simp only[Rv] at hs;obtain⟨A,c,rfl⟩:=hs;have⟨h0,h⟩:=cG h;rw[Bg] at h0;cases h;exact⟨_,w,σ,run_append_nothing w t u ty e i ht hi (some A) 0 c (Da _) X (hnothing h0),by simp only[Rv];exact⟨A,c,rfl⟩,kJ.refl hR⟩
 case sl b off len cap o=>
  have hs':=hs;simp only[Rv] at hs;obtain⟨L,hL,rfl⟩:=hs;unfold jK at h;rw[cN] at h;split at h
  ·rename_i hfit;have hfit:=Ba hfit;have hcap:len+n<=if o=true then cap+L.e else cap:=by split<;>omega
   rw[cN] at h;split at h
   ·rename_i h0;rw[Bg] at h0;cases h;exact⟨_,w,σ,run_append_nothing w t u ty e i ht hi _ len _ ay X (hnothing h0),hs',kJ.refl hR⟩
   ·have⟨S1,hst,h⟩:=aS h;cases h;have⟨L',hL',hth,hext⟩:=aB8 hR hN hsrc.one hst;rw[hL] at hL';cases hL';have hrun:=run_append_room_src w t u ty e i ht hi L.r (L.d+off) len (if o=true then cap+L.e else cap) X n News hsrc hcap
     (fun j hj=>by have:=(hth j hj).1;rwa [show L.d+off+len * i.size=L.d+(off+len * i.size) by omega])
     (fun j hj=>by have:=(hth j hj).2;rwa [show L.d+off+len * i.size=L.d+(off+len * i.size) by omega])
    refine⟨_,_,σ,hrun,by simp only[Rv];exact⟨L,hL,rfl⟩,?_⟩;rw[show L.d+off+len * i.size=L.d+(off+len * i.size) by omega];exact hext
  ·rename_i hfit;rw[Fp] at hfit;have⟨h1,h⟩:=cG h;have⟨h2,h⟩:=cG h;have⟨bl,hb,h⟩:=aS h;have h1:=Ba h1;have h2:=Ba h2;have⟨L',hL',hLr,hblk⟩:=hR.blk b bl hb;rw[hL] at hL';cases hL';have hold:∀ (cs:b6) (Cs:List Value),iK P σ cs Cs->(∀u∈Cs,u.oneCell'=true)->w.rangeAt L.r L.d Cs->∀old,cut cs off (len * i.size)=some old->
     ∃Olds,iK P σ old Olds/\(∀u∈Olds,u.oneCell'=true)/\Olds.length=len * i.size/\w.rangeAt L.r (L.d+off) Olds/\Olds=(Cs.drop off).take (len * i.size)/\
      ∀c,(Builtin.firstCells i.size len (.slice (some ⟨L.r,L.d+off,none⟩) len c)).run P w.drew= .ok Olds.toArray w.drew:=by
    intro cs Cs hC hC1 hC2 old hcut;have hc:=hC.cut hcut;have hr:=aEI (i:=off) (n:=len * i.size) hC2;exact⟨_,hc.1,fun u hu=>hC1 u (Fe (Eb hu)),hc.2,hr,rfl,fun c=>run_firstCells_some w.drew _ _ _ _ _ _ hc.2 (fun j u hu=>by
     rw[Addr.add_mid];simpa using hr j u hu)⟩
   cases bl<;>simp only[vJ,reduceCtorEq] at h
   ·rename_i cs o' sz;have⟨Cs,hC,hC1,hC2,hC3⟩:=hblk;have⟨old,hcut,h⟩:=aS h;have⟨Olds,hO,hO1,hOl,hO2,hOe,hOf⟩:=hold cs Cs hC hC1 hC2 old hcut;cases o with
    | false=>
     rw[aT] at h;cases h;simp only[Be,Eh];exact rN ht hi hZ hzs hR hO hO1 hOl (hOf cap) hsrc hN ay h1 h2
    | true=>
     rw[aO] at h;have⟨ho',g1⟩:=cG h;have⟨hsz,g2⟩:=cG g1;have⟨hend,g3⟩:=cG g2;clear h g1 g2;subst ho';rw[Bg] at hsz hend;rw[fL] at hend;subst hsz;cases g3;simp only[Ej];have hCl:=hC.length;by_cases hin:len+n<=cap+L.e
     ·-- in place
      have hthere:∀j,j<News.length->(w.cell? ⟨L.r,L.d+off+len * i.size+j,none⟩).isSome=true/\w.frozen? ⟨L.r,L.d+off+len * i.size+j,none⟩=false:=by
       intro j hj;have hb1:off+len * i.size+j<Cs.length+L.e * i.size:=by
        have e1:(len+n) * i.size<=(cap+L.e) * i.size:=Cj _ hin;rw[Ec,Ec] at e1;omega
       have:=hC3 (off+len * i.size+j) (by simpa using hb1)
       rwa [show L.d+(off+len * i.size+j)=L.d+off+len * i.size+j by omega] at this
      have hrun:=run_append_room_src w t u ty e i ht hi L.r (L.d+off) len (cap+L.e) X n News hsrc hin (fun j hj=>(hthere j hj).1) (fun j hj=>(hthere j hj).2);have hid:=hR.fresh S.nx (Ag _);refine⟨_,_,upd σ S.nx ⟨L.r,L.d+off,cap+L.e - (len+n)⟩,hrun,?_,?_⟩
      ·simp only[Rv];refine⟨_,upd_same _ _,?_⟩;simp only[Ej,Bh];congr 1;omega
      ·have⟨e1,e2,e3⟩:=os_setCells L.r News (L.d+off+len * i.size) w;refine kJ.rename hR hb trivial trivial hL rfl (fun r hr=>heap_setCells_other L.r News _ w r hr) (size_setCells L.r News _ w) e1 e2 e3 ?_;refine⟨Olds++News,?_,?_,fun j v hv=>?_,fun j hj=>?_⟩
       ·rw[fW];exact(hO.append hN).mono (gR hid)
       ·intro u hu;rcases Bf.1 hu with hu | hu
        ·exact hO1 u hu
        ·exact hsrc.one u hu
       ·by_cases hj:j<Olds.length
        ·rw[Al hj] at hv;rw[World.cell?_setCells_out L.r News _ w _ (fun _ _=>.inl (by simp only;omega))];exact hO2 j v hv
        ·rw[Am ay] at hv;have hj2:=(Aj.1 hv).1;have:=World.cell?_setCells_in L.r News (L.d+off+len * i.size) w (fun k hk=>(hthere k hk).1) (j - Olds.length) hj2;rw[show L.d+off+len * i.size+(j - Olds.length)=L.d+off+j by omega] at this;simp only;rw[this];rw[Ac hj2] at hv;exact hv
       ·have e4:(len+n) * i.size+(cap+L.e - (len+n)) * i.size=(cap+L.e) * i.size:=by rw[<-Ec];congr 1;omega
        have e5:(len+n) * i.size=len * i.size+n * i.size:=Ec _ _ _;have e6:(cap+L.e) * i.size=cap * i.size+L.e * i.size:=Ec _ _ _;simp only[Ai,Ej] at hj;have:=hC3 (off+j) (by simp only[Ej];omega);rw[<-Db] at this;exact⟨World.isSome_setCells L.r News _ w _ this.1,by rw[World.frozen?_setCells];exact this.2⟩
     ·-- a new row;the old name is given up
      have hdrop:=kJ.drop hR b;have⟨V,w',σ',h5,h6,h7⟩:=rN (S:=⟨S.h.set b none,S.nx⟩) (ty:=ty) ht hi hZ hzs hdrop.rep hO hO1 hOl (hOf (cap+L.e)) hsrc hN ay h1 h2;exact⟨V,w',σ',h5,h6,hdrop.trans h7⟩
   ·rename_i cs;have⟨Cs,hC,hC1,hC2⟩:=hblk;cases o with
    | true=>simp [aO] at h
    | false=>
     rw[aT] at h;have⟨old,hcut,h⟩:=aS h;have⟨Olds,hO,hO1,hOl,hO2,hOe,hOf⟩:=hold cs Cs hC hC1 hC2 old hcut;cases h;simp only[Be,Eh];exact rN ht hi hZ hzs hR hO hO1 hOl (hOf cap) hsrc hN ay h1 h2
end Go.Ev
namespace Go.Ev
variable {P:Program}{σ:Env}{S:St}{w:World}
theorem sM.append:∀ {m:List (AV×AV)} {es:List MapEntry} {k v:AV} {e:MapEntry},sM P σ m es->Rv P σ k e.key->Rv P σ v e.val->sM P σ (m++ [(k,v)]) (es++ [e])
 | [],es,k,v,e,h,h1,h2=>by have h:es= []:=h;subst h;exact⟨e,[],rfl,h1,h2,rfl⟩
 | (k',v')::m,es,k,v,e,h,h1,h2=>by
  obtain⟨x,es',rfl,h3,h4,h5⟩:=h;exact⟨x,es'++ [e],rfl,h3,h4,sM.append h5 h1 h2⟩
theorem sM.modify:∀ {m:List (AV×AV)} {es:List MapEntry} {k v:AV} {K V:Value} (i:Nat),sM P σ m es->Rv P σ k K->Rv P σ v V->
  sM P σ (wN (fun _=>(k,v)) m i) (es.modify i fun e=>{e with key:=K,val:=V})
 | [],es,k,v,K,V,i,h,_,_=>by have h:es= []:=h;subst h;simp [wN];rfl
 | (k',v')::m,es,k,v,K,V,i,h,h1,h2=>by
  obtain⟨x,es',rfl,h3,h4,h5⟩:=h;simp only[wN,cN];cases i with
  | zero=>exact⟨{x with key:=K,val:=V},es',by simp,h1,h2,h5⟩
  | succ i=>
   rw[if_neg (by simp)];exact⟨x,es'.modify i (fun e=>{e with key:=K,val:=V}),by simp,h3,h4,by simpa using sM.modify i h5 h1 h2⟩
def nG(P:Program):Prop:=∀ (σ:Env) (kt:TypeId) (e:qF) (k k':AV) (K K':Value),aBF P kt=some e->Rv P σ k K->Rv P σ k' K'->eqv e k k'=some true->Instr.sameBits 10000 K' K=true
theorem aHq:∀ {e:qF} {k:AV} {m:List (AV×AV)} {i j:Nat} {v:AV},qN e k m i=some (some (j,v))->i<=j/\∃k',m[j - i]? =some (k',v)/\eqv e k k'=some true
 | e,k,[],i,j,v,h=>by simp [qN] at h
 | e,k,(k',v')::m,i,j,v,h=>by
  simp only[qN] at h;have⟨b,h1,h⟩:=aS h;cases b
  ·rw[aT] at h;have⟨h2,k2,h3,h4⟩:=aHq h;refine⟨ay,k2,?_,h4⟩;rw[show j - i=(j - Nat.succ i)+1 by omega];simpa using h3
  ·rw[aO] at h;cases h;exact⟨Ag _,k',by simp,h1⟩
theorem sM.get:∀ {m:List (AV×AV)} {es:List MapEntry} {i:Nat} {k v:AV},sM P σ m es->m[i]? =some (k,v)->∃e,es[i]? =some e/\Rv P σ k e.key/\Rv P σ v e.val
 | [],es,i,k,v,h,h1=>by simp at h1
 | (k',v')::m,es,i,k,v,h,h1=>by
  obtain⟨x,es',rfl,h3,h4,h5⟩:=h;cases i with
  | zero=>simp at h1;obtain⟨rfl,rfl⟩:=h1;exact⟨x,by simp,h3,h4⟩
  | succ i=>simp at h1;have⟨e,h6,h7⟩:=sM.get h5 h1;exact⟨e,by simpa using h6,h7⟩
theorem zF{r:Nat}{ob old:Obj}(h:w.heap[r]? =some old)(hc:∀c e f,old≠ .cells c e f):(setObj r ob).run P w= .ok () {w with heap:=w.heap.setIfInBounds r ob}:=by
 simp only[setObj,Sem.run,h]
theorem aDo{r:Nat}{ob:Obj}(h:w.heap[r]? =some ob)(hc:∀c e f,ob≠ .cells c e f):(getObj r).run P w= .ok ob w:=by
 simp only[getObj,Sem.run,h]
theorem aA4(hA:yL P)(hB:nG P){t kt et:TypeId}{e:qF}(ht:P.underlying t=some (.map kt et))(hkt:aBF P kt=some e)(hR:mF P σ S w){m k x:AV}{M K X:Value}(hm:Rv P σ m M)(hk:Rv P σ k K)(hx:Rv P σ x X)
  {v:AV} {S':St} (h:uL m e k x S=some (v,S')):v= .undef/\∃w',(Instr.mapUpdate t M K X).run P w= .ok () w'/\kJ P σ S w σ S' w':=by
 cases m<;>simp only[uL,reduceCtorEq] at h;rename_i b;have⟨es,h1,h⟩:=aS h;have⟨bl,hb,h1⟩:=aS h1;have⟨r,h2,h⟩:=aS h;cases h;refine⟨rfl,?_⟩;have⟨hself,hf⟩:=aB0 h2;cases bl<;>simp only[tT,reduceCtorEq,Ao] at h1;rename_i es0;have h1:=h1.symm;subst h1;have⟨L,hL,hlt,ms,c,h3,h4⟩:=hR.blk b _ hb;simp only[Rv] at hm;obtain⟨L',hL',rfl⟩:=hm;rw[hL] at hL';cases hL';have⟨R,h5,h6⟩:=yM (w:=w) hA.eq hkt hk h4 hf;have hck:=hA.key σ w kt e k K false hkt hk hself;have hg:=aDo (P:=P) h3 (by simp);have key:∀ob,qL P σ {w with heap:=w.heap.setIfInBounds L.r ob} L (.map (aBl r es k x))->
   kJ P σ S w σ ⟨S.h.set b (some (.map (aBl r es k x))),S.nx⟩ {w with heap:=w.heap.setIfInBounds L.r ob}:=fun ob hbl=>
  kJ.write hR hb trivial trivial hL (fun r hr=>by simp [Array.getElem?_setIfInBounds_ne (Cx hr)]) (by simp) rfl rfl rfl hbl
 have hat:∀ob,(w.heap.setIfInBounds L.r ob)[L.r]? =some ob:=fun ob=>by
  rw[Array.getElem?_setIfInBounds_self_of_lt hlt]
 cases r with
 | none=>
  cases R with
  | some _=>exact h6.elim
  | none=>
   refine⟨_,?_,key (.map (ms.push {key:=K,val:=X,born:=c}) (c+1)) ?_⟩
   ·simp only[Instr.mapUpdate,Sem.run_bind,run_underlying ht,Result.andThen_ok,hg,hck,h5];rw[zF h3 (by simp)]
   ·refine⟨_,_,hat _,?_⟩;simp only[aBl,fW,Array.toList_push];exact h4.append hk hx
 | some jv=>
  have⟨j,v0⟩:=jv;cases R with
  | none=>exact h6.elim
  | some jV=>
   have⟨j',V0⟩:=jV;obtain⟨rfl,_⟩:=h6;have⟨_,k',hk1,hk2⟩:=aHq hf;simp only[Eu] at hk1;have⟨en,he1,he2,_⟩:=h4.get hk1;have hbits:=hB σ kt e k k' K en.key hkt hk he2 hk2;refine⟨_,?_,key (.map (ms.modify j fun e=>{e with key:=K,val:=X}) c) ?_⟩
   ·have hms:ms[j]? =some en:=by rw[<-Dj];exact he1
    simp only[Instr.mapUpdate,Sem.run_bind,run_underlying ht,Result.andThen_ok,hg,hck,h5,hms,Fd,Option.getD_some,Instr.keyThatStays,hbits,Ej,Sem.run_pure];rw[zF h3 (by simp)]
   ·refine⟨_,_,hat _,?_⟩;simp only[aBl];rw[Array.toList_modify];exact h4.modify j hk hx
def rU(P:Program)(R:Value->World->Prop):Result Next->Prop
 | .ok (.value v) w'=>R v w'
 | .ok .skip w'=>R undef w'
 | .ok (.enter f args) w'=>CallsIn Fence.wide 0 P f args w' fun
   | .returned v,w''=>R v w''
   | _,_=>False
 | .ok (.round l f tmps assign body) w'=>RoundIn Fence.wide 0 P l f tmps assign body w' fun
   | .returned v,w''=>R v w''
   | _,_=>False
 | _=>False
def nL(P:Program)(call:fK):Prop:=∀ (f:AV) (args:b6) (S:St) (v:AV) (S':St),call f args S=some (v,S')->∀ (σ:Env) (w:World) (fv:Value) (Args:List Value),
 Rv P σ f fv->iK P σ args Args->mF P σ S w->rU P (fun V w'=>∃σ',Rv P σ' v V/\kJ P σ S w σ' S' w') ((do let d <-Deferred.ofValue fv ⟨Args⟩;invoke d.target d.args:Sem Next).run P w)
theorem aLx{t:TypeId}{agg:Bool}{n:Nat}(ht:aAg P t=some (agg,n))(hR:mF P σ S w){x y:AV}{X Y:Value}(hx:Rv P σ x X)(hy:Rv P σ y Y){cs:b6}(hcs:y.cells=some cs){v:AV}{S':St}
  (h:mJ x n cs S=some (v,S')):v= .undef/\∃w',(Instr.storeAt t X Y).run P w= .ok () w'/\kJ P σ S w σ S' w':=by
 have⟨d,i,hu,hi,hn,hd⟩:=xI ht;cases x<;>simp only[mJ,reduceCtorEq] at h;have⟨hl,h⟩:=cG h;have⟨S1,hst,h⟩:=aS h;cases h;refine⟨rfl,?_⟩;simp only[Rv] at hx;obtain⟨L,hL,rfl⟩:=hx;have⟨hc1,hc2⟩:=aAi hy hcs;have⟨L',hL',hth,hext⟩:=aB8 hR hc1 hc2 hst;rw[hL] at hL';cases hL';rw[fL,Bg] at hl;refine⟨_,?_,hext⟩;have hsz:Y.cells.size=i.size:=by have:=hc1.length;simp at this;omega
 have hrun:=run_storeCells_cells (P:=P) L.r (L.d+_) Y.cells.toList 0 w (fun j hj=>by simpa using (hth j hj).1) (fun j hj=>by simpa using (hth j hj).2) hc2;simp only[Bh] at hrun;simp [Instr.storeAt,Instr.sureAddr,storeVar,sizeOf,typeInfo,hi,hsz,hrun]
theorem aEU(hA:yL P)(hB:nG P){call:fK}(hcall:nL P call){o:Oper}{xo:XOp}(hc:rJ P o.op=some (.x xo)){F:Fr}{a:Act}(hF:rV P σ F a.tmps)(hR:mF P σ S w){v:AV}{S':St}
  (hv:evX xo call F S=some (v,S')):rU P (fun V w'=>∃σ',Rv P σ' v V/\kJ P σ S w σ' S' w') ((execOp a.eval o).run P w):=by
 have⟨dst,op,type,pos,after,guard⟩:=o;simp only at hc;have hundef:∀σ',Rv P σ' .undef undef:=fun σ'=>by simp only[AV.undef,undef,Rv];exact⟨[],rfl,dH.2 rfl⟩
 cases op<;>(try (first | (have⟨y,_,h2⟩:=dD hc;cases h2;done) | (have⟨y,_,h2⟩:=jM hc;cases h2;done) | (cases hc;done)))
 case store t x y=>
  have⟨z,h1,h2⟩:=jR hc;cases h2;have⟨⟨agg,n⟩,hag,h1⟩:=bF h1;have⟨X,hX,h1⟩:=bF h1;have⟨Y,hY,h1⟩:=bF h1;cases h1;have⟨cs,h3,h4⟩:=aS (show(bH (Y.val F).cells fun cs=>mJ (X.val F) n cs S)=some (v,S') from hv);obtain⟨rfl,w',h5,h6⟩:=aLx hag hR (cD hF hR hX) (cD hF hR hY) h3 h4;simp only[execOp,Sem.run_bind,h5,Result.andThen_ok,Sem.run_pure];exact⟨σ,hundef σ,h6⟩
 case insert t m k x=>
  simp only[rJ] at hc;split at hc
  ·rename_i kt et hu;have⟨y,h1,h2⟩:=jR hc;cases h2;have⟨e,he,h1⟩:=bF h1;have⟨M,hM,h1⟩:=bF h1;have⟨K,hK,h1⟩:=bF h1;have⟨X,hX,h1⟩:=bF h1;cases h1;obtain⟨rfl,w',h5,h6⟩:=aA4 hA hB hu he hR (cD hF hR hM) (cD hF hR hK) (cD hF hR hX) hv;simp only[execOp,Sem.run_bind,h5,Result.andThen_ok,Sem.run_pure];exact⟨σ,hundef σ,h6⟩
  ·cases hc
 case mapUpdate t m k x=>
  simp only[rJ] at hc;split at hc
  ·rename_i kt et hu;have⟨y,h1,h2⟩:=jR hc;cases h2;have⟨e,he,h1⟩:=bF h1;have⟨M,hM,h1⟩:=bF h1;have⟨K,hK,h1⟩:=bF h1;have⟨X,hX,h1⟩:=bF h1;cases h1;obtain⟨rfl,w',h5,h6⟩:=aA4 hA hB hu he hR (cD hF hR hM) (cD hF hR hK) (cD hF hR hX) hv;simp only[execOp,Sem.run_bind,h5,Result.andThen_ok,Sem.run_pure];exact⟨σ,hundef σ,h6⟩
  ·cases hc
 case call c=>
  have⟨callee,args,argTypes⟩:=c;cases callee with
  | value f=>
   simp only[rJ] at hc;split at hc
   ·cases hc
   ·have⟨y,h1,h2⟩:=jR hc;cases h2;have⟨Fo,hFo,h1⟩:=bF h1;have⟨As,hAs,h1⟩:=bF h1;cases h1;have:=hcall _ _ _ _ _ hv σ w _ _ (cD hF hR hFo) (oH hF hR hAs) hR;have he:(args.map a.eval)=⟨args.toList.map a.eval⟩:=by apply Ft;simp
    simp only[execOp,resolve,he];exact this
  | invoke r m=>cases hc
  | builtin b=>
   have arr:∀ {α:Type} {x:Array α} {l:List α},x.toList=l->x=l.toArray:=fun h=>by apply Ft;rw[h]
   simp only[rJ] at hc;split at hc
   ·split at hc
    all_goals (first | (have⟨y,_,h2⟩:=dD hc;cases h2;done) | (cases hc;done))
   ·have⟨y,_,h2⟩:=dD hc;cases h2
   ·have⟨y,_,h2⟩:=dD hc;cases h2
   ·rename_i s x t u hx ht;have:=arr hx;subst this;have:=arr ht;subst this;split at hc
    ·rename_i e i he;rw[Bn] at hc;split at hc
     ·rename_i hcond;rw[Cn] at hcond;have⟨z,hz⟩:=Option.isSome_iff_exists.1 hcond.2;have⟨y,h1,h2⟩:=jR hc;cases h2;have⟨So,hS,h1⟩:=bF h1;have⟨Xo,hX,h1⟩:=bF h1;cases h1;have⟨V,w',σ',h3,h4,h5⟩:=aFQ (ty:=type) he hcond.1 hz hR (cD hF hR hS) (cD hF hR hX) hv;have hex:(execOp a.eval ⟨dst,.call ⟨.builtin .append, #[s,x], #[t,u]⟩,type,pos,after,guard⟩).run P w= .ok (.value V) w':=by
       simp [execOp,resolve,invoke,builtin,h3]
      have hex':(execOp a.eval ⟨dst,.call ⟨.builtin .append,[s,x].toArray,[t,u].toArray⟩,type,pos,after,guard⟩).run P w= .ok (.value V) w':=hex;rw[hex'];exact⟨σ',h4,h5⟩
     ·cases hc
    ·cases hc
   ·cases hc
 case makeFunc fn x y=>
  cases fn<;>(first | (have⟨y,_,h2⟩:=dD hc;cases h2;done) | (cases hc;done))
 case makeMap t r=>
  cases r<;>simp only[rJ,reduceCtorEq] at hc;have⟨y,_,h2⟩:=jM hc;cases h2
 all_goals
  simp only[rJ,Bn] at hc
  (repeat' split at hc)<;>first
   | (have⟨y,_,h2⟩:=dD hc;cases h2;done)
   | (have⟨y,_,h2⟩:=jM hc;cases h2;done)
   | (cases hc;done)
end Go.Ev
namespace Go.Ev
variable {P:Program}{σ:Env}{S:St}{w:World}
def Fw(ro:Option Nat):Fence:={Fence.wide with round:=ro}
theorem aHZ{ro:Option Nat}{n m:Nat}{f:FuncId}{args:Array Value}{R:Ending->World->Prop}(h:CallsIn Fence.wide m P f args w R):CallsIn (Fw ro) n P f args w R:=
 ⟨trivial,fun cs _=>h.2 cs (room_wide _)⟩
theorem aHN{ro:Option Nat}{n m l:Nat}{f:FuncId}{tmps:Array Value}{as bd:Code}{R:Ending->World->Prop}(h:RoundIn Fence.wide m P l f tmps as bd w R):RoundIn (Fw ro) n P l f tmps as bd w R:=
 ⟨trivial,fun c cs _=>h.2 c cs (room_wide _)⟩
theorem rU.mono{R R':Value->World->Prop}{r:Result Next}(h:rU P R r)(hr:∀v w,R v w->R' v w):rU P R' r:=by
 unfold rU at *;split at h
 ·exact hr _ _ h
 ·exact hr _ _ h
 ·exact CallsIn.mono h fun e w' he=>by cases e<;>first | exact hr _ _ he | exact he
 ·exact RoundIn.mono h fun e w' he=>by cases e<;>first | exact hr _ _ he | exact he
 ·exact h.elim
theorem aAJ{ro:Option Nat}{n:Nat}{o:Oper}{a:Act}{next:Act->World->Prop}{Q:Exit->Act->World->Prop}{R:Value->World->Prop}{r:Result Next}(h:rU P R r)
  (hr:∀v w,R v w->next (a.put o.dst v) w):o.uponIn (Fw ro) n P a next Q r:=by
 unfold rU at h;split at h
 ·exact hr _ _ h
 ·exact hr _ _ h
 ·refine⟨fun hd=>by simp [Fw,Fence.wide] at hd,aHZ (CallsIn.mono h fun e w' he=>?_)⟩;cases e with
  | returned v=>exact hr _ _ he
  | panicked c=>exact he.elim
  | outgrown=>exact he.elim
 ·refine⟨fun hd=>by simp [Fw,Fence.wide] at hd,aHN (RoundIn.mono h fun e w' he=>?_)⟩;cases e with
  | returned v=>exact hr _ _ he
  | panicked c=>exact he.elim
  | outgrown=>exact he.elim
 ·exact h.elim
theorem aJC(t:Nat)(F:Fr):aD t F=(F.get t).getD .undef:=by
 unfold aD;cases F.get t<;>rfl
theorem aA1(F:Fr)(d t:Nat)(v:AV):aD t (F.set d (some v))=if t=d then v else aD t F:=by
 rw[aJC,dd];split
 ·rfl
 ·rw[aJC]
theorem rV.put{F:Fr}{a:Act}{d:Option Tmp}{v:AV}{V:Value}(hF:rV P σ F a.tmps)(hd:yD a.tmps.size d=true)(hv:Rv P σ v V):rV P σ (cR d F v) (a.put d V).tmps:=by
 cases d with
 | none=>exact hF
 | some d=>
  have hlt:d<a.tmps.size:=Ba hd;refine⟨fun t=>?_⟩;show Rv P σ (aD t (F.set d (some v))) _;rw[aA1];simp only[Act.put,Bs,Array.getElem?_setIfInBounds];split
  ·rename_i e;subst e;simp;exact hv
  ·rename_i hne;rw[if_neg (Cx hne)];have:=hF.get t;simpa [Bs] using this
theorem aC5(a:Act)(d:Option Tmp)(V:Value):(a.put d V).tmps.size=a.tmps.size:=by cases d<;>simp [Act.put]
theorem put_defers(a:Act)(d:Option Tmp)(V:Value):(a.put d V).defers=a.defers:=by cases d<;>rfl
theorem aCc{ops:Array Oper}{o:Oper}{g:Option (Nat×Bool)}(hg:aBt ops o.guard=some g){F:Fr}{tmps:Array Value}(hF:rV P σ F tmps):Region.wanted o (yielded ops tmps)=eT g F:=by
 unfold Region.wanted;cases ho:o.guard with
 | none=>
  rw[ho] at hg;simp only[aBt,Ao] at hg;subst hg;rfl
 | some jw=>
  have⟨j,want⟩:=jw;rw[ho] at hg;simp only[aBt] at hg;split at hg
  ·rename_i d hd;cases hg;show(yielded ops tmps j==some want)=isB (aD d F) want;have hv:=hF.get d;unfold yielded;rw[hd];simp only[Option.bind_some];have hgd:tmps.getD d undef=(tmps[d]?).getD undef:=Bs ..;rw[hgd] at hv;cases ht:tmps[d]? with
   | none=>
    rw[ht] at hv;simp only[Option.getD_none] at hv;cases hb:aD d F<;>rw[hb] at hv<;>simp only[isB]<;>first | rfl | (simp only[Rv,undef,reduceCtorEq] at hv)
   | some X=>
    rw[ht] at hv;simp only[Option.getD_some] at hv;cases hb:aD d F<;>rw[hb] at hv<;>simp only[isB]<;>simp only[Rv] at hv
    case bool b=>subst hv;simp only[uN];cases b<;>cases want<;>rfl
    all_goals first
     | (subst hv;rfl)
     | (obtain⟨rfl,_⟩:=hv;rfl)
     | (obtain⟨L,_,rfl⟩:=hv;rfl)
     | (obtain⟨A,c,rfl⟩:=hv;rfl)
     | (obtain⟨A,B,rfl,_⟩:=hv;rfl)
     | (obtain⟨A,rfl,_⟩:=hv;rfl)
  ·cases hg
theorem semAt_eq{o:Oper}{r:Option Nat}{ρ:Operand->Value}(h:∀c,o.op≠ .defer c):o.semAt r ρ=execOp ρ o:=by
 unfold Oper.semAt;split
 ·rename_i h1;exact absurd h1 (h _)
 ·rfl
theorem qY{op:Op}{r:AOp}(h:rJ P op=some r):∀c,op≠ .defer c:=by
 rintro c rfl;cases h
theorem yT{nt:Nat}{ops:Array Oper}{o:Oper}{m:Nat}{ao:AO}(h:aJI P nt ops o m=some ao):
  yD nt o.dst=true/\aBt ops o.guard=some ao.grd/\ao.dst=o.dst/\ao.mask=m/\(rJ P o.op=some ao.op\/ao.op= .x .bad):=by
 unfold aJI at h;rw[Bn] at h;split at h
 ·rename_i hd;split at h
  ·rename_i g hg;split at h
   ·rename_i op hop;cases h;exact⟨hd,hg,rfl,rfl,.inl hop⟩
   ·cases h;exact⟨hd,hg,rfl,rfl,.inr rfl⟩
  ·cases h
 ·cases h
theorem aIC(hA:yL P)(hB:nG P){call:fK}(hcall:nL P call){ao:AO}{o:Oper}(hop:rJ P o.op=some ao.op\/ao.op= .x .bad){F F':Fr}{a:Act}(hdst:ao.dst=o.dst)(hd:yD a.tmps.size o.dst=true)
  (hF:rV P σ F a.tmps) (hR:mF P σ S w) {S':St} (h:oOp ao.op ao.dst call F S=some (F',S')):
  (∀c,o.op≠ .defer c)/\rU P (fun V w'=>∃σ',rV P σ' F' (a.put o.dst V).tmps/\kJ P σ S w σ' S' w') ((execOp a.eval o).run P w):=by
 rcases hop with hop | hop
 ·refine⟨qY hop,?_⟩;cases hao:ao.op with
  | q qo=>
   rw[hao] at h hop;have⟨v,h1,h2⟩:=aS (show(bH (gT qo F S.h) fun v=>some (cR ao.dst F v,S))=some (F',S') from h);cases h2;have⟨V,h3,h4⟩:=aFd hA hop hF hR h1;rw[h3];exact⟨σ,by rw[hdst];exact hF.put hd h4,kJ.refl hR⟩
  | a al=>
   rw[hao] at h hop;have⟨⟨v,bl⟩,h1,h2⟩:=aS (show(bH (sH al F S.nx) fun r=>some (cR ao.dst F r.1,(⟨S.h.set S.nx (some r.2),Nat.succ S.nx⟩:St)))=some (F',S') from h);cases h2;have⟨V,w',h3,ob,e,m1,m2,m3,m4,m5,m6,m7⟩:=aEJ hop hF hR S.nx (hR.fresh _ (Ag _)) h1;rw[h3];have hext:=kJ.alloc hR m1 m2 m3 m4 m5 m6;exact⟨_,by rw[hdst];exact(hF.mono (hext.mono hR)).put hd m7,hext⟩
  | x xo=>
   rw[hao] at h hop;have⟨⟨v,S1⟩,h1,h2⟩:=aS (show(bH (evX xo call F S) fun r=>some (cR ao.dst F r.1,r.2))=some (F',S') from h);cases h2;refine(aEU hA hB hcall hop hF hR h1).mono ?_;rintro V w' ⟨σ',h3,h4⟩;exact⟨σ',by rw[hdst];exact(hF.mono (h4.mono hR)).put hd h3,h4⟩
 ·rw[hop] at h;have⟨r,h1,_⟩:=aS (show(bH (evX .bad call F S) fun r=>some (cR ao.dst F r.1,r.2))=some (F',S') from h);cases h1
theorem iA(o:AO)(os:List AO)(call:fK)(F:Fr)(S:St):uZ (o::os) call F S=bH (aEd o call F S) fun r=>uZ os call r.1 r.2:=rfl
theorem vS(hA:yL P)(hB:nG P){call:fK}(hcall:nL P call){ro:Option Nat}{n nt:Nat}{ops:Array Oper}{Q:Exit->Act->World->Prop}:
  ∀ (l:List Oper) (k:Nat) (ms:b9) (aos:List AO) (σ:Env) (F F':Fr) (S S':St) (a:Act) (w:World),(∀j,l[j]? =ops[k+j]?)->uJ P nt ops l ms=some aos->a.tmps.size=nt->rV P σ F a.tmps->mF P σ S w->
   uZ aos call F S=some (F',S')->(∀σ' a' w',rV P σ' F' a'.tmps->a'.tmps.size=nt->a'.defers=a.defers->kJ P σ S w σ' S' w'->Q .normal a' w')->
   wpOpsIn (Fw ro) n P ops Q (List.range' k l.length) a w
 | [],k,ms,aos,σ,F,F',S,S',a,w,hl,hc,hn,hF,hR,h,hQ=>by
  simp only[uJ,Ao] at hc;subst hc;cases h;exact hQ σ a w hF hn rfl (kJ.refl hR)
 | o::l,k,ms,aos,σ,F,F',S,S',a,w,hl,hc,hn,hF,hR,h,hQ=>by
  simp only[uJ] at hc;split at hc
  ·rename_i ao aos' hao haos;cases hc;have⟨hd,hg,hdst,_,hop⟩:=yT hao;rw[iA] at h;have⟨⟨F1,S1⟩,h1,h2⟩:=aS h;have ho:ops[k]? =some o:=by have:=hl 0;simpa using this.symm
   have hl':∀j,l[j]? =ops[(k+1)+j]? :=fun j=>by have:=hl (j+1);simpa [Db,Fq 1 j] using this
   simp only[Aw,List.range'_succ,wpOpsIn,ho];rw[aCc hg hF];unfold aEd at h1;rw[cN] at h1;have hd':yD a.tmps.size o.dst=true:=by rw[hn];exact hd
   split at h1
   ·rename_i hw;rw[if_pos hw];have⟨hnd,hnext⟩:=aIC hA hB hcall hop hdst hd' hF hR h1;refine⟨fun _ _=>trivial,?_⟩;rw[semAt_eq hnd];refine aAJ hnext ?_;rintro V w' ⟨σ1,hF1,hE1⟩;exact vS hA hB hcall l (k+1) ms.tail aos' σ1 F1 F' S1 S' _ w' hl' haos (by rw[aC5];exact hn) hF1 hE1.rep h2 (fun σ' a' w'' q1 q2 q3 q4=>hQ σ' a' w'' q1 q2 (by rw[q3,put_defers]) (hE1.trans q4))
   ·rename_i hw;rw[if_neg hw];cases h1;refine⟨fun _ _=>trivial,?_⟩;have hund:Rv P σ .undef undef:=by simp only[AV.undef,undef,Rv];exact⟨[],rfl,dH.2 rfl⟩
    exact vS hA hB hcall l (k+1) ms.tail aos' σ _ F' S S' _ w hl' haos (by rw[aC5];exact hn) (by rw[hdst];exact hF.put hd' hund) hR h2 (fun σ' a' w'' q1 q2 q3 q4=>hQ σ' a' w'' q1 q2 (by rw[q3,put_defers]) q4)
  ·cases hc
end Go.Ev
