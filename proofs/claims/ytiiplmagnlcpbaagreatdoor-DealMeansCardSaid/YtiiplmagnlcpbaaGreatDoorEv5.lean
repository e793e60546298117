import Derived.Test.YtiiplmagnlcpbaaGreatDoorEv4
import Derived.Laws.MakeOwn
import Derived.Lib.ConvBytes
import Derived.CallsIn
import Derived.Deep.Upon
import Derived.OrdersIn
import Derived.RangeFuncLeaves
import Derived.LoopNIn
import Derived.Laws.Externs
import Derived.KernelRfl
set_option linter.unusedSimpArgs false
set_option linter.unusedVariables false
namespace Go.Ev
variable {P:Program}{σ:Env}{S:St}{w:World}
def aCE(P:Program)(σ:Env)(w:World)(id:Nat)(v:AV)(bl:AB)(V:Value)(w':World):Prop:=
 ∃ob e,w'.heap=w.heap.push ob/\w'.os=w.os/\w'.tape=w.tape/\w'.output=w.output/\
  rH P (upd σ id ⟨w.heap.size,0,e⟩) w' ⟨w.heap.size,0,e⟩ bl/\wJ bl/\Rv P (upd σ id ⟨w.heap.size,0,e⟩) v V
theorem aDb{w':World}{C:Array Value}{t:TypeId}{fz:Nat×Nat}(hw:w'.heap=w.heap.push (.cells C t fz))(j:Nat):w'.cell? ⟨w.heap.size,j,none⟩=C[j]? :=by
 simp [World.cell?,hw]
theorem aHh{w':World}{C:Array Value}{t:TypeId}{fz:Nat×Nat}(hw:w'.heap=w.heap.push (.cells C t fz))(j:Nat)(h:¬ (fz.1<=j/\j<fz.2)):w'.frozen? ⟨w.heap.size,j,none⟩=false:=by
 simp [World.frozen?,hw];intro h1;omega
theorem tK{w':World}{C:List Value}{X:List Value}{t:TypeId}{fz:Nat×Nat}{cs:bo}{o:Bool}{e s:Nat}(hw:w'.heap=w.heap.push (.cells (C++X).toArray t fz))(hfz:(C++X).length<=fz.1\/fz.1=fz.2)
  (hC:iD P σ cs C) (h1:∀u∈C,u.oneCell'=true) (hx:o=true->X.length=e * s):rH P σ w' ⟨w.heap.size,0,e⟩ (.cells cs o s):=by
 refine⟨C,hC,h1,fun j v hv=>?_,fun j hj=>?_⟩
 ·rw[Ao,aDb hw];have hj:=(Ai.1 hv).1;simp [Ap hj,hv]
 ·have hj':j<(C++X).length:=by
   rw[Aj];cases o
   ·simp at hj;omega
   ·have:=hx rfl;simp at hj;omega
  rw[Ao,aDb hw];refine⟨?_,aHh hw j (by rcases hfz with h | h<;>omega)⟩;simp;simpa using hj'
theorem aIa{o:Oper}{t:TypeId}{cells:bo}{a:Act}(ho:o.op= .alloc t)(hz:kK P t=some cells)(id:Nat)(hid:σ id=none):
  ∃V w',(execOp a.eval o).run P w= .ok (.value V) w'/\aCE P σ w id (.ptr id 0) (.cells cells false 0) V w':=by
 have⟨i,Z,hi,hZ,h1,h2⟩:=nG (σ:=upd σ id ⟨w.heap.size,0,0⟩) hz;refine⟨.pointer (some ⟨w.heap.size,0,none⟩),w.alloc (.cells Z.cells t),?_,⟨.cells Z.cells t,0,rfl,rfl,rfl,rfl,?_,trivial,?_⟩⟩
 ·simp [execOp,ho,Instr.alloc,uM hi hZ,newVar,newRow]
 ·refine tK (X:=[]) (t:=t) (fz:=(0,0)) ?_ (.inr rfl) h1 h2 (by simp);show w.heap.push _=_;simp
 ·simp only[Rv];exact⟨_,upd_same _ _,by simp⟩
theorem aLh{o:Oper}{t:TypeId}{x:Operand}{X:cP}{F:Fr}{a:Act}(ho:o.op= .box t x)(hX:fD P x=some X)(hF:pV P σ F a.tmps)(hR:kT P σ S w){cs:bo}(hcs:(X.val F).cells=some cs)(id:Nat)(hid:σ id=none):
  ∃V w',(execOp a.eval o).run P w= .ok (.value V) w'/\aCE P σ w id (.ptr id 0) (.cells cs false 0) V w':=by
 have hx:=(bM hF hR hX).mono (gF (L:=⟨w.heap.size,0,0⟩) hid);have⟨h1,h2⟩:=aAQ hx hcs;refine⟨.pointer (some ⟨w.heap.size,0,none⟩),w.alloc (.cells (a.eval x).cells t),?_,⟨.cells (a.eval x).cells t,0,rfl,rfl,rfl,rfl,?_,trivial,?_⟩⟩
 ·simp [execOp,ho,Instr.box,newVar,newRow]
 ·refine tK (X:=[]) (t:=t) (fz:=(0,0)) ?_ (.inr rfl) h1 h2 (by simp);show w.heap.push _=_;simp
 ·simp only[Rv];exact⟨_,upd_same _ _,by simp⟩
theorem aIk{o:Oper}{t:TypeId}{a:Act}(ho:o.op= .makeMap t none)(id:Nat):
  ∃V w',(execOp a.eval o).run P w= .ok (.value V) w'/\aCE P σ w id (.map id) (.map []) V w':=by
 refine⟨.map (some w.heap.size),w.alloc (.map #[] 0),?_,⟨.map #[] 0,0,rfl,rfl,rfl,rfl,?_,trivial,?_⟩⟩
 ·simp [execOp,ho,Instr.makeMap]
 ·refine⟨#[],0,?_,rfl⟩;show(w.heap.push _)[w.heap.size]? =_;simp
 ·simp only[Rv];exact⟨_,upd_same _ _,rfl⟩
theorem aCk{F:Fr}{a:Act}{size:Nat}(hF:pV P σ F a.tmps)(hR:kT P σ S w):∀ {ps:List (Nat×Operand)} {qs:List (Nat×cP)},zB P ps=some qs->
  (ps.map fun p=>(p.1,a.eval p.2)).length=(lE size F qs).length/\
  ∀ (j i:Nat) (V:Value) (off n:Nat) (v:AV),(ps.map fun p=>(p.1,a.eval p.2))[j]? =some (i,V)->(lE size F qs)[j]? =some (off,n,v)->(fun i=>some (i * size,size)) i=some (off,n)/\Rv P σ v V
 | [],qs,h=>by
  simp only[zB,Al] at h;subst h;exact⟨rfl,fun j i V off n v h1=>by simp at h1⟩
 | (i,x)::ps,qs,h=>by
  simp only[zB] at h;split at h
  ·rename_i X qs' hx hqs;cases h;have⟨h1,h2⟩:=aCk (size:=size) hF hR hqs;refine⟨by simp [lE] at h1 ⊢;exact h1,fun j i' V off' n' v hj1 hj2=>?_⟩;cases j with
   | zero=>
    simp only[Fa,List.getElem?_cons_zero,lE,Al,Prod.mk.injEq] at hj1 hj2;obtain⟨rfl,rfl⟩:=hj1;obtain⟨rfl,rfl,rfl⟩:=hj2;exact⟨rfl,bM hF hR hx⟩
   | succ j=>
    simp only[Fa,Fy,lE] at hj1 hj2;exact h2 j i' V off' n' v hj1 hj2
  ·cases h
theorem mD(Z:List Value):∀n:Nat,(List.range (n * Z.length)).map (fun i=>Z[i % Z.length]!)=repeatL Z n
 | 0=>by simp [wE]
 | n+1=>by
  rw[Gg,Fv,List.range_add,List.map_append,kH];congr 1
  ·apply List.ext_getElem
   ·simp
   ·intro j h1 h2;simp only[Ce,Eq] at h1;simp [Ec h1,List.getElem!_eq_getElem?_getD,h1]
  ·rw[<-mD Z n,List.map_map];apply Gd;intro j _;simp
theorem vL{z:bo}{Z:List Value}(h:iD P σ z Z):∀n,iD P σ (repeatL z n) (repeatL Z n)
 | 0=>cT.2 rfl
 | n+1=>by rw[kH,kH];exact h.append (vL h n)
theorem qX{Z:List Value}(h:∀u∈Z,u.oneCell'=true):∀n,∀u∈repeatL Z n,u.oneCell'=true
 | 0,u,hu=>by simp [wE] at hu
 | n+1,u,hu=>by
  rw[kH] at hu;rcases Bs.1 hu with hu | hu
  ·exact h u hu
  ·exact qX h n u hu
theorem nS{t e:TypeId}{i:TypeInfo}(h:mG P t=some (e,i)):P.underlying t=some (.slice e)/\P.info? e=some i:=by
 unfold mG at h;split at h
 ·rename_i e' hu;have⟨i',hi,h2⟩:=Ax.1 h;cases h2;exact⟨hu,hi⟩
 ·cases h
theorem oF{e:TypeId}{i:TypeInfo}{z:bo}(hi:P.info? e=some i)(h:kQ P e i=some z):
  ∃Z,i.zero=some Z/\iD P σ z Z.cells.toList/\(∀u∈Z.cells.toList,u.oneCell'=true)/\Z.cells.size=i.size/\z.length=i.size:=by
 unfold kQ at h;split at h
 ·rename_i z' hz;rw[Ba] at h;split at h
  ·rename_i hn;rw[Az] at hn;cases h;have⟨i',Z,hi',hZ,h1,h2⟩:=nG (σ:=σ) hz;rw[hi] at hi';cases hi';exact⟨Z,hZ,h1,h2,by have:=h1.length;simp at this;omega,hn⟩
  ·cases h
 ·cases h
theorem aGC{o:Oper}{t e:TypeId}{i:TypeInfo}{n:Nat}{ps:Array (Nat×Operand)}{qs:List (Nat×cP)}{z:bo}{F:Fr}{a:Act}(ho:o.op= .buildSlice t n ps)(he:mG P t=some (e,i))
  (hn:n * i.size<=65536) (hz:kQ P e i=some z) (hq:zB P ps.toList=some qs) (hF:pV P σ F a.tmps) (hR:kT P σ S w) (id:Nat) (hid:σ id=none)
  {cs:bo} (h:eQ (repeatL z n) (lE i.size F qs)=some cs):
  ∃V w',(execOp a.eval o).run P w= .ok (.value V) w'/\aCE P σ w id (.sl id 0 n n false) (.cells cs false 0) V w':=by
 have⟨hu,hi⟩:=nS he;have⟨Z,hZ,h1,h2,h3,h4⟩:=oF (σ:=σ) hi hz;have⟨hl,hp⟩:=aCk (size:=i.size) hF hR hq;have⟨R,hR1,hR2,hR3⟩:=vB hl hp (vL h1 n) (qX h2 n) h;have hm:=gF (L:=⟨w.heap.size,0,0⟩) hid;have hpl:(ps.map fun(i,x)=>(i,a.eval x)).toList=ps.toList.map fun p=>(p.1,a.eval p.2):=by simp
 have hlim:¬ (n * i.size>2 ^ 24):=by
  have:(2:Nat) ^ 24=16777216:=rfl;omega
 refine⟨.slice (some ⟨w.heap.size,0,none⟩) n n,w.alloc (.cells ⟨R⟩ e),?_,⟨.cells ⟨R⟩ e,0,rfl,rfl,rfl,rfl,?_,trivial,?_⟩⟩
 ·by_cases h0:n * i.size=0
  ·have hrange:Array.range (n * i.size)= #[]:=by rw[h0];rfl
   have hlen:=repeatL_length Z.cells.toList n;simp only[Eo,h3,h0] at hlen;have hrep:=List.eq_nil_of_length_eq_zero hlen;rw[hrep] at hR1;simp only[execOp,ho,Instr.buildSlice,Sem.run_bind,run_underlying hu,Result.andThen_ok,sizeOf,typeInfo,run_program,hi,Sem.run_pure,if_neg hlim,hpl,if_pos h0,hrange,Array.map_empty,hR1,newRow,run_newObj];rfl
  ·have hrow:(Array.range (n * i.size)).map (Z.cells[· % Z.cells.size]!)=(⟨repeatL Z.cells.toList n⟩:Array Value):=by
    have:=mD Z.cells.toList n;simp only[Eo,h3] at this;apply Ga;simp only[Em,Array.toList_range,h3];rw[<-this];apply Gd;intro j _;simp [Array.getElem!_eq_getD,Bg]
   simp only[execOp,ho,Instr.buildSlice,Sem.run_bind,run_underlying hu,Result.andThen_ok,sizeOf,typeInfo,run_program,hi,Sem.run_pure,if_neg hlim,hpl,if_neg h0,uM hi hZ,hrow,hR1,newRow,run_newObj];rfl
 ·refine tK (X:=[]) (t:=e) (fz:=(0,0)) ?_ (.inr rfl) (hR2.mono hm) hR3 (by simp);show w.heap.push _=_;simp
 ·simp only[Rv];exact⟨_,upd_same _ _,by simp⟩
theorem aE4{o:Oper}{t e:TypeId}{i:TypeInfo}{lo co:Operand}{L C:cP}{z:bo}{F:Fr}{a:Act}(ho:o.op= .makeSlice t lo co)(he:mG P t=some (e,i))
  (hz:kQ P e i=some z) (hL:fD P lo=some L) (hC:fD P co=some C) (hF:pV P σ F a.tmps) (hR:kT P σ S w) (id:Nat) (hid:σ id=none) {v:AV} {bl:AB}
  (h:yN e i.size i.bytes z L C F id=some (v,bl)):
  ∃V w',(execOp a.eval o).run P w= .ok (.value V) w'/\aCE P σ w id v bl V w':=by
 have⟨hu,hi⟩:=nS he;have⟨Z,hZ,h1,h2,h3,h4⟩:=oF (σ:=σ) hi hz;have⟨l,hl,h⟩:=aA h;have⟨c,hc,h⟩:=aA h;have⟨hlc,h⟩:=bJ h;have⟨hc1,h⟩:=bJ h;have⟨hc2,h⟩:=bJ h;cases h;have hlc:=Au hlc;have hc1:=Au hc1;have hc2:=Au hc2;unfold room at hc1 hc2;have⟨kl,hkl⟩:=nM hl;have⟨kc,hkc⟩:=nM hc;have hl':=bM hF hR hL;have hc':=bM hF hR hC;rw[hkl] at hl';rw[hkc] at hc';simp only[Rv] at hl' hc';have hm:=gF (L:=⟨w.heap.size,0,0⟩) hid;have hrun:=run_make (P:=P) w t e i Z hu hi hZ kl kc (Int.ofNat l) (Int.ofNat c) (by simp) (by simpa using hlc) (by
  have:((i.bytes * c:Nat):Int)<=281474976710656:=by omega
  simpa using this) (by simp;omega)
 have hcells:madeCells Z.cells (c * i.size)=(⟨repeatL Z.cells.toList c⟩:Array Value):=by
  have:=mD Z.cells.toList c;simp only[Eo,h3] at this;apply Ga;simp only[madeCells,Em,Array.toList_range,h3];rw[<-this];apply Gd;intro j _;simp [Array.getElem!_eq_getD,Bg]
 refine⟨.slice (some ⟨w.heap.size,0,none⟩) l c,w.alloc (.cells ⟨repeatL Z.cells.toList c⟩ e),?_,⟨.cells ⟨repeatL Z.cells.toList c⟩ e,0,rfl,rfl,rfl,rfl,?_,trivial,?_⟩⟩
 ·have ht1:(Int.ofNat l).toNat=l:=rfl;have ht2:(Int.ofNat c).toNat=c:=rfl;rw[ht1,ht2,hcells] at hrun;simp only[execOp,ho,hl',hc',Sem.run_bind,hrun,Result.andThen_ok,Sem.run_pure]
 ·refine tK (X:=[]) (t:=e) (fz:=(0,0)) ?_ (.inr rfl) ((vL h1 c).mono hm) (qX h2 c) (by simp);show w.heap.push _=_;simp
 ·simp only[Rv];exact⟨_,upd_same _ _,by simp⟩
theorem wK(w:World)(e:TypeId)(s:ByteArray):(Lib.bytesWorld w e s).heap=w.heap.push (.cells (Lib.bytesCells w e s) e ((Lib.bytesCells w e s).size,(Lib.bytesCells w e s).size+1)):=by
 apply Array.ext_getElem?;intro j;by_cases h1:j<w.heap.size
 ·rw[Lib.bytesWorld_at_old w e s j h1,Gy,if_neg au]
 ·by_cases h2:j=w.heap.size
  ·subst h2;rw[Lib.bytesWorld_at_new,Array.getElem?_push_size]
  ·rw[Array.getElem?_eq_none (by rw[Lib.bytesWorld_size];omega),Array.getElem?_eq_none (by simp;omega)]
theorem rS(s:bt)(hb:Bytes s):Go.byteCells (dM s)=s.map fun b=>Value.int .u8 (Int.ofNat b):=by
 unfold Go.byteCells;simp only[dM,List.map_map];apply Gd;intro b hbm;show Value.int .u8 (((UInt8.ofNat b).toNat:Nat):Int)=_;rw[vH (hb b hbm)];rfl
theorem tH:∀ (s:bt),iD P σ (byteCells s) (s.map fun b=>Value.int .u8 (Int.ofNat b))
 | []=>cT.2 rfl
 | b::s=>cS.2 ⟨_,_,rfl,by simp only[Rv],tH s⟩
theorem aEp{o:Oper}{src dst e:TypeId}{x:Operand}{xv:AV}{a:Act}(ho:o.op= .convert src dst x)(hs:P.underlying src=some .string)(hd:P.underlying dst=some (.slice e))(he:P.underlying e=some (.int .u8))
  (hx:Rv P σ xv (a.eval x)) (id:Nat) (hid:σ id=none) {v:AV} {bl:AB} (hv:tM xv id=some (v,bl)):∃V w',(execOp a.eval o).run P w= .ok (.value V) w'/\aCE P σ w id v bl V w':=by
 cases xv<;>simp only[tM,reduceCtorEq,Al,Prod.mk.injEq] at hv;obtain⟨rfl,rfl⟩:=hv;rename_i s;simp only[Rv] at hx;have⟨hx,hb⟩:=hx;have hrun:=Lib.run_convert_string_bytes (P:=P) w src dst e (dM s) hs hd he;have hge:=grownCap_ge w (dM s).size 0 e;rw[iC] at hrun hge;refine⟨_,_,by simp only[execOp,ho,hx,Sem.run_bind,hrun,Result.andThen_ok,Sem.run_pure];rfl,?_⟩;refine⟨_,grownCap w s.length 0 e - s.length,wK w e (dM s),?_,?_,?_,?_,trivial,?_⟩
 ·simp [Lib.bytesWorld,World.freeze,World.alloc,World.drew, -World.alloc_eq, -World.drew_eq]
 ·simp [Lib.bytesWorld,World.freeze,World.alloc,World.drew, -World.alloc_eq, -World.drew_eq]
 ·simp [Lib.bytesWorld,World.freeze,World.alloc,World.drew, -World.alloc_eq, -World.drew_eq]
 ·have hcells:Lib.bytesCells w e (dM s)=((s.map fun b=>Value.int .u8 (Int.ofNat b))++List.replicate (grownCap w s.length 0 e - s.length) (Value.int .u8 0)).toArray:=by
   apply Ga;unfold Lib.bytesCells;rw[iC];simp only[Array.toList_append,Em,Array.toList_replicate];congr 1;exact rS s hb
  have hw:=wK w e (dM s);rw[hcells] at hw;refine tK (s:=1) hw (.inl ?_) (tH s) (fun u hu=>?_) (fun _=>?_)
  ·simp
  ·obtain⟨_,_,rfl⟩:=He.1 hu;rfl
  ·simp
 ·simp only[Rv];refine⟨_,upd_same _ _,?_⟩;rw[eR];simp only[Cq,Bm];congr 1;omega
end Go.Ev
namespace Go.Ev
variable {P:Program}{σ:Env}{S:St}{w:World}
theorem aFc{o:Oper}{ao:wS}(hc:qK P o.op=some (.a ao)){F:Fr}{a:Act}(hF:pV P σ F a.tmps)(hR:kT P σ S w)(id:Nat)(hid:σ id=none){v:AV}{bl:AB}(hv:tA ao F id=some (v,bl)):
  ∃V w',(execOp a.eval o).run P w= .ok (.value V) w'/\aCE P σ w id v bl V w':=by
 have⟨dst,op,type,pos,after,guard⟩:=o;simp only at hc;cases op<;>(try (first | (have⟨y,_,h2⟩:=cL hc;cases h2;done) | (have⟨y,_,h2⟩:=fM hc;cases h2;done) | (cases hc;done)))
 case alloc t=>
  have⟨y,h1,h2⟩:=kG hc;cases h2;have⟨z,hz,h1⟩:=aT h1;cases h1;cases hv;exact aIa rfl hz id hid
 case box t x=>
  have⟨y,h1,h2⟩:=kG hc;cases h2;have⟨X,hX,h1⟩:=aT h1;cases h1;have⟨cs,h3,h4⟩:=aA (show(aU (X.val F).cells fun cs=>some (AV.ptr id 0,AB.cells cs false 0))=some (v,bl) from hv);cases h4;exact aLh rfl hX hF hR h3 id hid
 case build t ps=>
  simp only[qK] at hc;split at hc
  ·rw[Ba] at hc;split at hc
   ·have⟨y,_,h2⟩:=cL hc;cases h2
   ·cases hc
  ·have⟨y,_,h2⟩:=cL hc;cases h2
  ·cases hc
 case buildSlice t n ps=>
  have⟨y,h1,h2⟩:=kG hc;cases h2;have⟨⟨e,i⟩,he,h1⟩:=aT h1;simp only at h1;split at h1
  ·cases h1
  ·rename_i hn;have⟨z,hz,h1⟩:=aT h1;have⟨qs,hq,h1⟩:=aT h1;cases h1;have⟨cs,h3,h4⟩:=aA (show(aU (eQ (repeatL z n) (lE i.size F qs)) fun cs=>some (AV.sl id 0 n n false,AB.cells cs false 0))=some (v,bl) from hv);cases h4;exact aGC rfl he au hz hq hF hR id hid h3
 case makeSlice t l c=>
  have⟨y,h1,h2⟩:=kG hc;cases h2;have⟨⟨e,i⟩,he,h1⟩:=aT h1;have⟨z,hz,h1⟩:=aT h1;have⟨L,hL,h1⟩:=aT h1;have⟨C,hC,h1⟩:=aT h1;cases h1;exact aE4 rfl he hz hL hC hF hR id hid hv
 case makeMap t r=>
  cases r<;>simp only[qK,reduceCtorEq] at hc;have⟨y,h1,h2⟩:=kG hc;cases h2;cases h1;cases hv;exact aIk rfl id
 case insert t m k x=>
  simp only[qK] at hc;split at hc
  ·have⟨y,_,h2⟩:=fM hc;cases h2
  ·cases hc
 case mapUpdate t m k x=>
  simp only[qK] at hc;split at hc
  ·have⟨y,_,h2⟩:=fM hc;cases h2
  ·cases hc
 case convert src dst x=>
  simp only[qK] at hc;split at hc
  ·have⟨y,_,h2⟩:=cL hc;cases h2
  ·have⟨y,_,h2⟩:=cL hc;cases h2
  ·have⟨y,_,h2⟩:=cL hc;cases h2
  ·split at hc
   ·have⟨y,_,h2⟩:=cL hc;cases h2
   ·cases hc
  ·rename_i e hs hd;split at hc
   ·rename_i he;have⟨y,h1,h2⟩:=kG hc;cases h2;have⟨X,hX,h1⟩:=aT h1;cases h1;exact aEp rfl hs hd he (bM hF hR hX) id hid hv
   ·cases hc
  ·cases hc
 case makeInterface t x=>
  simp only[qK] at hc;split at hc
  ·cases hc
  ·have⟨y,_,h2⟩:=cL hc;cases h2
  ·cases hc
 case makeFunc fn x y=>
  cases fn<;>(try (first | (have⟨y,_,h2⟩:=cL hc;cases h2;done) | (cases hc;done)));simp only[qK] at hc;split at hc
  ·have⟨y,_,h2⟩:=cL hc;cases h2
  ·cases hc
 case slice t x lo hh mx=>
  simp only[qK,Ba] at hc;split at hc
  ·cases hc
  ·split at hc
   ·have⟨y,_,h2⟩:=cL hc;cases h2
   ·have⟨y,_,h2⟩:=cL hc;cases h2
   ·have⟨y,_,h2⟩:=cL hc;cases h2
   ·cases hc
 case fieldAddr t x f=>
  simp only[qK] at hc;split at hc
  ·have⟨y,_,h2⟩:=cL hc;cases h2
  ·cases hc
 case field t x f=>
  simp only[qK] at hc;split at hc
  ·have⟨y,_,h2⟩:=cL hc;cases h2
  ·cases hc
 case indexAddr t x f=>
  simp only[qK] at hc;split at hc
  ·have⟨y,_,h2⟩:=cL hc;cases h2
  ·have⟨y,_,h2⟩:=cL hc;cases h2
  ·cases hc
 case index t x f=>
  simp only[qK] at hc;split at hc
  ·have⟨y,_,h2⟩:=cL hc;cases h2
  ·have⟨y,_,h2⟩:=cL hc;cases h2
  ·cases hc
 case lookup t x f ok=>
  simp only[qK] at hc;split at hc
  ·have⟨y,_,h2⟩:=cL hc;cases h2
  ·cases hc
 case typeAssert x xt t ok=>
  simp only[qK] at hc;split at hc
  ·cases hc
  ·have⟨y,_,h2⟩:=cL hc;cases h2
  ·cases hc
 case call c=>
  have⟨callee,args,argTypes⟩:=c;cases callee with
  | value f=>
   simp only[qK] at hc;split at hc
   ·have⟨y,_,h2⟩:=fM hc;cases h2
   ·have⟨y,_,h2⟩:=fM hc;cases h2
  | invoke r m=>have⟨y,_,h2⟩:=fM hc;cases h2
  | builtin b=>
   simp only[qK] at hc;split at hc
   ·split at hc
    all_goals (first | (have⟨y,_,h2⟩:=cL hc;cases h2;done) | (cases hc;done))
   ·split at hc
    all_goals (first | (have⟨y,_,h2⟩:=cL hc;cases h2;done) | (cases hc;done))
   ·have⟨y,_,h2⟩:=cL hc;cases h2
   ·have⟨y,_,h2⟩:=cL hc;cases h2
   ·split at hc
    ·rw[Ba] at hc;split at hc
     ·have⟨y,_,h2⟩:=fM hc;cases h2
     ·cases hc
    ·cases hc
   ·split at hc
    ·have⟨y,_,h2⟩:=fM hc;cases h2
    ·cases hc
   ·have⟨_,_,_,_,_,_,_,_,_,_,_,_,_,_,h2⟩:=aAA hc;cases h2
theorem heap_setCells_other(g:Nat):∀ (vs:List Value) (o:Nat) (w:World) (r:Nat),r≠g->(w.setCells g o vs).heap[r]? =w.heap[r]?
 | [],o,w,r,h=>rfl
 | v::vs,o,w,r,h=>by
  rw[World.setCells,heap_setCells_other g vs (o+1) _ r h];exact heap_setCell_other w ⟨g,o,none⟩ r v h
theorem size_setCells(g:Nat):∀ (vs:List Value) (o:Nat) (w:World),(w.setCells g o vs).heap.size=w.heap.size
 | [],o,w=>rfl
 | v::vs,o,w=>by rw[World.setCells,size_setCells g vs (o+1)];simp
theorem os_setCells(g:Nat):∀ (vs:List Value) (o:Nat) (w:World),(w.setCells g o vs).os=w.os/\(w.setCells g o vs).tape=w.tape/\(w.setCells g o vs).output=w.output
 | [],o,w=>⟨rfl,rfl,rfl⟩
 | v::vs,o,w=>by rw[World.setCells];exact os_setCells g vs (o+1) _
theorem sC(hR:kT P σ S w){b off:Nat}{cs:bo}{Cs:List Value}(hC:iD P σ cs Cs)(h1:∀u∈Cs,u.oneCell'=true){S':St}(h:mU S b off cs=some S'):
  ∃L,σ b=some L/\w.there L.r (L.d+off) Cs.length/\gM P σ S w σ S' (w.setCells L.r (L.d+off) Cs):=by
 have⟨bl,hb,h⟩:=aA h;cases bl<;>simp only[rJ,reduceCtorEq] at h;rename_i old o s;have⟨cs',hput,h⟩:=aA h;cases h;have⟨L,hL,hlt,Os,h2,h3,h4,h5⟩:=hR.blk b _ hb;have hle:=(aA6 hput).1;have hlen:=h2.length;have hcl:=hC.length;have hth:w.there L.r (L.d+off) Cs.length:=fun j hj=>by
  have:=h5 (off+j) au
  rwa [<-Cx] at this
 refine⟨L,hL,hth,?_⟩;have⟨e1,e2,e3⟩:=os_setCells L.r Cs (L.d+off) w;have hput':=h2.put hC hput;refine gM.write hR hb trivial trivial hL (fun r hr=>heap_setCells_other L.r Cs _ w r hr) (size_setCells L.r Cs _ w) e1 e2 e3 ?_;refine⟨Os.take off++Cs++Os.drop (off+Cs.length),hput',fun u hu=>?_,fun j v hv=>?_,fun j hj=>?_⟩
 ·simp only[Bs] at hu;rcases hu with(hu | hu) | hu
  ·exact h3 u (Ek hu)
  ·exact h1 u hu
  ·exact h3 u (Ej hu)
 ·have hget:(Os.take off++Cs++Os.drop (off+Cs.length))[j]? =if j<off then Os[j]? else if j<off+Cs.length then Cs[j - off]? else Os[j]? :=
   aPW (l:=Os) (vs:=Cs) (k:=off) (by rw[put_eq,if_pos au]) j
  rw[hget] at hv;split at hv
  ·rename_i hlt1;rw[World.cell?_setCells_out L.r Cs (L.d+off) w _ (fun _ _=>.inl (by simp only;omega))];exact h4 j v hv
  ·split at hv
   ·rename_i h6 h7;have:=World.cell?_setCells_in L.r Cs (L.d+off) w (fun k hk=>(hth k hk).1) (j - off) au;rw[show L.d+off+(j - off)=L.d+j by omega] at this;rw[this];rw[Ad au] at hv;exact hv
   ·rename_i h6 h7;rw[World.cell?_setCells_out L.r Cs (L.d+off) w _ (fun _ _=>.inr (by simp only;omega))];exact h4 j v hv
 ·have hj':j<Os.length+if o=true then L.e * s else 0:=by
   have:(Os.take off++Cs++Os.drop (off+Cs.length)).length=Os.length:=by simp;omega
   rw[this] at hj;exact hj
  have:=h5 j hj';exact⟨World.isSome_setCells L.r Cs (L.d+off) w _ this.1,by rw[World.frozen?_setCells];exact this.2⟩
end Go.Ev
namespace Go.Ev
variable {P:Program}{σ:Env}{S:St}{w:World}
theorem aMn{u:TypeId}{i:TypeInfo}(hu:aQg P u i=true)(hR:kT P σ S w){x:AV}{X:Value}(hx:Rv P σ x X){n:Nat}{new:bo}(hn:xC x=some n)(hs:eU x S.h i.size n=some new):
  ∃News,Src P i.size u X n News w/\iD P σ new News:=by
 have hkind:(∃e',P.underlying u=some (.slice e'))\/P.underlying u=some .string:=by
  unfold aQg at hu;split at hu
  ·exact .inl ⟨_, ‹_›⟩
  ·exact .inr ‹_›
  ·cases hu
 cases x<;>simp only[xC,reduceCtorEq,Al] at hn<;>simp only[eU] at hs<;>simp only[Rv] at hx
 ·obtain⟨rfl,hb⟩:=hx;rename_i s;rw[eR] at hn;subst hn;have⟨h0,hs⟩:=bJ hs;rw[Az] at h0;have⟨r,h1,h2⟩:=aA hs;cases h2;rw[jC,if_pos (Af _),Fk] at h1;cases h1;refine⟨s.map fun b=>Value.int .u8 (Int.ofNat b),⟨hkind,fun _=>by simp [Builtin.lenOf,iC],?_,?_,by simp [h0],fun u hu=>by obtain⟨_,_,rfl⟩:=He.1 hu;rfl⟩,tH s⟩
  ·rw[h0,<-rS s hb];have:=firstCells_string (P:=P) (dM s) w;rw[iC] at this;exact this
  ·rw[h0,<-rS s hb];have:=firstCells_string (P:=P) (dM s) w.drew;rw[iC] at this;exact this
 ·obtain⟨L,hL,rfl⟩:=hx;subst hn;have⟨L',Cs,hL',h3,h4,h5,h6⟩:=vR hR hs;rw[hL] at hL';cases hL';have hcell:∀j u,Cs[j]? =some u->w.cell? ((⟨L.r,L.d+_,none⟩:Addr).add j)=some u:=fun j u hu=>by rw[Addr.add_mid];exact h6 j u hu
  exact⟨Cs,⟨hkind,fun _=>rfl,run_firstCells_some w _ _ _ _ _ Cs h4 hcell,run_firstCells_some w.drew _ _ _ _ _ Cs h4 (by simpa using hcell),h4,h5⟩,h3⟩
 ·subst hx;subst hn;have⟨_,hs⟩:=bJ hs;cases hs;exact⟨[],⟨hkind,fun _=>rfl,run_firstCells_none w _ _ _ _,run_firstCells_none w.drew _ _ _ _,by simp,fun _ h=>by cases h⟩,cT.2 rfl⟩
 ·obtain⟨A,c,rfl⟩:=hx;subst hn;have⟨_,hs⟩:=bJ hs;cases hs;exact⟨[],⟨hkind,fun _=>rfl,run_firstCells_some w _ _ _ _ _ [] (by simp) (fun j u h=>by simp at h),run_firstCells_some w.drew _ _ _ _ _ [] (by simp) (fun j u h=>by simp at h),by simp,fun _ h=>by cases h⟩,cT.2 rfl⟩
theorem sQ{t u ty e:TypeId}{i:TypeInfo}{Z:Value}(ht:P.underlying t=some (.slice e))(hi:P.info? e=some i)(hZ:i.zero=some Z)(hzs:Z.cells.size=i.size)(hR:kT P σ S w)
  {base:Option Addr} {sLen sCap n:Nat} {old new:bo} {Olds News:List Value} (hO:iD P σ old Olds) (hO1:∀u∈Olds,u.oneCell'=true) (hOl:Olds.length=sLen * i.size)
  (hold:(Builtin.firstCells i.size sLen (.slice base sLen sCap)).run P w.drew= .ok Olds.toArray w.drew) {X:Value} (hs:Src P i.size u X n News w) (hN:iD P σ new News)
  (hg:sCap<sLen+n) (h1:sLen+n<=room) (h2:(sLen+n) * i.bytes<=room):
  ∃V w' σ',(Builtin.append_ #[t,u] ty #[.slice base sLen sCap,X]).run P w= .ok V w'/\Rv P σ' (.sl S.nx 0 (sLen+n) (sLen+n) true) V/\
   gM P σ S w σ' ⟨S.h.set S.nx (some (.cells (yE old new) true i.size)),Nat.succ S.nx⟩ w':=by
 unfold room at h1 h2;have hrun:=run_append_grow_src w t u ty e i Z ht hi hZ base sLen sCap Olds hold X n News hs hg au (growslice_fits hg au);have hge:=grownCap_ge w (sLen+n) sCap e;generalize hcap:grownCap w (sLen+n) sCap e=cap at hrun hge;have hid:=hR.fresh S.nx (Af _);refine⟨_,_,upd σ S.nx ⟨w.heap.size,0,cap - (sLen+n)⟩,hrun,?_,?_⟩
 ·simp only[Rv];refine⟨_,upd_same _ _,?_⟩;simp only[Cq,Bm];congr 1;omega
 ·refine gM.alloc hR (ob:=.cells ((Olds++News).toArray++Builtin.zeroCells Z.cells (cap - (sLen+n))) e) rfl rfl rfl rfl ?_ trivial;refine tK (C:=Olds++News) (X:=(Builtin.zeroCells Z.cells (cap - (sLen+n))).toList) (t:=e) (fz:=(0,0)) ?_ (.inr rfl) ?_ ?_ (fun _=>?_)
  ·show w.heap.push _=_;congr 2;apply Ga;simp
  ·rw[fE];exact(hO.append hN).mono (gF hid)
  ·intro u hu;rcases Bs.1 hu with hu | hu
   ·exact hO1 u hu
   ·exact hs.one u hu
  ·simp [Builtin.zeroCells,hzs]
theorem aGx{t u ty e:TypeId}{i:TypeInfo}{z:bo}(he:mG P t=some (e,i))(hu:aQg P u i=true)(hz:kQ P e i=some z)(hR:kT P σ S w)
  {s x:AV} {Sv X:Value} (hs:Rv P σ s Sv) (hx:Rv P σ x X) {v:AV} {S':St} (h:iW i.bytes i.size s x S=some (v,S')):
  ∃V w' σ',(Builtin.append_ #[t,u] ty #[Sv,X]).run P w= .ok V w'/\Rv P σ' v V/\gM P σ S w σ' S' w':=by
 have⟨ht,hi⟩:=nS he;have⟨Z,hZ,_,_,hzs,_⟩:=oF (σ:=σ) hi hz;have⟨n,hn,hh⟩:=aA h;clear h;have⟨new,hnew,h⟩:=aA hh;clear hh;have⟨News,hsrc,hN⟩:=aMn hu hR hx hn hnew;have hnl:=hsrc.newsLen;have hnothing:n=0->Src P i.size u X 0 [] w:=fun h0=>by
  subst h0;have:News= []:=List.eq_nil_of_length_eq_zero (by simpa using hnl);subst this;exact hsrc
 cases s<;>simp only[xG,reduceCtorEq] at h
 case ce=>
  simp only[Rv] at hs;subst hs;unfold pF at h;rw[bQ] at h;split at h
  ·rename_i h0;rw[Az] at h0;cases h;exact⟨_,w,σ,run_append_nothing w t u ty e i ht hi none 0 0 (Af _) X (hnothing h0),by simp only[Rv],gM.refl hR⟩
  ·rename_i h0;rw[Az] at h0;have⟨h1,h⟩:=bJ h;have⟨h2,h⟩:=bJ h;cases h;have h1:=Au h1;have h2:=Au h2;have:=sQ (ty:=ty) ht hi hZ hzs hR (base:=none) (sLen:=0) (sCap:=0) (old:=[]) (Olds:=[]) (cT.2 rfl) (by simp) (by simp) (run_firstCells_none w.drew _ _ _ _) hsrc hN au (by simpa using h1) (by simpa using h2);simpa [fE] using this
 case emp=>
  simp only[Rv] at hs;obtain⟨A,c,rfl⟩:=hs;have⟨h0,h⟩:=bJ h;rw[Az] at h0;cases h;exact⟨_,w,σ,run_append_nothing w t u ty e i ht hi (some A) 0 c (Dt _) X (hnothing h0),by simp only[Rv];exact⟨A,c,rfl⟩,gM.refl hR⟩
 case sl b off len cap o=>
  have hs':=hs;simp only[Rv] at hs;obtain⟨L,hL,rfl⟩:=hs;unfold pT at h;rw[bQ] at h;split at h
  ·rename_i hfit;have hfit:=Au hfit;have hcap:len+n<=if o=true then cap+L.e else cap:=by split<;>omega
   rw[bQ] at h;split at h
   ·rename_i h0;rw[Az] at h0;cases h;exact⟨_,w,σ,run_append_nothing w t u ty e i ht hi _ len _ au X (hnothing h0),hs',gM.refl hR⟩
   ·have⟨S1,hst,h⟩:=aA h;cases h;have⟨L',hL',hth,hext⟩:=sC hR hN hsrc.one hst;rw[hL] at hL';cases hL';have hrun:=run_append_room_src w t u ty e i ht hi L.r (L.d+off) len (if o=true then cap+L.e else cap) X n News hsrc hcap
     (fun j hj=>by have:=(hth j hj).1;rwa [show L.d+off+len * i.size=L.d+(off+len * i.size) by omega])
     (fun j hj=>by have:=(hth j hj).2;rwa [show L.d+off+len * i.size=L.d+(off+len * i.size) by omega])
    refine⟨_,_,σ,hrun,by simp only[Rv];exact⟨L,hL,rfl⟩,?_⟩;rw[show L.d+off+len * i.size=L.d+(off+len * i.size) by omega];exact hext
  ·rename_i hfit;rw[Gx] at hfit;have⟨h1,h⟩:=bJ h;have⟨h2,h⟩:=bJ h;have⟨bl,hb,h⟩:=aA h;have h1:=Au h1;have h2:=Au h2;have⟨L',hL',hLr,hblk⟩:=hR.blk b bl hb;rw[hL] at hL';cases hL';have hold:∀ (cs:bo) (Cs:List Value),iD P σ cs Cs->(∀u∈Cs,u.oneCell'=true)->w.rangeAt L.r L.d Cs->∀old,cut cs off (len * i.size)=some old->
     ∃Olds,iD P σ old Olds/\(∀u∈Olds,u.oneCell'=true)/\Olds.length=len * i.size/\w.rangeAt L.r (L.d+off) Olds/\Olds=(Cs.drop off).take (len * i.size)/\
      ∀c,(Builtin.firstCells i.size len (.slice (some ⟨L.r,L.d+off,none⟩) len c)).run P w.drew= .ok Olds.toArray w.drew:=by
    intro cs Cs hC hC1 hC2 old hcut;have hc:=hC.cut hcut;have hr:=aFb (i:=off) (n:=len * i.size) hC2;exact⟨_,hc.1,fun u hu=>hC1 u (Ej (Ek hu)),hc.2,hr,rfl,fun c=>run_firstCells_some w.drew _ _ _ _ _ _ hc.2 (fun j u hu=>by
     rw[Addr.add_mid];simpa using hr j u hu)⟩
   cases bl<;>simp only[aAR,reduceCtorEq] at h
   ·rename_i cs o' sz;have⟨Cs,hC,hC1,hC2,hC3⟩:=hblk;have⟨old,hcut,h⟩:=aA h;have⟨Olds,hO,hO1,hOl,hO2,hOe,hOf⟩:=hold cs Cs hC hC1 hC2 old hcut;cases o with
    | false=>
     rw[aR] at h;cases h;simp only[Aw,Bx];exact sQ ht hi hZ hzs hR hO hO1 hOl (hOf cap) hsrc hN au h1 h2
    | true=>
     rw[aN] at h;have⟨ho',g1⟩:=bJ h;have⟨hsz,g2⟩:=bJ g1;have⟨hend,g3⟩:=bJ g2;clear h g1 g2;subst ho';rw[Az] at hsz hend;rw[eR] at hend;subst hsz;cases g3;simp only[Cq];have hCl:=hC.length;by_cases hin:len+n<=cap+L.e
     ·-- in place
      have hthere:∀j,j<News.length->(w.cell? ⟨L.r,L.d+off+len * i.size+j,none⟩).isSome=true/\w.frozen? ⟨L.r,L.d+off+len * i.size+j,none⟩=false:=by
       intro j hj;have hb1:off+len * i.size+j<Cs.length+L.e * i.size:=by
        have e1:(len+n) * i.size<=(cap+L.e) * i.size:=Ar _ hin;rw[Ch,Ch] at e1;omega
       have:=hC3 (off+len * i.size+j) (by simpa using hb1)
       rwa [show L.d+(off+len * i.size+j)=L.d+off+len * i.size+j by omega] at this
      have hrun:=run_append_room_src w t u ty e i ht hi L.r (L.d+off) len (cap+L.e) X n News hsrc hin (fun j hj=>(hthere j hj).1) (fun j hj=>(hthere j hj).2);have hid:=hR.fresh S.nx (Af _);refine⟨_,_,upd σ S.nx ⟨L.r,L.d+off,cap+L.e - (len+n)⟩,hrun,?_,?_⟩
      ·simp only[Rv];refine⟨_,upd_same _ _,?_⟩;simp only[Cq,Bm];congr 1;omega
      ·have⟨e1,e2,e3⟩:=os_setCells L.r News (L.d+off+len * i.size) w;refine gM.rename hR hb trivial trivial hL rfl (fun r hr=>heap_setCells_other L.r News _ w r hr) (size_setCells L.r News _ w) e1 e2 e3 ?_;refine⟨Olds++News,?_,?_,fun j v hv=>?_,fun j hj=>?_⟩
       ·rw[fE];exact(hO.append hN).mono (gF hid)
       ·intro u hu;rcases Bs.1 hu with hu | hu
        ·exact hO1 u hu
        ·exact hsrc.one u hu
       ·by_cases hj:j<Olds.length
        ·rw[Ap hj] at hv;rw[World.cell?_setCells_out L.r News _ w _ (fun _ _=>.inl (by simp only;omega))];exact hO2 j v hv
        ·rw[Aq au] at hv;have hj2:=(Ai.1 hv).1;have:=World.cell?_setCells_in L.r News (L.d+off+len * i.size) w (fun k hk=>(hthere k hk).1) (j - Olds.length) hj2;rw[show L.d+off+len * i.size+(j - Olds.length)=L.d+off+j by omega] at this;simp only;rw[this];rw[Ad hj2] at hv;exact hv
       ·have e4:(len+n) * i.size+(cap+L.e - (len+n)) * i.size=(cap+L.e) * i.size:=by rw[<-Ch];congr 1;omega
        have e5:(len+n) * i.size=len * i.size+n * i.size:=Ch _ _ _;have e6:(cap+L.e) * i.size=cap * i.size+L.e * i.size:=Ch _ _ _;simp only[Aj,Cq] at hj;have:=hC3 (off+j) (by simp only[Cq];omega);rw[<-Cx] at this;exact⟨World.isSome_setCells L.r News _ w _ this.1,by rw[World.frozen?_setCells];exact this.2⟩
     ·-- a new row;the old name is given up
      have hdrop:=gM.drop hR b;have⟨V,w',σ',h5,h6,h7⟩:=sQ (S:=⟨S.h.set b none,S.nx⟩) (ty:=ty) ht hi hZ hzs hdrop.rep hO hO1 hOl (hOf (cap+L.e)) hsrc hN au h1 h2;exact⟨V,w',σ',h5,h6,hdrop.trans h7⟩
   ·rename_i cs;have⟨Cs,hC,hC1,hC2⟩:=hblk;cases o with
    | true=>simp [aN] at h
    | false=>
     rw[aR] at h;have⟨old,hcut,h⟩:=aA h;have⟨Olds,hO,hO1,hOl,hO2,hOe,hOf⟩:=hold cs Cs hC hC1 hC2 old hcut;cases h;simp only[Aw,Bx];exact sQ ht hi hZ hzs hR hO hO1 hOl (hOf cap) hsrc hN au h1 h2
theorem aJM{t u ty e:TypeId}{i:TypeInfo}(he:mG P t=some (e,i))(hR:kT P σ S w){d x:AV}{Dv X:Value}(hd:Rv P σ d Dv)(hx:Rv P σ x X){v:AV}{S':St}(h:aU (aAz x) (fun m=>copyV d i.size m x S)=some (v,S')):
  ∃V w',(Builtin.copy_ #[t,u] ty #[Dv,X]).run P w= .ok V w'/\Rv P σ v V/\gM P σ S w σ S' w':=by
 have⟨ht,hi⟩:=nS he;have⟨m,hm,hh⟩:=aA h;clear h;have h:=hh;clear hh;have hX:∃base c,X= .slice base m c:=by
  cases x<;>simp only[aAz,reduceCtorEq,Al] at hm<;>simp only[Rv] at hx
  ·obtain⟨L,hL,rfl⟩:=hx;subst hm;exact⟨_,_,rfl⟩
  ·subst hx hm;exact⟨_,_,rfl⟩
  ·obtain⟨A,c,rfl⟩:=hx;subst hm;exact⟨_,_,rfl⟩
 have h0:∀a:Addr,(loadCells a 0).run P w= .ok #[] w:=fun a=>by simpa using run_loadCells_list (P:=P) w a [] (by simp)
 have nothing:∀ {base dl dc},Dv= .slice base dl dc->Nat.min m dl=0->(Builtin.copy_ #[t,u] ty #[Dv,X]).run P w= .ok (goInt 0) w:=by
  rintro base dl dc rfl h1;obtain⟨bs,c,rfl⟩:=hX;cases base<;>cases bs<;>simp [Builtin.copy_,run_underlying ht,Builtin.lenOf,Builtin.firstCells,sizeOf,typeInfo,hi,h1,storeCells,h0]
 cases d<;>simp only[copyV,reduceCtorEq] at h<;>simp only[Rv] at hd
 ·obtain⟨L,hL,rfl⟩:=hd;rename_i b off len cap o;obtain⟨n,hn⟩:∃n,n=Nat.min m len:=⟨_,rfl⟩;have e1:bO (Nat.ble m len) m len=n:=by
   rw[hn,bQ];split
   ·rename_i h1;rw[Gx] at h1;exact(Dm h1).symm
   ·rename_i h1;rw[Gx] at h1;exact(Nat.min_eq_right au).symm
  rw[e1,bQ] at h;split at h
  ·rename_i h1;rw[Az] at h1;cases h;exact⟨_,w,nothing rfl (by rw[<-hn];exact h1),by simp only[Rv];rfl,gM.refl hR⟩
  ·rename_i h1;rw[Az] at h1;have⟨cs,hcs,h⟩:=aA h;have⟨S1,hst,h⟩:=aA h;cases h;have hsrc:∃News,iD P σ cs News/\(∀u∈News,u.oneCell'=true)/\(Builtin.firstCells i.size n X).run P w= .ok News.toArray w:=by
    cases x<;>simp only[aAz,reduceCtorEq,Al] at hm<;>simp only[Rv] at hx<;>simp only[eU] at hcs
    ·obtain⟨Lx,hLx,rfl⟩:=hx;have⟨L',Cs,hL',h3,h4,h5,h6⟩:=vR hR hcs;rw[hLx] at hL';cases hL';exact⟨Cs,h3,h5,run_firstCells_some w _ _ _ _ _ Cs h4 fun j u hu=>by rw[Addr.add_mid];exact h6 j u hu⟩
    ·have⟨h2,_⟩:=bJ hcs;rw[Az] at h2;exact absurd h2 h1
    ·have⟨h2,_⟩:=bJ hcs;rw[Az] at h2;exact absurd h2 h1
   have⟨News,hN,hN1,hload⟩:=hsrc;have⟨L',hL',hth,hext⟩:=sC hR hN hN1 hst;rw[hL] at hL';cases hL';have hrun:=run_storeCells_cells (P:=P) L.r (L.d+off) News 0 w (fun j hj=>by simpa using (hth j hj).1) (fun j hj=>by simpa using (hth j hj).2) hN1;simp only[Bm] at hrun;obtain⟨bs,c,rfl⟩:=hX;refine⟨goInt n,_,?_,by simp only[Rv];rfl,hext⟩;have hlen:(Builtin.lenOf (.slice bs m c)).run P w= .ok m w:=by simp [Builtin.lenOf]
   rw[hn] at hload ⊢;simp [Builtin.copy_,run_underlying ht,hlen,sizeOf,typeInfo,hi,hload,hrun]
 ·subst hd;cases h;exact⟨_,w,nothing rfl (Nat.min_eq_right (Dt _)),by simp only[Rv];rfl,gM.refl hR⟩
 ·obtain⟨A,c,rfl⟩:=hd;cases h;exact⟨_,w,nothing rfl (Nat.min_eq_right (Dt _)),by simp only[Rv];rfl,gM.refl hR⟩
end Go.Ev
namespace Go.Ev
variable {P:Program}{σ:Env}{S:St}{w:World}
theorem rW.append:∀ {m:List (AV×AV)} {es:List MapEntry} {k v:AV} {e:MapEntry},rW P σ m es->Rv P σ k e.key->Rv P σ v e.val->rW P σ (m++ [(k,v)]) (es++ [e])
 | [],es,k,v,e,h,h1,h2=>by have h:es= []:=h;subst h;exact⟨e,[],rfl,h1,h2,rfl⟩
 | (k',v')::m,es,k,v,e,h,h1,h2=>by
  obtain⟨x,es',rfl,h3,h4,h5⟩:=h;exact⟨x,es'++ [e],rfl,h3,h4,rW.append h5 h1 h2⟩
theorem rW.modify:∀ {m:List (AV×AV)} {es:List MapEntry} {k v:AV} {K V:Value} (i:Nat),rW P σ m es->Rv P σ k K->Rv P σ v V->
  rW P σ (yD (fun _=>(k,v)) m i) (es.modify i fun e=>{e with key:=K,val:=V})
 | [],es,k,v,K,V,i,h,_,_=>by have h:es= []:=h;subst h;simp [yD];rfl
 | (k',v')::m,es,k,v,K,V,i,h,h1,h2=>by
  obtain⟨x,es',rfl,h3,h4,h5⟩:=h;simp only[yD,bQ];cases i with
  | zero=>exact⟨{x with key:=K,val:=V},es',by simp,h1,h2,h5⟩
  | succ i=>
   rw[if_neg (by simp)];exact⟨x,es'.modify i (fun e=>{e with key:=K,val:=V}),by simp,h3,h4,by simpa using rW.modify i h5 h1 h2⟩
def jX(P:Program):Prop:=∀ (σ:Env) (kt:TypeId) (e:qM) (k k':AV) (K K':Value),aBZ P kt=some e->Rv P σ k K->Rv P σ k' K'->eqv e k k'=some true->Instr.sameBits 10000 K' K=true
theorem aIc:∀ {e:qM} {k:AV} {m:List (AV×AV)} {i j:Nat} {v:AV},tV e k m i=some (some (j,v))->i<=j/\∃k',m[j - i]? =some (k',v)/\eqv e k k'=some true
 | e,k,[],i,j,v,h=>by simp [tV] at h
 | e,k,(k',v')::m,i,j,v,h=>by
  simp only[tV] at h;have⟨b,h1,h⟩:=aA h;cases b
  ·rw[aR] at h;have⟨h2,k2,h3,h4⟩:=aIc h;refine⟨au,k2,?_,h4⟩;rw[show j - i=(j - Nat.succ i)+1 by omega];simpa using h3
  ·rw[aN] at h;cases h;exact⟨Af _,k',by simp,h1⟩
theorem rW.get:∀ {m:List (AV×AV)} {es:List MapEntry} {i:Nat} {k v:AV},rW P σ m es->m[i]? =some (k,v)->∃e,es[i]? =some e/\Rv P σ k e.key/\Rv P σ v e.val
 | [],es,i,k,v,h,h1=>by simp at h1
 | (k',v')::m,es,i,k,v,h,h1=>by
  obtain⟨x,es',rfl,h3,h4,h5⟩:=h;cases i with
  | zero=>simp at h1;obtain⟨rfl,rfl⟩:=h1;exact⟨x,by simp,h3,h4⟩
  | succ i=>simp at h1;have⟨e,h6,h7⟩:=rW.get h5 h1;exact⟨e,by simpa using h6,h7⟩
theorem nI{r:Nat}{ob old:Obj}(h:w.heap[r]? =some old)(hc:∀c e f,old≠ .cells c e f):(setObj r ob).run P w= .ok () {w with heap:=w.heap.setIfInBounds r ob}:=by
 simp only[setObj,Sem.run,h]
theorem vA{r:Nat}{ob:Obj}(h:w.heap[r]? =some ob)(hc:∀c e f,ob≠ .cells c e f):(getObj r).run P w= .ok ob w:=by
 simp only[getObj,Sem.run,h]
theorem aBx(hA:tZ P)(hB:jX P){t kt et:TypeId}{e:qM}(ht:P.underlying t=some (.map kt et))(hkt:aBZ P kt=some e)(hR:kT P σ S w){m k x:AV}{M K X:Value}(hm:Rv P σ m M)(hk:Rv P σ k K)(hx:Rv P σ x X)
  {v:AV} {S':St} (h:vQ m e k x S=some (v,S')):v= .undef/\∃w',(Instr.mapUpdate t M K X).run P w= .ok () w'/\gM P σ S w σ S' w':=by
 cases m<;>simp only[vQ,reduceCtorEq] at h;rename_i b;have⟨es,h1,h⟩:=aA h;have⟨bl,hb,h1⟩:=aA h1;have⟨r,h2,h⟩:=aA h;cases h;refine⟨rfl,?_⟩;have⟨hself,hf⟩:=aCh h2;cases bl<;>simp only[zU,reduceCtorEq,Al] at h1;rename_i es0;have h1:=h1.symm;subst h1;have⟨L,hL,hlt,ms,c,h3,h4⟩:=hR.blk b _ hb;simp only[Rv] at hm;obtain⟨L',hL',rfl⟩:=hm;rw[hL] at hL';cases hL';have⟨R,h5,h6⟩:=zQ (w:=w) hA.eq hkt hk h4 hf;have hck:=hA.key σ w kt e k K false hkt hk hself;have hg:=vA (P:=P) h3 (by simp);have key:∀ob,rH P σ {w with heap:=w.heap.setIfInBounds L.r ob} L (.map (aDd r es k x))->
   gM P σ S w σ ⟨S.h.set b (some (.map (aDd r es k x))),S.nx⟩ {w with heap:=w.heap.setIfInBounds L.r ob}:=fun ob hbl=>
  gM.write hR hb trivial trivial hL (fun r hr=>by simp [Array.getElem?_setIfInBounds_ne (Dy hr)]) (by simp) rfl rfl rfl hbl
 have hat:∀ob,(w.heap.setIfInBounds L.r ob)[L.r]? =some ob:=fun ob=>by
  rw[Array.getElem?_setIfInBounds_self_of_lt hlt]
 cases r with
 | none=>
  cases R with
  | some _=>exact h6.elim
  | none=>
   refine⟨_,?_,key (.map (ms.push {key:=K,val:=X,born:=c}) (c+1)) ?_⟩
   ·simp only[Instr.mapUpdate,Sem.run_bind,run_underlying ht,Result.andThen_ok,hg,hck,h5];rw[nI h3 (by simp)]
   ·refine⟨_,_,hat _,?_⟩;simp only[aDd,fE,Array.toList_push];exact h4.append hk hx
 | some jv=>
  have⟨j,v0⟩:=jv;cases R with
  | none=>exact h6.elim
  | some jV=>
   have⟨j',V0⟩:=jV;obtain⟨rfl,_⟩:=h6;have⟨_,k',hk1,hk2⟩:=aIc hf;simp only[Gu] at hk1;have⟨en,he1,he2,_⟩:=h4.get hk1;have hbits:=hB σ kt e k k' K en.key hkt hk he2 hk2;refine⟨_,?_,key (.map (ms.modify j fun e=>{e with key:=K,val:=X}) c) ?_⟩
   ·have hms:ms[j]? =some en:=by rw[<-Da];exact he1
    simp only[Instr.mapUpdate,Sem.run_bind,run_underlying ht,Result.andThen_ok,hg,hck,h5,hms,Gq,Option.getD_some,Instr.keyThatStays,hbits,Cq,Sem.run_pure];rw[nI h3 (by simp)]
   ·refine⟨_,_,hat _,?_⟩;simp only[aDd];rw[Array.toList_modify];exact h4.modify j hk hx
def oV(P:Program)(R:Value->World->Prop):Result Next->Prop
 | .ok (.value v) w'=>R v w'
 | .ok .skip w'=>R undef w'
 | .ok (.enter f args) w'=>CallsIn Fence.wide 0 P f args w' fun
   | .returned v,w''=>R v w''
   | _,_=>False
 | .ok (.round l f tmps assign body) w'=>RoundIn Fence.wide 0 P l f tmps assign body w' fun
   | .returned v,w''=>R v w''
   | _,_=>False
 | _=>False
def iY(P:Program)(call:dR):Prop:=∀ (f:AV) (args:bo) (S:St) (v:AV) (S':St),call f args S=some (v,S')->∀ (σ:Env) (w:World) (fv:Value) (Args:List Value),
 Rv P σ f fv->iD P σ args Args->kT P σ S w->oV P (fun V w'=>∃σ',Rv P σ' v V/\gM P σ S w σ' S' w') ((do let d <-Deferred.ofValue fv ⟨Args⟩;invoke d.target d.args:Sem Next).run P w)
theorem aMT{t:TypeId}{agg:Bool}{n:Nat}(ht:aAL P t=some (agg,n))(hR:kT P σ S w){x y:AV}{X Y:Value}(hx:Rv P σ x X)(hy:Rv P σ y Y){cs:bo}(hcs:y.cells=some cs){v:AV}{S':St}
  (h:oT x n cs S=some (v,S')):v= .undef/\∃w',(Instr.storeAt t X Y).run P w= .ok () w'/\gM P σ S w σ S' w':=by
 have⟨d,i,hu,hi,hn,hd⟩:=yV ht;cases x<;>simp only[oT,reduceCtorEq] at h;have⟨hl,h⟩:=bJ h;have⟨S1,hst,h⟩:=aA h;cases h;refine⟨rfl,?_⟩;simp only[Rv] at hx;obtain⟨L,hL,rfl⟩:=hx;have⟨hc1,hc2⟩:=aAQ hy hcs;have⟨L',hL',hth,hext⟩:=sC hR hc1 hc2 hst;rw[hL] at hL';cases hL';rw[eR,Az] at hl;refine⟨_,?_,hext⟩;have hsz:Y.cells.size=i.size:=by have:=hc1.length;simp at this;omega
 have hrun:=run_storeCells_cells (P:=P) L.r (L.d+_) Y.cells.toList 0 w (fun j hj=>by simpa using (hth j hj).1) (fun j hj=>by simpa using (hth j hj).2) hc2;simp only[Bm] at hrun;simp [Instr.storeAt,Instr.sureAddr,storeVar,sizeOf,typeInfo,hi,hsz,hrun]
theorem aEP{n:String}{t:Nat}{i:TypeInfo}{r:Nat×Nat×Option (Bool×Nat)}(h:pE P n t i=some r):r.1=t:=by
 unfold pE at h;split at h
 ·rw[Ba] at h;split at h
  ·cases h
  ·split at h
   ·cases h
   ·split at h
    ·cases h;rfl
    ·obtain⟨a,_,rfl⟩:=Ax.1 h;rfl
    ·cases h
    ·cases h;rfl
    ·cases h
 ·cases h
theorem oP{n:String}:∀ {is:List TypeInfo} {k t:Nat} {r:Nat×Option (Bool×Nat)},pS t (gO P n is k)=some r->k<=t/\∃i,is[t - k]? =some i/\pE P n t i=some (t,r)
 | [],k,t,r,h=>by simp [gO,pS] at h
 | i::is,k,t,r,h=>by
  simp only[gO] at h;have next:pS t (gO P n is (k+1))=some r->k<=t/\∃j,(i::is)[t - k]? =some j/\pE P n t j=some (t,r):=fun h=>by
   have⟨h1,j,h2,h3⟩:=oP h;refine⟨au,j,?_,h3⟩;rw[show t - k=(t - (k+1))+1 by omega];simpa using h2
  split at h
  ·rename_i x hx;have hf:=aEP hx;have⟨u,a⟩:=x;simp only at hf;subst hf;simp only[pS,bQ] at h;split at h
   ·rename_i he;rw[Az] at he;subst he;cases h;exact⟨Af _,i,by simp,hx⟩
   ·exact next h
  ·exact next h
theorem aMJ{f:Nat}{R:Value}{Args:List Value}:((do let d <-Deferred.ofValue (.func (.func f) ⟨[R]⟩ ⟨[]⟩) ⟨Args⟩;invoke d.target d.args:Sem Next)).run P w=(callFunc f (#[R]++⟨Args⟩)).run P w:=by
 simp [Deferred.ofValue,invoke]
theorem aMx{call:dR}(hcall:iY P call){name:String}{r:AV}{R:Value}{args:bo}{Args:List Value}(hr:Rv P σ r R)(hargs:iD P σ args Args)(hR:kT P σ S w){v:AV}{S':St}
  (h:aDX r (gO P name P.types.toList 0) args call S=some (v,S')):oV P (fun V w'=>∃σ',Rv P σ' v V/\gM P σ S w σ' S' w') ((callMethod R name ⟨Args⟩).run P w):=by
 cases r<;>simp only[aDX,reduceCtorEq] at h;rename_i t x;simp only[Rv] at hr;obtain⟨W,rfl,hx⟩:=hr;have⟨row,hrow0,h⟩:=aA h;have⟨_,i,hi,hrow⟩:=oP hrow0;have hlt:t<P.types.size:=by
  have:=(Ai.1 hi).1;simpa using this
 have hinfo:P.info? t=some i:=by
  unfold Tables.info?;rw[if_pos hlt];simpa using hi
 have hty:∀w:World,(typeInfo t).run P w= .ok i w:=fun w=>by simp [typeInfo,hinfo]
 have key:∀ (f:Nat) (RV:Value) (rv:AV),(method (P.types.size+Made.depth) t W name).run P w= .ok (f,RV) w->Rv P σ rv RV->call (.fn f [rv] []) args S=some (v,S')->
   oV P (fun V w'=>∃σ',Rv P σ' v V/\gM P σ S w σ' S' w') ((callMethod (.iface t W) name ⟨Args⟩).run P w):=by
  intro f RV rv hm hrv hc;have:=hcall _ _ _ _ _ hc σ w (.func (.func f) ⟨[RV]⟩ ⟨[]⟩) Args (by simp only[Rv];exact⟨_,_,rfl,cS.2 ⟨_,_,rfl,hrv,cT.2 rfl⟩,cT.2 rfl⟩) hargs hR;rw[aMJ] at this;simp only[callMethod,Sem.run_bind,run_program,Result.andThen_ok,hm];exact this
 obtain⟨fuel,hdep⟩:∃fuel,P.types.size+Made.depth=fuel+1:=⟨P.types.size+99,rfl⟩;rw[hdep] at key;unfold pE at hrow;split at hrow
 ·rename_i m hm;rw[Ba] at hrow;split at hrow
  ·cases hrow
  ·rename_i hp;have hp:m.path.toList= []:=by simpa using hp
   split at hrow
   ·cases hrow
   ·rename_i f ptr hf;have hmeth:∀ (RV:Value),(receiverAt t (.val W) ptr (if m.path.isEmpty then some ((name.splitOn ".").getLastD name) else none)).run P w= .ok RV w->(method (fuel+1) t W name).run P w= .ok (f,RV) w:=fun RV hrec=>by
     simp only[method,Sem.run_bind,hty,Result.andThen_ok,hm,hp,follow,Sem.run_pure,hf,hrec]
    split at hrow
    ·rename_i b0 e hu;cases hrow;refine key f W x (hmeth W ?_) hx h;simp only[receiverAt,Sem.run_bind,run_underlying hu,Result.andThen_ok,Place.get,Sem.run_pure]
    ·rename_i b0 e hu;have⟨⟨agg,n⟩,ha,hra⟩:=Ax.1 hrow;cases hra;have h:aCX x f agg n args call S=some (v,S'):=h;cases x<;>simp only[aCX,reduceCtorEq] at h;rename_i b off;have⟨rv,h1,h2⟩:=aA h;simp only[Rv] at hx;obtain⟨L,hL,rfl⟩:=hx;have⟨L',RV,hL',h3,h4⟩:=yA ha hR h1;rw[hL] at hL';cases hL';refine key f RV rv (hmeth RV ?_) h4 h2;have hpe:m.path.isEmpty=true:=by simpa using hp
     have hnil:∀ (ad:Addr) (nm:String),(Builtin.ssaWrapNilChk_ #[t] t #[.pointer (some ad),strVal "",strVal nm]).run P w= .ok (.pointer (some ad)) w:=fun _ _=>by rfl
     simp only[receiverAt,Sem.run_bind,run_underlying hu,Result.andThen_ok,Place.get,Sem.run_pure,hpe,Cq,hnil,asAddr,h3]
    ·cases hrow
    ·rename_i b0 d hnp hni hu;cases hrow;refine key f W x (hmeth W ?_) hx h;simp only[receiverAt,Sem.run_bind,run_underlying hu,Result.andThen_ok];cases d<;>first | rfl | exact(hnp _ rfl).elim
    ·cases hrow
 ·cases hrow
theorem aLw{t e ty:TypeId}{i:TypeInfo}{z:bo}(he:mG P t=some (e,i))(hz:kQ P e i=some z)(hR:kT P σ S w){x:AV}{X:Value}(hx:Rv P σ x X){v:AV}{S':St}(h:aI9 x z S=some (v,S')):
  v= .undef/\∃w',(Builtin.clear_ #[t] ty #[X]).run P w= .ok (.tuple #[]) w'/\gM P σ S w σ S' w':=by
 have⟨hu,hi⟩:=nS he;have⟨Z,hZ,hz1,hz2,hz3,hz4⟩:=oF (σ:=σ) hi hz;cases x<;>simp only[aI9,reduceCtorEq] at h<;>simp only[Rv] at hx
 ·obtain⟨L,hL,rfl⟩:=hx;rename_i b off n cap o;rw[bQ] at h;split at h
  ·rename_i hn;rw[Az] at hn;subst hn;cases h;exact⟨rfl,w,by simp [Builtin.clear_,run_underlying hu],gM.refl hR⟩
  ·rename_i hn;rw[Az] at hn;have⟨S1,hst,h⟩:=aA h;cases h;have⟨L',hL',hth,hext⟩:=sC hR (vL hz1 n) (qX hz2 n) hst;rw[hL] at hL';cases hL';refine⟨rfl,_,?_,hext⟩;have hrun:=run_storeCells_cells (P:=P) L.r (L.d+off) (repeatL Z.cells.toList n) 0 w (fun j hj=>by simpa using (hth j hj).1) (fun j hj=>by simpa using (hth j hj).2) (qX hz2 n);simp only[Bm] at hrun;have hzc:(Builtin.zeroCells Z.cells n).toList=repeatL Z.cells.toList n:=by
    rw[<-mD Z.cells.toList n];unfold Builtin.zeroCells;rw[Em,Array.toList_range];simp only[Eo];apply Gd;intro a _;cases Z.cells;simp
   obtain⟨k,rfl⟩:∃k,n=k+1:=⟨n - 1,au⟩;simp [Builtin.clear_,run_underlying hu,zeroValue,typeInfo,hi,hZ,hzc,hrun]
 ·subst hx;cases h;exact⟨rfl,w,by simp [Builtin.clear_,run_underlying hu],gM.refl hR⟩
 ·obtain⟨A,c,rfl⟩:=hx;cases h;exact⟨rfl,w,by simp [Builtin.clear_,run_underlying hu],gM.refl hR⟩
theorem aHo{fn:Func}{n:String}{e:Array Value->Sem Value}(h:fn.name=n)(h1:Extern.allGenericRows.lookup n=none)(h2:Extern.allTypedRows.lookup n=none)(h3:Extern.allRows.lookup n=some e):Extern.find fn=some e:=by
 unfold Extern.find;simp only[h,h1,h2,h3,Option.map_none];rfl
theorem aAX{fn:Func}{n:String}(h:fn.name=n)(h1:Extern.allNextRows.lookup n=none)(ho:Extern.allNextRows.lookup fn.origin=none):Extern.findNext fn=none:=by
 unfold Extern.findNext;simp only[h,h1,ho,Option.map_none];rfl
theorem aMC:Extern.allRows.lookup "math/bits.Add64" =some add64Entry:=by kernel_rfl
theorem aJh:Extern.allGenericRows.lookup "math/bits.Add64" =none:=by kernel_rfl
theorem aJO:Extern.allTypedRows.lookup "math/bits.Add64" =none:=by kernel_rfl
theorem aJT:Extern.allNextRows.lookup "math/bits.Add64" =none:=by kernel_rfl
theorem aQd:Extern.allRows.lookup "internal/bytealg.IndexByteString" =some Extern.BytealgIndexByte.indexByte:=by kernel_rfl
theorem aOa:Extern.allGenericRows.lookup "internal/bytealg.IndexByteString" =none:=by kernel_rfl
theorem aNa:Extern.allTypedRows.lookup "internal/bytealg.IndexByteString" =none:=by kernel_rfl
theorem aOm:Extern.allNextRows.lookup "internal/bytealg.IndexByteString" =none:=by kernel_rfl
theorem aJu{f:Operand}{k:aJw}(h:aK6 P f=some k):∃id fn,f= .func id/\P.funcs[id]? =some fn/\fn.body.isNone=true/\Extern.allNextRows.lookup fn.origin=none/\
  ((fn.name= "math/bits.Add64" /\k= .add64)\/(fn.name= "internal/bytealg.IndexByteString" /\k= .idxByte)):=by
 unfold aK6 at h;split at h
 ·rename_i id;split at h
  ·rename_i fn hfn;rw[Ba] at h;split at h
   ·rename_i hc;rw[Ct,Option.isNone_iff_eq_none (o:=Extern.allNextRows.lookup fn.origin)] at hc;refine⟨id,fn,rfl,hfn,hc.1,hc.2,?_⟩;unfold aKK at h;rw[Ba] at h;split at h
    ·rename_i hn;cases h;exact .inl ⟨by simpa using hn,rfl⟩
    ·rw[Ba] at h;split at h
     ·rename_i hn;cases h;exact .inr ⟨by simpa using hn,rfl⟩
     ·cases h
   ·cases h
  ·cases h
 ·cases h
theorem aK7{id:Nat}{fn:Func}{e:Array Value->Sem Value}(hf:P.funcs[id]? =some fn)(hb:fn.body.isNone=true)(hn:(fn.name== "runtime.NumGoroutine")=false)(hnx:Extern.findNext fn=none)(he:Extern.find fn=some e)(As:List Value)(w:World):
  ((do let d <-Deferred.ofValue (.func (.func id) #[] #[]) ⟨As⟩;invoke d.target d.args:Sem Next)).run P w=((e ⟨As⟩).run P w).andThen fun v w'=>.ok (.value v) w':=by
 simp only[Deferred.ofValue,Sem.run_bind,Sem.run_pure,Result.andThen_ok,invoke,Array.empty_append,Array.append_empty];exact run_callFunc_extern hf hn hb hnx he _ w
theorem yJ(p:Nat->Bool)(c:Nat):∀ (s:bt) (k:Nat),(∀j x,s[j]? =some x->p (k+j)=Nat.beq x c)->
  tJ c s k=match (List.range' k s.length).find? p with
   | some i=>(i:Int)
   | none=> -1
 | [],k,h=>by simp [tJ]
 | b::s,k,h=>by
  have h0:=h 0 b (by simp);rw[Bm] at h0;rw[Av,List.range'_succ,List.find?_cons];simp only[tJ,bQ,h0];cases hb:Nat.beq b c with
  | true=>simp
  | false=>
   simp only[Aw,Bx];exact yJ p c s (k+1) (fun j x hj=>by
    have:=h (j+1) x (by simpa using hj);rw[<-this];congr 1;omega)
theorem firstIdx_eq{s:bt}(hb:Bytes s){c:Nat}(hc:c<=255):firstIdx (dM s) ((Int.ofNat c).toNat.toUInt8)=tJ c s 0:=by
 unfold firstIdx;rw[iC,List.range_eq_range'];have h:=yJ (fun i=>(dM s)[i]! ==(Int.ofNat c).toNat.toUInt8) c s 0 (fun j x hj=>by
  have hlt:=(Ai.1 hj).1;have hx:=hb x (Cm hj);have e1:(dM s)[0+j]! =UInt8.ofNat x:=by
   rw[Ao];have hsz:j<(dM s).size:=by rw[iC];exact hlt
   rw[getElem!_pos (dM s) j hsz];show(dM s).data[j]=_;have:=(Ai.1 hj).2;simp [dM,this]
  rw[e1];rw[Dd,beq_iff_eq,Az];constructor
  ·intro he;have:=Hn UInt8.toNat he;rw[vH hx] at this;have e2:((Int.ofNat c).toNat.toUInt8).toNat=c:=by show(UInt8.ofNat c).toNat=c;exact vH au
   omega
  ·intro he;subst he;rfl)
 rw[h];rfl
theorem aMt{f:Operand}{k:aJw}(hk:aK6 P f=some k){as:bo}{As:List Value}(has:iD P σ as As){v:AV}(h:aJj k as=some v){a:Act}:
  ∃V,((do let d <-Deferred.ofValue (a.eval f) ⟨As⟩;invoke d.target d.args:Sem Next)).run P w= .ok (.value V) w/\Rv P σ v V:=by
 obtain⟨id,fn,rfl,hfn,hb,ho,hkk⟩:=aJu hk;show ∃V,((do let d <-Deferred.ofValue (.func (.func id) #[] #[]) ⟨As⟩;invoke d.target d.args:Sem Next)).run P w= .ok (.value V) w/\Rv P σ v V;rcases hkk with⟨hn,rfl⟩ | ⟨hn,rfl⟩
 ·rw[aK7 hfn hb (by rw[hn];decide) (aAX hn aJT ho) (aHo hn aJh aJO aMC)];unfold aJj at h;split at h
  ·rename_i x y c hka;have⟨hc,h⟩:=bJ h;cases h;have hc:=Au hc;rw[cS] at has;obtain⟨X,Xs,rfl,hX,has⟩:=has;rw[cS] at has;obtain⟨Y,Ys,rfl,hY,has⟩:=has;rw[cS] at has;obtain⟨Z,Zs,rfl,hZ,has⟩:=has;rw[cT] at has;subst has;simp only[Rv] at hX hY hZ;subst hX;subst hY;subst hZ;have hr:=run_add64 (P:=P) (Int.ofNat x) (Int.ofNat y) (Int.ofNat c) (Gj x) (Gj y) (Gj c) (by show(c:Int)<=1;omega) w;refine⟨_,by rw[show(⟨[.int .u64 (Int.ofNat x),.int .u64 (Int.ofNat y),.int .u64 (Int.ofNat c)]⟩:Array Value)= #[.int .u64 (Int.ofNat x),.int .u64 (Int.ofNat y),.int .u64 (Int.ofNat c)] from rfl,hr];rfl,?_⟩;simp only[aOh,Rv];refine⟨_,rfl,cS.2 ⟨_,_,rfl,?_,cS.2 ⟨_,_,rfl,?_,cT.2 rfl⟩⟩⟩
   ·simp only[Rv];rfl
   ·simp only[Rv];rfl
  ·rename_i h0;cases h0
  ·cases h
 ·rw[aK7 hfn hb (by rw[hn];decide) (aAX hn aOm ho) (aHo hn aOa aNa aQd)];unfold aJj at h;split at h
  ·rename_i h0;cases h0
  ·rename_i s c hka;have⟨hc,h⟩:=bJ h;cases h;have hc:=Au hc;rw[cS] at has;obtain⟨X,Xs,rfl,hX,has⟩:=has;rw[cS] at has;obtain⟨Y,Ys,rfl,hY,has⟩:=has;rw[cT] at has;subst has;simp only[Rv] at hX hY;obtain⟨rfl,hbs⟩:=hX;subst hY;have hr:=run_indexByte_string (P:=P) (dM s) (Int.ofNat c) w;refine⟨_,by rw[show(⟨[.string (dM s),.int .u8 (Int.ofNat c)]⟩:Array Value)= #[.string (dM s),.int .u8 (Int.ofNat c)] from rfl,hr];rfl,?_⟩;simp only[Rv];rw[firstIdx_eq hbs hc]
  ·cases h
theorem aFp(hA:tZ P)(hB:jX P){call:dR}(hcall:iY P call){o:Oper}{xo:XOp}(hc:qK P o.op=some (.x xo)){F:Fr}{a:Act}(hF:pV P σ F a.tmps)(hR:kT P σ S w){v:AV}{S':St}
  (hv:xN xo call F S=some (v,S')):oV P (fun V w'=>∃σ',Rv P σ' v V/\gM P σ S w σ' S' w') ((execOp a.eval o).run P w):=by
 have⟨dst,op,type,pos,after,guard⟩:=o;simp only at hc;have hundef:∀σ',Rv P σ' .undef undef:=fun σ'=>by simp only[AV.undef,undef,Rv];exact⟨[],rfl,cT.2 rfl⟩
 cases op<;>(try (first | (have⟨y,_,h2⟩:=cL hc;cases h2;done) | (have⟨y,_,h2⟩:=kG hc;cases h2;done) | (cases hc;done)))
 case store t x y=>
  have⟨z,h1,h2⟩:=fM hc;cases h2;have⟨⟨agg,n⟩,hag,h1⟩:=aT h1;have⟨X,hX,h1⟩:=aT h1;have⟨Y,hY,h1⟩:=aT h1;cases h1;have⟨cs,h3,h4⟩:=aA (show(aU (Y.val F).cells fun cs=>oT (X.val F) n cs S)=some (v,S') from hv);obtain⟨rfl,w',h5,h6⟩:=aMT hag hR (bM hF hR hX) (bM hF hR hY) h3 h4;simp only[execOp,Sem.run_bind,h5,Result.andThen_ok,Sem.run_pure];exact⟨σ,hundef σ,h6⟩
 case insert t m k x=>
  simp only[qK] at hc;split at hc
  ·rename_i kt et hu;have⟨y,h1,h2⟩:=fM hc;cases h2;have⟨e,he,h1⟩:=aT h1;have⟨M,hM,h1⟩:=aT h1;have⟨K,hK,h1⟩:=aT h1;have⟨X,hX,h1⟩:=aT h1;cases h1;obtain⟨rfl,w',h5,h6⟩:=aBx hA hB hu he hR (bM hF hR hM) (bM hF hR hK) (bM hF hR hX) hv;simp only[execOp,Sem.run_bind,h5,Result.andThen_ok,Sem.run_pure];exact⟨σ,hundef σ,h6⟩
  ·cases hc
 case mapUpdate t m k x=>
  simp only[qK] at hc;split at hc
  ·rename_i kt et hu;have⟨y,h1,h2⟩:=fM hc;cases h2;have⟨e,he,h1⟩:=aT h1;have⟨M,hM,h1⟩:=aT h1;have⟨K,hK,h1⟩:=aT h1;have⟨X,hX,h1⟩:=aT h1;cases h1;obtain⟨rfl,w',h5,h6⟩:=aBx hA hB hu he hR (bM hF hR hM) (bM hF hR hK) (bM hF hR hX) hv;simp only[execOp,Sem.run_bind,h5,Result.andThen_ok,Sem.run_pure];exact⟨σ,hundef σ,h6⟩
  ·cases hc
 case call c=>
  have⟨callee,args,argTypes⟩:=c;cases callee with
  | value f=>
   simp only[qK] at hc;split at hc
   ·rename_i k hk;obtain⟨y,h1,h2⟩:=fM hc;cases h2;obtain⟨As,hAs,h1⟩:=aT h1;cases h1;obtain⟨u,h3,h4⟩:=aA (show(aU (aJj k (dE As F)) fun v=>some (v,S))=some (v,S') from hv);cases h4;obtain⟨V,h5,h6⟩:=aMt (w:=w) hk (lL hF hR hAs) h3;have he:(args.map a.eval)=⟨args.toList.map a.eval⟩:=by apply Ga;simp
    simp only[execOp,resolve,he];rw[h5];exact⟨σ,h6,gM.refl hR⟩
   ·have⟨y,h1,h2⟩:=fM hc;cases h2;have⟨Fo,hFo,h1⟩:=aT h1;have⟨As,hAs,h1⟩:=aT h1;cases h1;have:=hcall _ _ _ _ _ hv σ w _ _ (bM hF hR hFo) (lL hF hR hAs) hR;have he:(args.map a.eval)=⟨args.toList.map a.eval⟩:=by apply Ga;simp
    simp only[execOp,resolve,he];exact this
  | invoke r m=>
   have⟨y,h1,h2⟩:=fM hc;cases h2;have⟨Ro,hRo,h1⟩:=aT h1;have⟨As,hAs,h1⟩:=aT h1;cases h1;have:=aMx hcall (bM hF hR hRo) (lL hF hR hAs) hR hv;have he:(args.map a.eval)=⟨args.toList.map a.eval⟩:=by apply Ga;simp
   have h0:(#[a.eval r]++(⟨args.toList.map a.eval⟩:Array Value))[0]? =some (a.eval r):=by simp
   have hx:((#[a.eval r]++(⟨args.toList.map a.eval⟩:Array Value)).extract 1 (#[a.eval r]++(⟨args.toList.map a.eval⟩:Array Value)).size)=⟨args.toList.map a.eval⟩:=by
    apply Ga;simp only[Array.toList_extract,Array.toList_append,Array.size_append,Cu,Ck,List.size_toArray,Av,Co];simp;exact Ay (by simp)
   simp only[execOp,resolve,he,Sem.run_bind,Sem.run_pure,Result.andThen_ok,invoke,h0,hx];exact this
  | builtin b=>
   have arr:∀ {α:Type} {x:Array α} {l:List α},x.toList=l->x=l.toArray:=fun h=>by apply Ga;rw[h]
   simp only[qK] at hc;split at hc
   ·split at hc
    all_goals (first | (have⟨y,_,h2⟩:=cL hc;cases h2;done) | (cases hc;done))
   ·split at hc
    all_goals (first | (have⟨y,_,h2⟩:=cL hc;cases h2;done) | (cases hc;done))
   ·have⟨y,_,h2⟩:=cL hc;cases h2
   ·have⟨y,_,h2⟩:=cL hc;cases h2
   ·rename_i s x t u hx ht;have:=arr hx;subst this;have:=arr ht;subst this;split at hc
    ·rename_i e i he;rw[Ba] at hc;split at hc
     ·rename_i hcond;rw[Ct] at hcond;have⟨z,hz⟩:=Option.isSome_iff_exists.1 hcond.2;have⟨y,h1,h2⟩:=fM hc;cases h2;have⟨So,hS,h1⟩:=aT h1;have⟨Xo,hX,h1⟩:=aT h1;cases h1;have⟨V,w',σ',h3,h4,h5⟩:=aGx (ty:=type) he hcond.1 hz hR (bM hF hR hS) (bM hF hR hX) hv;have hex:(execOp a.eval ⟨dst,.call ⟨.builtin .append, #[s,x], #[t,u]⟩,type,pos,after,guard⟩).run P w= .ok (.value V) w':=by
       simp [execOp,resolve,invoke,builtin,h3]
      have hex':(execOp a.eval ⟨dst,.call ⟨.builtin .append,[s,x].toArray,[t,u].toArray⟩,type,pos,after,guard⟩).run P w= .ok (.value V) w':=hex;rw[hex'];exact⟨σ',h4,h5⟩
     ·cases hc
    ·cases hc
   ·rename_i x t hx ht;have:=arr hx;subst this;have:=arr ht;subst this;split at hc
    ·rename_i e i he;have⟨y,h1,h2⟩:=fM hc;cases h2;have⟨z,hz,h1⟩:=aT h1;have⟨Xo,hX,h1⟩:=aT h1;cases h1;obtain⟨rfl,w',h3,h4⟩:=aLw (ty:=type) he hz hR (bM hF hR hX) hv;have hex:(execOp a.eval ⟨dst,.call ⟨.builtin .clear, #[x], #[t]⟩,type,pos,after,guard⟩).run P w= .ok (.value (.tuple #[])) w':=by
      simp [execOp,resolve,invoke,builtin,h3]
     have hex':(execOp a.eval ⟨dst,.call ⟨.builtin .clear,[x].toArray,[t].toArray⟩,type,pos,after,guard⟩).run P w= .ok (.value (.tuple #[])) w':=hex;rw[hex'];exact⟨σ,hundef σ,h4⟩
    ·cases hc
   ·have⟨hb,d,s,t,u,e,i,Do,So,hd,ht,he,hD,hS,h2⟩:=aAA hc;have:=arr hd;subst this;have:=arr ht;subst this;cases h2;subst hb;have⟨V,w',h3,h4,h5⟩:=aJM (u:=u) (ty:=type) he hR (bM hF hR hD) (bM hF hR hS) hv;have hex:(execOp a.eval ⟨dst,.call ⟨.builtin .copy, #[d,s], #[t,u]⟩,type,pos,after,guard⟩).run P w= .ok (.value V) w':=by
     simp [execOp,resolve,invoke,builtin,h3]
    have hex':(execOp a.eval ⟨dst,.call ⟨.builtin .copy,[d,s].toArray,[t,u].toArray⟩,type,pos,after,guard⟩).run P w= .ok (.value V) w':=hex;rw[hex'];exact⟨σ,h4,h5⟩
 case makeFunc fn x y=>
  cases fn<;>(try (first | (have⟨y,_,h2⟩:=cL hc;cases h2;done) | (cases hc;done)));simp only[qK] at hc;split at hc
  ·have⟨y,_,h2⟩:=cL hc;cases h2
  ·cases hc
 case makeMap t r=>
  cases r<;>simp only[qK,reduceCtorEq] at hc;have⟨y,_,h2⟩:=kG hc;cases h2
 all_goals
  simp only[qK,Ba] at hc
  (repeat' split at hc)<;>first
   | (have⟨y,_,h2⟩:=cL hc;cases h2;done)
   | (have⟨y,_,h2⟩:=kG hc;cases h2;done)
   | (cases hc;done)
end Go.Ev
namespace Go.Ev
variable {P:Program}{σ:Env}{S:St}{w:World}
def Fw(ro:Option Nat):Fence:={Fence.wide with round:=ro}
theorem aCF{ro:Option Nat}{n m:Nat}{f:FuncId}{args:Array Value}{R:Ending->World->Prop}(h:CallsIn Fence.wide m P f args w R):CallsIn (Fw ro) n P f args w R:=
 ⟨trivial,fun cs _=>h.2 cs (room_wide _)⟩
theorem aIv{ro:Option Nat}{n m l:Nat}{f:FuncId}{tmps:Array Value}{as bd:Code}{R:Ending->World->Prop}(h:RoundIn Fence.wide m P l f tmps as bd w R):RoundIn (Fw ro) n P l f tmps as bd w R:=
 ⟨trivial,fun c cs _=>h.2 c cs (room_wide _)⟩
theorem oV.mono{R R':Value->World->Prop}{r:Result Next}(h:oV P R r)(hr:∀v w,R v w->R' v w):oV P R' r:=by
 unfold oV at *;split at h
 ·exact hr _ _ h
 ·exact hr _ _ h
 ·exact CallsIn.mono h fun e w' he=>by cases e<;>first | exact hr _ _ he | exact he
 ·exact RoundIn.mono h fun e w' he=>by cases e<;>first | exact hr _ _ he | exact he
 ·exact h.elim
theorem aBe{ro:Option Nat}{n:Nat}{o:Oper}{a:Act}{next:Act->World->Prop}{Q:Exit->Act->World->Prop}{R:Value->World->Prop}{r:Result Next}(h:oV P R r)
  (hr:∀v w,R v w->next (a.put o.dst v) w):o.uponIn (Fw ro) n P a next Q r:=by
 unfold oV at h;split at h
 ·exact hr _ _ h
 ·exact hr _ _ h
 ·refine⟨fun hd=>by simp [Fw,Fence.wide] at hd,aCF (CallsIn.mono h fun e w' he=>?_)⟩;cases e with
  | returned v=>exact hr _ _ he
  | panicked c=>exact he.elim
  | outgrown=>exact he.elim
 ·refine⟨fun hd=>by simp [Fw,Fence.wide] at hd,aIv (RoundIn.mono h fun e w' he=>?_)⟩;cases e with
  | returned v=>exact hr _ _ he
  | panicked c=>exact he.elim
  | outgrown=>exact he.elim
 ·exact h.elim
theorem aKD(t:Nat)(F:Fr):aB t F=(F.get t).getD .undef:=by
 unfold aB;cases F.get t<;>rfl
theorem rR(F:Fr)(d t:Nat)(v:AV):aB t (F.set d (some v))=if t=d then v else aB t F:=by
 rw[aKD,dq];split
 ·rfl
 ·rw[aKD]
theorem pV.put{F:Fr}{a:Act}{d:Option Tmp}{v:AV}{V:Value}(hF:pV P σ F a.tmps)(hd:zK a.tmps.size d=true)(hv:Rv P σ v V):pV P σ (cJ d F v) (a.put d V).tmps:=by
 cases d with
 | none=>exact hF
 | some d=>
  have hlt:d<a.tmps.size:=Au hd;refine⟨fun t=>?_⟩;show Rv P σ (aB t (F.set d (some v))) _;rw[rR];simp only[Act.put,Bg,Array.getElem?_setIfInBounds];split
  ·rename_i e;subst e;simp;exact hv
  ·rename_i hne;rw[if_neg (Dy hne)];have:=hF.get t;simpa [Bg] using this
theorem aDi(a:Act)(d:Option Tmp)(V:Value):(a.put d V).tmps.size=a.tmps.size:=by cases d<;>simp [Act.put]
theorem put_defers(a:Act)(d:Option Tmp)(V:Value):(a.put d V).defers=a.defers:=by cases d<;>rfl
theorem aCs{ops:Array Oper}{o:Oper}{g:Option (Nat×Bool)}(hg:aBS ops o.guard=some g){F:Fr}{tmps:Array Value}(hF:pV P σ F tmps):Region.wanted o (yielded ops tmps)=fI g F:=by
 unfold Region.wanted;cases ho:o.guard with
 | none=>
  rw[ho] at hg;simp only[aBS,Al] at hg;subst hg;rfl
 | some jw=>
  have⟨j,want⟩:=jw;rw[ho] at hg;simp only[aBS] at hg;split at hg
  ·rename_i d hd;cases hg;show(yielded ops tmps j==some want)=isB (aB d F) want;have hv:=hF.get d;unfold yielded;rw[hd];simp only[Option.bind_some];have hgd:tmps.getD d undef=(tmps[d]?).getD undef:=Bg ..;rw[hgd] at hv;cases ht:tmps[d]? with
   | none=>
    rw[ht] at hv;simp only[Option.getD_none] at hv;cases hb:aB d F<;>rw[hb] at hv<;>simp only[isB]<;>first | rfl | (simp only[Rv,undef,reduceCtorEq] at hv)
   | some X=>
    rw[ht] at hv;simp only[Option.getD_some] at hv;cases hb:aB d F<;>rw[hb] at hv<;>simp only[isB]<;>simp only[Rv] at hv
    case bool b=>subst hv;simp only[vS];cases b<;>cases want<;>rfl
    all_goals first
     | (subst hv;rfl)
     | (obtain⟨rfl,_⟩:=hv;rfl)
     | (obtain⟨L,_,rfl⟩:=hv;rfl)
     | (obtain⟨A,c,rfl⟩:=hv;rfl)
     | (obtain⟨A,B,rfl,_⟩:=hv;rfl)
     | (obtain⟨A,rfl,_⟩:=hv;rfl)
  ·cases hg
theorem semAt_eq{o:Oper}{r:Option Nat}{ρ:Operand->Value}(h:∀c,o.op≠ .defer c):o.semAt r ρ=execOp ρ o:=by
 unfold Oper.semAt;split
 ·rename_i h1;exact absurd h1 (h _)
 ·rfl
theorem sB{op:Op}{r:AOp}(h:qK P op=some r):∀c,op≠ .defer c:=by
 rintro c rfl;cases h
theorem zX{nt:Nat}{ops:Array Oper}{o:Oper}{m:Nat}{ao:AO}(h:aKL P nt ops o m=some ao):
  zK nt o.dst=true/\aBS ops o.guard=some ao.grd/\ao.dst=o.dst/\ao.mask=m/\(qK P o.op=some ao.op\/ao.op= .x .bad):=by
 unfold aKL at h;rw[Ba] at h;split at h
 ·rename_i hd;split at h
  ·rename_i g hg;split at h
   ·rename_i op hop;cases h;exact⟨hd,hg,rfl,rfl,.inl hop⟩
   ·cases h;exact⟨hd,hg,rfl,rfl,.inr rfl⟩
  ·cases h
 ·cases h
theorem aJy(hA:tZ P)(hB:jX P){call:dR}(hcall:iY P call){ao:AO}{o:Oper}(hop:qK P o.op=some ao.op\/ao.op= .x .bad){F F':Fr}{a:Act}(hdst:ao.dst=o.dst)(hd:zK a.tmps.size o.dst=true)
  (hF:pV P σ F a.tmps) (hR:kT P σ S w) {S':St} (h:oOp ao.op ao.dst call F S=some (F',S')):
  (∀c,o.op≠ .defer c)/\oV P (fun V w'=>∃σ',pV P σ' F' (a.put o.dst V).tmps/\gM P σ S w σ' S' w') ((execOp a.eval o).run P w):=by
 rcases hop with hop | hop
 ·refine⟨sB hop,?_⟩;cases hao:ao.op with
  | q qo=>
   rw[hao] at h hop;have⟨v,h1,h2⟩:=aA (show(aU (iT qo F S.h) fun v=>some (cJ ao.dst F v,S))=some (F',S') from h);cases h2;have⟨V,h3,h4⟩:=aFO hA hop hF hR h1;rw[h3];exact⟨σ,by rw[hdst];exact hF.put hd h4,gM.refl hR⟩
  | a al=>
   rw[hao] at h hop;have⟨⟨v,bl⟩,h1,h2⟩:=aA (show(aU (tA al F S.nx) fun r=>some (cJ ao.dst F r.1,(⟨S.h.set S.nx (some r.2),Nat.succ S.nx⟩:St)))=some (F',S') from h);cases h2;have⟨V,w',h3,ob,e,m1,m2,m3,m4,m5,m6,m7⟩:=aFc hop hF hR S.nx (hR.fresh _ (Af _)) h1;rw[h3];have hext:=gM.alloc hR m1 m2 m3 m4 m5 m6;exact⟨_,by rw[hdst];exact(hF.mono (hext.mono hR)).put hd m7,hext⟩
  | x xo=>
   rw[hao] at h hop;have⟨⟨v,S1⟩,h1,h2⟩:=aA (show(aU (xN xo call F S) fun r=>some (cJ ao.dst F r.1,r.2))=some (F',S') from h);cases h2;refine(aFp hA hB hcall hop hF hR h1).mono ?_;rintro V w' ⟨σ',h3,h4⟩;exact⟨σ',by rw[hdst];exact(hF.mono (h4.mono hR)).put hd h3,h4⟩
 ·rw[hop] at h;have⟨r,h1,_⟩:=aA (show(aU (xN .bad call F S) fun r=>some (cJ ao.dst F r.1,r.2))=some (F',S') from h);cases h1
theorem fF(o:AO)(os:List AO)(call:dR)(F:Fr)(S:St):lF (o::os) call F S=aU (yK o call F S) fun r=>lF os call r.1 r.2:=rfl
theorem sF(hA:tZ P)(hB:jX P){call:dR}(hcall:iY P call){ro:Option Nat}{n nt:Nat}{ops:Array Oper}{Q:Exit->Act->World->Prop}:
  ∀ (l:List Oper) (k:Nat) (ms:bt) (aos:List AO) (σ:Env) (F F':Fr) (S S':St) (a:Act) (w:World),(∀j,j<l.length->l[j]? =ops[k+j]?)->qA P nt ops l ms=some aos->a.tmps.size=nt->pV P σ F a.tmps->kT P σ S w->
   lF aos call F S=some (F',S')->(∀σ' a' w',pV P σ' F' a'.tmps->a'.tmps.size=nt->a'.defers=a.defers->gM P σ S w σ' S' w'->Q .normal a' w')->
   wpOpsIn (Fw ro) n P ops Q (List.range' k l.length) a w
 | [],k,ms,aos,σ,F,F',S,S',a,w,hl,hc,hn,hF,hR,h,hQ=>by
  simp only[qA,Al] at hc;subst hc;cases h;exact hQ σ a w hF hn rfl (gM.refl hR)
 | o::l,k,ms,aos,σ,F,F',S,S',a,w,hl,hc,hn,hF,hR,h,hQ=>by
  simp only[qA] at hc;split at hc
  ·rename_i ao aos' hao haos;cases hc;have⟨hd,hg,hdst,_,hop⟩:=zX hao;rw[fF] at h;have⟨⟨F1,S1⟩,h1,h2⟩:=aA h;have ho:ops[k]? =some o:=by have:=hl 0 (by simp);simpa using this.symm
   have hl':∀j,j<l.length->l[j]? =ops[(k+1)+j]? :=fun j hj=>by have:=hl (j+1) (by simp;omega);simpa [Cx,Fv 1 j] using this
   simp only[Av,List.range'_succ,wpOpsIn,ho];rw[aCs hg hF];unfold yK at h1;rw[bQ] at h1;have hd':zK a.tmps.size o.dst=true:=by rw[hn];exact hd
   split at h1
   ·rename_i hw;rw[if_pos hw];have⟨hnd,hnext⟩:=aJy hA hB hcall hop hdst hd' hF hR h1;refine⟨fun _ _=>trivial,?_⟩;rw[semAt_eq hnd];refine aBe hnext ?_;rintro V w' ⟨σ1,hF1,hE1⟩;exact sF hA hB hcall l (k+1) ms.tail aos' σ1 F1 F' S1 S' _ w' hl' haos (by rw[aDi];exact hn) hF1 hE1.rep h2 (fun σ' a' w'' q1 q2 q3 q4=>hQ σ' a' w'' q1 q2 (by rw[q3,put_defers]) (hE1.trans q4))
   ·rename_i hw;rw[if_neg hw];cases h1;refine⟨fun _ _=>trivial,?_⟩;have hund:Rv P σ .undef undef:=by simp only[AV.undef,undef,Rv];exact⟨[],rfl,cT.2 rfl⟩
    exact sF hA hB hcall l (k+1) ms.tail aos' σ _ F' S S' _ w hl' haos (by rw[aDi];exact hn) (by rw[hdst];exact hF.put hd' hund) hR h2 (fun σ' a' w'' q1 q2 q3 q4=>hQ σ' a' w'' q1 q2 (by rw[q3,put_defers]) q4)
  ·cases hc
end Go.Ev
