import Derived.Test.YtiiplmagnlcpbaaGreatDoorEv4
import Derived.Laws.MakeOwn
import Derived.Lib.ConvBytes
import Derived.CallsIn
import Derived.Deep.Upon
import Derived.OrdersIn
import Derived.RangeFuncLeaves
import Derived.LoopNIn
import Derived.Laws.Externs
import Derived.KernelRfl
set_option linter.unusedSimpArgs false
set_option linter.unusedVariables false
namespace Go.Ev
variable {P:Program}{σ:Env}{S:St}{w:World}
def aB9(P:Program)(σ:Env)(w:World)(id:Nat)(v:AV)(bl:AB)(V:Value)(w':World):Prop:=
 ∃ob e,w'.heap=w.heap.push ob/\w'.os=w.os/\w'.tape=w.tape/\w'.output=w.output/\
  pZ P (upd σ id ⟨w.heap.size,0,e⟩) w' ⟨w.heap.size,0,e⟩ bl/\vD bl/\Rv P (upd σ id ⟨w.heap.size,0,e⟩) v V
theorem aCH{w':World}{C:Array Value}{t:TypeId}{fz:Nat×Nat}(hw:w'.heap=w.heap.push (.cells C t fz))(j:Nat):w'.cell? ⟨w.heap.size,j,none⟩=C[j]? :=by
 simp [World.cell?,hw]
theorem aGo{w':World}{C:Array Value}{t:TypeId}{fz:Nat×Nat}(hw:w'.heap=w.heap.push (.cells C t fz))(j:Nat)(h:¬ (fz.1<=j/\j<fz.2)):w'.frozen? ⟨w.heap.size,j,none⟩=false:=by
 simp [World.frozen?,hw];intro h1;omega
theorem sJ{w':World}{C:List Value}{X:List Value}{t:TypeId}{fz:Nat×Nat}{cs:bo}{o:Bool}{e s:Nat}(hw:w'.heap=w.heap.push (.cells (C++X).toArray t fz))(hfz:(C++X).length<=fz.1\/fz.1=fz.2)
  (hC:gP P σ cs C) (h1:∀u∈C,u.oneCell'=true) (hx:o=true->X.length=e * s):pZ P σ w' ⟨w.heap.size,0,e⟩ (.cells cs o s):=by
 refine⟨C,hC,h1,fun j v hv=>?_,fun j hj=>?_⟩
 ·rw[Au,aCH hw];have hj:=(Aj.1 hv).1;simp [Ay hj,hv]
 ·have hj':j<(C++X).length:=by
   rw[Ba];cases o
   ·simp at hj;omega
   ·have:=hx rfl;simp at hj;omega
  rw[Au,aCH hw];refine⟨?_,aGo hw j (by rcases hfz with h | h<;>omega)⟩;simp;simpa using hj'
theorem aHf{o:Oper}{t:TypeId}{cells:bo}{a:Act}(ho:o.op= .alloc t)(hz:jU P t=some cells)(id:Nat)(hid:σ id=none):
  ∃V w',(execOp a.eval o).run P w= .ok (.value V) w'/\aB9 P σ w id (.ptr id 0) (.cells cells false 0) V w':=by
 have⟨i,Z,hi,hZ,h1,h2⟩:=lS (σ:=upd σ id ⟨w.heap.size,0,0⟩) hz;refine⟨.pointer (some ⟨w.heap.size,0,none⟩),w.alloc (.cells Z.cells t),?_,⟨.cells Z.cells t,0,rfl,rfl,rfl,rfl,?_,trivial,?_⟩⟩
 ·simp [execOp,ho,Instr.alloc,tO hi hZ,newVar,newRow]
 ·refine sJ (X:=[]) (t:=t) (fz:=(0,0)) ?_ (.inr rfl) h1 h2 (by simp);show w.heap.push _=_;simp
 ·simp only[Rv];exact⟨_,upd_same _ _,by simp⟩
theorem aJR{o:Oper}{t:TypeId}{x:Operand}{X:cL}{F:Fr}{a:Act}(ho:o.op= .box t x)(hX:eU P x=some X)(hF:oP P σ F a.tmps)(hR:jX P σ S w){cs:bo}(hcs:(X.val F).cells=some cs)(id:Nat)(hid:σ id=none):
  ∃V w',(execOp a.eval o).run P w= .ok (.value V) w'/\aB9 P σ w id (.ptr id 0) (.cells cs false 0) V w':=by
 have hx:=(bI hF hR hX).mono (gE (L:=⟨w.heap.size,0,0⟩) hid);have⟨h1,h2⟩:=aAj hx hcs;refine⟨.pointer (some ⟨w.heap.size,0,none⟩),w.alloc (.cells (a.eval x).cells t),?_,⟨.cells (a.eval x).cells t,0,rfl,rfl,rfl,rfl,?_,trivial,?_⟩⟩
 ·simp [execOp,ho,Instr.box,newVar,newRow]
 ·refine sJ (X:=[]) (t:=t) (fz:=(0,0)) ?_ (.inr rfl) h1 h2 (by simp);show w.heap.push _=_;simp
 ·simp only[Rv];exact⟨_,upd_same _ _,by simp⟩
theorem aHp{o:Oper}{t:TypeId}{a:Act}(ho:o.op= .makeMap t none)(id:Nat):
  ∃V w',(execOp a.eval o).run P w= .ok (.value V) w'/\aB9 P σ w id (.map id) (.map []) V w':=by
 refine⟨.map (some w.heap.size),w.alloc (.map #[] 0),?_,⟨.map #[] 0,0,rfl,rfl,rfl,rfl,?_,trivial,?_⟩⟩
 ·simp [execOp,ho,Instr.makeMap]
 ·refine⟨#[],0,?_,rfl⟩;show(w.heap.push _)[w.heap.size]? =_;simp
 ·simp only[Rv];exact⟨_,upd_same _ _,rfl⟩
theorem aBK{F:Fr}{a:Act}{size:Nat}(hF:oP P σ F a.tmps)(hR:jX P σ S w):∀ {ps:List (Nat×Operand)} {qs:List (Nat×cL)},xS P ps=some qs->
  (ps.map fun p=>(p.1,a.eval p.2)).length=(kK size F qs).length/\
  ∀ (j i:Nat) (V:Value) (off n:Nat) (v:AV),(ps.map fun p=>(p.1,a.eval p.2))[j]? =some (i,V)->(kK size F qs)[j]? =some (off,n,v)->(fun i=>some (i * size,size)) i=some (off,n)/\Rv P σ v V
 | [],qs,h=>by
  simp only[xS,Al] at h;subst h;exact⟨rfl,fun j i V off n v h1=>by simp at h1⟩
 | (i,x)::ps,qs,h=>by
  simp only[xS] at h;split at h
  ·rename_i X qs' hx hqs;cases h;have⟨h1,h2⟩:=aBK (size:=size) hF hR hqs;refine⟨by simp [kK] at h1 ⊢;exact h1,fun j i' V off' n' v hj1 hj2=>?_⟩;cases j with
   | zero=>
    simp only[Fj,List.getElem?_cons_zero,kK,Al,Prod.mk.injEq] at hj1 hj2;obtain⟨rfl,rfl⟩:=hj1;obtain⟨rfl,rfl,rfl⟩:=hj2;exact⟨rfl,bI hF hR hx⟩
   | succ j=>
    simp only[Fj,Ft,kK] at hj1 hj2;exact h2 j i' V off' n' v hj1 hj2
  ·cases h
theorem lC(Z:List Value):∀n:Nat,(List.range (n * Z.length)).map (fun i=>Z[i % Z.length]!)=repeatL Z n
 | 0=>by simp [uX]
 | n+1=>by
  rw[Nat.succ_mul,Fm,List.range_add,List.map_append,jP];congr 1
  ·apply List.ext_getElem
   ·simp
   ·intro j h1 h2;simp only[Bc,Cq] at h1;simp [Ek h1,List.getElem!_eq_getElem?_getD,h1]
  ·rw[<-lC Z n,List.map_map];apply Fz;intro j _;simp
theorem uK{z:bo}{Z:List Value}(h:gP P σ z Z):∀n,gP P σ (repeatL z n) (repeatL Z n)
 | 0=>cJ.2 rfl
 | n+1=>by rw[jP,jP];exact h.append (uK h n)
theorem pS{Z:List Value}(h:∀u∈Z,u.oneCell'=true):∀n,∀u∈repeatL Z n,u.oneCell'=true
 | 0,u,hu=>by simp [uX] at hu
 | n+1,u,hu=>by
  rw[jP] at hu;rcases Ct.1 hu with hu | hu
  ·exact h u hu
  ·exact pS h n u hu
theorem mJ{t e:TypeId}{i:TypeInfo}(h:lE P t=some (e,i)):P.underlying t=some (.slice e)/\P.info? e=some i:=by
 unfold lE at h;split at h
 ·rename_i e' hu;have⟨i',hi,h2⟩:=An.1 h;cases h2;exact⟨hu,hi⟩
 ·cases h
theorem mQ{e:TypeId}{i:TypeInfo}{z:bo}(hi:P.info? e=some i)(h:kA P e i=some z):
  ∃Z,i.zero=some Z/\gP P σ z Z.cells.toList/\(∀u∈Z.cells.toList,u.oneCell'=true)/\Z.cells.size=i.size/\z.length=i.size:=by
 unfold kA at h;split at h
 ·rename_i z' hz;rw[Aw] at h;split at h
  ·rename_i hn;rw[Av] at hn;cases h;have⟨i',Z,hi',hZ,h1,h2⟩:=lS (σ:=σ) hz;rw[hi] at hi';cases hi';exact⟨Z,hZ,h1,h2,by have:=h1.length;simp at this;omega,hn⟩
  ·cases h
 ·cases h
theorem aFO{o:Oper}{t e:TypeId}{i:TypeInfo}{n:Nat}{ps:Array (Nat×Operand)}{qs:List (Nat×cL)}{z:bo}{F:Fr}{a:Act}(ho:o.op= .buildSlice t n ps)(he:lE P t=some (e,i))
  (hn:n * i.size<=65536) (hz:kA P e i=some z) (hq:xS P ps.toList=some qs) (hF:oP P σ F a.tmps) (hR:jX P σ S w) (id:Nat) (hid:σ id=none)
  {cs:bo} (h:iJ (repeatL z n) (kK i.size F qs)=some cs):
  ∃V w',(execOp a.eval o).run P w= .ok (.value V) w'/\aB9 P σ w id (.sl id 0 n n false) (.cells cs false 0) V w':=by
 have⟨hu,hi⟩:=mJ he;have⟨Z,hZ,h1,h2,h3,h4⟩:=mQ (σ:=σ) hi hz;have⟨hl,hp⟩:=aBK (size:=i.size) hF hR hq;have⟨R,hR1,hR2,hR3⟩:=uD hl hp (uK h1 n) (pS h2 n) h;have hm:=gE (L:=⟨w.heap.size,0,0⟩) hid;have hpl:(ps.map fun(i,x)=>(i,a.eval x)).toList=ps.toList.map fun p=>(p.1,a.eval p.2):=by simp
 have hlim:¬ (n * i.size>2 ^ 24):=by
  have:(2:Nat) ^ 24=16777216:=rfl;omega
 refine⟨.slice (some ⟨w.heap.size,0,none⟩) n n,w.alloc (.cells ⟨R⟩ e),?_,⟨.cells ⟨R⟩ e,0,rfl,rfl,rfl,rfl,?_,trivial,?_⟩⟩
 ·by_cases h0:n * i.size=0
  ·have hrange:Array.range (n * i.size)= #[]:=by rw[h0];rfl
   have hlen:=repeatL_length Z.cells.toList n;simp only[Dt,h3,h0] at hlen;have hrep:=List.eq_nil_of_length_eq_zero hlen;rw[hrep] at hR1;simp only[execOp,ho,Instr.buildSlice,Sem.run_bind,run_underlying hu,Result.andThen_ok,sizeOf,typeInfo,run_program,hi,Sem.run_pure,if_neg hlim,hpl,if_pos h0,hrange,Array.map_empty,hR1,newRow,run_newObj];rfl
  ·have hrow:(Array.range (n * i.size)).map (Z.cells[· % Z.cells.size]!)=(⟨repeatL Z.cells.toList n⟩:Array Value):=by
    have:=lC Z.cells.toList n;simp only[Dt,h3] at this;apply Fv;simp only[El,Array.toList_range,h3];rw[<-this];apply Fz;intro j _;simp [Array.getElem!_eq_getD,Bg]
   simp only[execOp,ho,Instr.buildSlice,Sem.run_bind,run_underlying hu,Result.andThen_ok,sizeOf,typeInfo,run_program,hi,Sem.run_pure,if_neg hlim,hpl,if_neg h0,tO hi hZ,hrow,hR1,newRow,run_newObj];rfl
 ·refine sJ (X:=[]) (t:=e) (fz:=(0,0)) ?_ (.inr rfl) (hR2.mono hm) hR3 (by simp);show w.heap.push _=_;simp
 ·simp only[Rv];exact⟨_,upd_same _ _,by simp⟩
theorem aEt{o:Oper}{t e:TypeId}{i:TypeInfo}{lo co:Operand}{L C:cL}{z:bo}{F:Fr}{a:Act}(ho:o.op= .makeSlice t lo co)(he:lE P t=some (e,i))
  (hz:kA P e i=some z) (hL:eU P lo=some L) (hC:eU P co=some C) (hF:oP P σ F a.tmps) (hR:jX P σ S w) (id:Nat) (hid:σ id=none) {v:AV} {bl:AB}
  (h:xD e i.size i.bytes z L C F id=some (v,bl)):
  ∃V w',(execOp a.eval o).run P w= .ok (.value V) w'/\aB9 P σ w id v bl V w':=by
 have⟨hu,hi⟩:=mJ he;have⟨Z,hZ,h1,h2,h3,h4⟩:=mQ (σ:=σ) hi hz;have⟨l,hl,h⟩:=aA h;have⟨c,hc,h⟩:=aA h;have⟨hlc,h⟩:=bB h;have⟨hc1,h⟩:=bB h;have⟨hc2,h⟩:=bB h;cases h;have hlc:=Ar hlc;have hc1:=Ar hc1;have hc2:=Ar hc2;unfold room at hc1 hc2;have⟨kl,hkl⟩:=mF hl;have⟨kc,hkc⟩:=mF hc;have hl':=bI hF hR hL;have hc':=bI hF hR hC;rw[hkl] at hl';rw[hkc] at hc';simp only[Rv] at hl' hc';have hm:=gE (L:=⟨w.heap.size,0,0⟩) hid;have hrun:=run_make (P:=P) w t e i Z hu hi hZ kl kc (Int.ofNat l) (Int.ofNat c) (by simp) (by simpa using hlc) (by
  have:((i.bytes * c:Nat):Int)<=281474976710656:=by omega
  simpa using this) (by simp;omega)
 have hcells:madeCells Z.cells (c * i.size)=(⟨repeatL Z.cells.toList c⟩:Array Value):=by
  have:=lC Z.cells.toList c;simp only[Dt,h3] at this;apply Fv;simp only[madeCells,El,Array.toList_range,h3];rw[<-this];apply Fz;intro j _;simp [Array.getElem!_eq_getD,Bg]
 refine⟨.slice (some ⟨w.heap.size,0,none⟩) l c,w.alloc (.cells ⟨repeatL Z.cells.toList c⟩ e),?_,⟨.cells ⟨repeatL Z.cells.toList c⟩ e,0,rfl,rfl,rfl,rfl,?_,trivial,?_⟩⟩
 ·have ht1:(Int.ofNat l).toNat=l:=rfl;have ht2:(Int.ofNat c).toNat=c:=rfl;rw[ht1,ht2,hcells] at hrun;simp only[execOp,ho,hl',hc',Sem.run_bind,hrun,Result.andThen_ok,Sem.run_pure]
 ·refine sJ (X:=[]) (t:=e) (fz:=(0,0)) ?_ (.inr rfl) ((uK h1 c).mono hm) (pS h2 c) (by simp);show w.heap.push _=_;simp
 ·simp only[Rv];exact⟨_,upd_same _ _,by simp⟩
theorem vE(w:World)(e:TypeId)(s:ByteArray):(Lib.bytesWorld w e s).heap=w.heap.push (.cells (Lib.bytesCells w e s) e ((Lib.bytesCells w e s).size,(Lib.bytesCells w e s).size+1)):=by
 apply Array.ext_getElem?;intro j;by_cases h1:j<w.heap.size
 ·rw[Lib.bytesWorld_at_old w e s j h1,Gr,if_neg au]
 ·by_cases h2:j=w.heap.size
  ·subst h2;rw[Lib.bytesWorld_at_new,Array.getElem?_push_size]
  ·rw[Array.getElem?_eq_none (by rw[Lib.bytesWorld_size];omega),Array.getElem?_eq_none (by simp;omega)]
theorem qK(s:bt)(hb:Bytes s):Go.byteCells (dF s)=s.map fun b=>Value.int .u8 (Int.ofNat b):=by
 unfold Go.byteCells;simp only[dF,List.map_map];apply Fz;intro b hbm;show Value.int .u8 (((UInt8.ofNat b).toNat:Nat):Int)=_;rw[uG (hb b hbm)];rfl
theorem sE:∀ (s:bt),gP P σ (byteCells s) (s.map fun b=>Value.int .u8 (Int.ofNat b))
 | []=>cJ.2 rfl
 | b::s=>cG.2 ⟨_,_,rfl,by simp only[Rv],sE s⟩
theorem aDV{o:Oper}{src dst e:TypeId}{x:Operand}{xv:AV}{a:Act}(ho:o.op= .convert src dst x)(hs:P.underlying src=some .string)(hd:P.underlying dst=some (.slice e))(he:P.underlying e=some (.int .u8))
  (hx:Rv P σ xv (a.eval x)) (id:Nat) (hid:σ id=none) {v:AV} {bl:AB} (hv:sM xv id=some (v,bl)):∃V w',(execOp a.eval o).run P w= .ok (.value V) w'/\aB9 P σ w id v bl V w':=by
 cases xv<;>simp only[sM,reduceCtorEq,Al,Prod.mk.injEq] at hv;obtain⟨rfl,rfl⟩:=hv;rename_i s;simp only[Rv] at hx;have⟨hx,hb⟩:=hx;have hrun:=Lib.run_convert_string_bytes (P:=P) w src dst e (dF s) hs hd he;have hge:=grownCap_ge w (dF s).size 0 e;rw[gQ] at hrun hge;refine⟨_,_,by simp only[execOp,ho,hx,Sem.run_bind,hrun,Result.andThen_ok,Sem.run_pure];rfl,?_⟩;refine⟨_,grownCap w s.length 0 e - s.length,vE w e (dF s),?_,?_,?_,?_,trivial,?_⟩
 ·simp [Lib.bytesWorld,World.freeze,World.alloc,World.drew, -World.alloc_eq, -World.drew_eq]
 ·simp [Lib.bytesWorld,World.freeze,World.alloc,World.drew, -World.alloc_eq, -World.drew_eq]
 ·simp [Lib.bytesWorld,World.freeze,World.alloc,World.drew, -World.alloc_eq, -World.drew_eq]
 ·have hcells:Lib.bytesCells w e (dF s)=((s.map fun b=>Value.int .u8 (Int.ofNat b))++List.replicate (grownCap w s.length 0 e - s.length) (Value.int .u8 0)).toArray:=by
   apply Fv;unfold Lib.bytesCells;rw[gQ];simp only[Array.toList_append,El,Array.toList_replicate];congr 1;exact qK s hb
  have hw:=vE w e (dF s);rw[hcells] at hw;refine sJ (s:=1) hw (.inl ?_) (sE s) (fun u hu=>?_) (fun _=>?_)
  ·simp
  ·obtain⟨_,_,rfl⟩:=Ga.1 hu;rfl
  ·simp
 ·simp only[Rv];refine⟨_,upd_same _ _,?_⟩;rw[eQ];simp only[Ck,Bi];congr 1;omega
end Go.Ev
namespace Go.Ev
variable {P:Program}{σ:Env}{S:St}{w:World}
theorem aEB{o:Oper}{ao:vH}(hc:pI P o.op=some (.a ao)){F:Fr}{a:Act}(hF:oP P σ F a.tmps)(hR:jX P σ S w)(id:Nat)(hid:σ id=none){v:AV}{bl:AB}(hv:vC ao F id=some (v,bl)):
  ∃V w',(execOp a.eval o).run P w= .ok (.value V) w'/\aB9 P σ w id v bl V w':=by
 have⟨dst,op,type,pos,after,guard⟩:=o;simp only at hc;cases op<;>(try (first | (have⟨y,_,h2⟩:=cD hc;cases h2;done) | (have⟨y,_,h2⟩:=fH hc;cases h2;done) | (cases hc;done)))
 case alloc t=>
  have⟨y,h1,h2⟩:=jO hc;cases h2;have⟨z,hz,h1⟩:=aT h1;cases h1;cases hv;exact aHf rfl hz id hid
 case box t x=>
  have⟨y,h1,h2⟩:=jO hc;cases h2;have⟨X,hX,h1⟩:=aT h1;cases h1;have⟨cs,h3,h4⟩:=aA (show(aU (X.val F).cells fun cs=>some (AV.ptr id 0,AB.cells cs false 0))=some (v,bl) from hv);cases h4;exact aJR rfl hX hF hR h3 id hid
 case build t ps=>
  simp only[pI] at hc;split at hc
  ·rw[Aw] at hc;split at hc
   ·have⟨y,_,h2⟩:=cD hc;cases h2
   ·cases hc
  ·have⟨y,_,h2⟩:=cD hc;cases h2
  ·cases hc
 case buildSlice t n ps=>
  have⟨y,h1,h2⟩:=jO hc;cases h2;have⟨⟨e,i⟩,he,h1⟩:=aT h1;simp only at h1;split at h1
  ·cases h1
  ·rename_i hn;have⟨z,hz,h1⟩:=aT h1;have⟨qs,hq,h1⟩:=aT h1;cases h1;have⟨cs,h3,h4⟩:=aA (show(aU (iJ (repeatL z n) (kK i.size F qs)) fun cs=>some (AV.sl id 0 n n false,AB.cells cs false 0))=some (v,bl) from hv);cases h4;exact aFO rfl he au hz hq hF hR id hid h3
 case makeSlice t l c=>
  have⟨y,h1,h2⟩:=jO hc;cases h2;have⟨⟨e,i⟩,he,h1⟩:=aT h1;have⟨z,hz,h1⟩:=aT h1;have⟨L,hL,h1⟩:=aT h1;have⟨C,hC,h1⟩:=aT h1;cases h1;exact aEt rfl he hz hL hC hF hR id hid hv
 case makeMap t r=>
  cases r<;>simp only[pI,reduceCtorEq] at hc;have⟨y,h1,h2⟩:=jO hc;cases h2;cases h1;cases hv;exact aHp rfl id
 case insert t m k x=>
  simp only[pI] at hc;split at hc
  ·have⟨y,_,h2⟩:=fH hc;cases h2
  ·cases hc
 case mapUpdate t m k x=>
  simp only[pI] at hc;split at hc
  ·have⟨y,_,h2⟩:=fH hc;cases h2
  ·cases hc
 case convert src dst x=>
  simp only[pI] at hc;split at hc
  ·have⟨y,_,h2⟩:=cD hc;cases h2
  ·have⟨y,_,h2⟩:=cD hc;cases h2
  ·have⟨y,_,h2⟩:=cD hc;cases h2
  ·split at hc
   ·have⟨y,_,h2⟩:=cD hc;cases h2
   ·cases hc
  ·rename_i e hs hd;split at hc
   ·rename_i he;have⟨y,h1,h2⟩:=jO hc;cases h2;have⟨X,hX,h1⟩:=aT h1;cases h1;exact aDV rfl hs hd he (bI hF hR hX) id hid hv
   ·cases hc
  ·cases hc
 case makeInterface t x=>
  simp only[pI] at hc;split at hc
  ·cases hc
  ·have⟨y,_,h2⟩:=cD hc;cases h2
  ·cases hc
 case makeFunc fn x y=>
  cases fn<;>(try (first | (have⟨y,_,h2⟩:=cD hc;cases h2;done) | (cases hc;done)));simp only[pI] at hc;split at hc
  ·have⟨y,_,h2⟩:=cD hc;cases h2
  ·cases hc
 case slice t x lo hh mx=>
  simp only[pI,Aw] at hc;split at hc
  ·cases hc
  ·split at hc
   ·have⟨y,_,h2⟩:=cD hc;cases h2
   ·have⟨y,_,h2⟩:=cD hc;cases h2
   ·have⟨y,_,h2⟩:=cD hc;cases h2
   ·cases hc
 case fieldAddr t x f=>
  simp only[pI] at hc;split at hc
  ·have⟨y,_,h2⟩:=cD hc;cases h2
  ·cases hc
 case field t x f=>
  simp only[pI] at hc;split at hc
  ·have⟨y,_,h2⟩:=cD hc;cases h2
  ·cases hc
 case indexAddr t x f=>
  simp only[pI] at hc;split at hc
  ·have⟨y,_,h2⟩:=cD hc;cases h2
  ·have⟨y,_,h2⟩:=cD hc;cases h2
  ·cases hc
 case index t x f=>
  simp only[pI] at hc;split at hc
  ·have⟨y,_,h2⟩:=cD hc;cases h2
  ·have⟨y,_,h2⟩:=cD hc;cases h2
  ·cases hc
 case lookup t x f ok=>
  simp only[pI] at hc;split at hc
  ·have⟨y,_,h2⟩:=cD hc;cases h2
  ·cases hc
 case typeAssert x xt t ok=>
  simp only[pI] at hc;split at hc
  ·cases hc
  ·have⟨y,_,h2⟩:=cD hc;cases h2
  ·cases hc
 case call c=>
  have⟨callee,args,argTypes⟩:=c;cases callee with
  | value f=>
   simp only[pI] at hc;split at hc
   ·have⟨y,_,h2⟩:=fH hc;cases h2
   ·have⟨y,_,h2⟩:=fH hc;cases h2
  | invoke r m=>have⟨y,_,h2⟩:=fH hc;cases h2
  | builtin b=>
   simp only[pI] at hc;split at hc
   ·split at hc
    all_goals (first | (have⟨y,_,h2⟩:=cD hc;cases h2;done) | (cases hc;done))
   ·split at hc
    all_goals (first | (have⟨y,_,h2⟩:=cD hc;cases h2;done) | (cases hc;done))
   ·have⟨y,_,h2⟩:=cD hc;cases h2
   ·have⟨y,_,h2⟩:=cD hc;cases h2
   ·split at hc
    ·rw[Aw] at hc;split at hc
     ·have⟨y,_,h2⟩:=fH hc;cases h2
     ·cases hc
    ·cases hc
   ·split at hc
    ·have⟨y,_,h2⟩:=fH hc;cases h2
    ·cases hc
   ·have⟨_,_,_,_,_,_,_,_,_,_,_,_,_,_,h2⟩:=zS hc;cases h2
theorem heap_setCells_other(g:Nat):∀ (vs:List Value) (o:Nat) (w:World) (r:Nat),r≠g->(w.setCells g o vs).heap[r]? =w.heap[r]?
 | [],o,w,r,h=>rfl
 | v::vs,o,w,r,h=>by
  rw[World.setCells,heap_setCells_other g vs (o+1) _ r h];exact heap_setCell_other w ⟨g,o,none⟩ r v h
theorem size_setCells(g:Nat):∀ (vs:List Value) (o:Nat) (w:World),(w.setCells g o vs).heap.size=w.heap.size
 | [],o,w=>rfl
 | v::vs,o,w=>by rw[World.setCells,size_setCells g vs (o+1)];simp
theorem os_setCells(g:Nat):∀ (vs:List Value) (o:Nat) (w:World),(w.setCells g o vs).os=w.os/\(w.setCells g o vs).tape=w.tape/\(w.setCells g o vs).output=w.output
 | [],o,w=>⟨rfl,rfl,rfl⟩
 | v::vs,o,w=>by rw[World.setCells];exact os_setCells g vs (o+1) _
theorem qU(hR:jX P σ S w){b off:Nat}{cs:bo}{Cs:List Value}(hC:gP P σ cs Cs)(h1:∀u∈Cs,u.oneCell'=true){S':St}(h:lN S b off cs=some S'):
  ∃L,σ b=some L/\w.there L.r (L.d+off) Cs.length/\gH P σ S w σ S' (w.setCells L.r (L.d+off) Cs):=by
 have⟨bl,hb,h⟩:=aA h;cases bl<;>simp only[qA,reduceCtorEq] at h;rename_i old o s;have⟨cs',hput,h⟩:=aA h;cases h;have⟨L,hL,hlt,Os,h2,h3,h4,h5⟩:=hR.blk b _ hb;have hle:=(aAB hput).1;have hlen:=h2.length;have hcl:=hC.length;have hth:w.there L.r (L.d+off) Cs.length:=fun j hj=>by
  have:=h5 (off+j) au
  rwa [<-Co] at this
 refine⟨L,hL,hth,?_⟩;have⟨e1,e2,e3⟩:=os_setCells L.r Cs (L.d+off) w;have hput':=h2.put hC hput;refine gH.write hR hb trivial trivial hL (fun r hr=>heap_setCells_other L.r Cs _ w r hr) (size_setCells L.r Cs _ w) e1 e2 e3 ?_;refine⟨Os.take off++Cs++Os.drop (off+Cs.length),hput',fun u hu=>?_,fun j v hv=>?_,fun j hj=>?_⟩
 ·simp only[Ct] at hu;rcases hu with(hu | hu) | hu
  ·exact h3 u (Ej hu)
  ·exact h1 u hu
  ·exact h3 u (Dh hu)
 ·have hget:(Os.take off++Cs++Os.drop (off+Cs.length))[j]? =if j<off then Os[j]? else if j<off+Cs.length then Cs[j - off]? else Os[j]? :=
   aNK (l:=Os) (vs:=Cs) (k:=off) (by rw[put_eq,if_pos au]) j
  rw[hget] at hv;split at hv
  ·rename_i hlt1;rw[World.cell?_setCells_out L.r Cs (L.d+off) w _ (fun _ _=>.inl (by simp only;omega))];exact h4 j v hv
  ·split at hv
   ·rename_i h6 h7;have:=World.cell?_setCells_in L.r Cs (L.d+off) w (fun k hk=>(hth k hk).1) (j - off) au;rw[show L.d+off+(j - off)=L.d+j by omega] at this;rw[this];rw[Ad au] at hv;exact hv
   ·rename_i h6 h7;rw[World.cell?_setCells_out L.r Cs (L.d+off) w _ (fun _ _=>.inr (by simp only;omega))];exact h4 j v hv
 ·have hj':j<Os.length+if o=true then L.e * s else 0:=by
   have:(Os.take off++Cs++Os.drop (off+Cs.length)).length=Os.length:=by simp;omega
   rw[this] at hj;exact hj
  have:=h5 j hj';exact⟨World.isSome_setCells L.r Cs (L.d+off) w _ this.1,by rw[World.frozen?_setCells];exact this.2⟩
end Go.Ev
namespace Go.Ev
variable {P:Program}{σ:Env}{S:St}{w:World}
theorem aKR{u:TypeId}{i:TypeInfo}(hu:aN5 P u i=true)(hR:jX P σ S w){x:AV}{X:Value}(hx:Rv P σ x X){n:Nat}{new:bo}(hn:yT x=some n)(hs:fE x S.h i.size n=some new):
  ∃News,Src P i.size u X n News w/\gP P σ new News:=by
 have hkind:(∃e',P.underlying u=some (.slice e'))\/P.underlying u=some .string:=by
  unfold aN5 at hu;split at hu
  ·exact .inl ⟨_, ‹_›⟩
  ·exact .inr ‹_›
  ·cases hu
 cases x<;>simp only[yT,reduceCtorEq,Al] at hn<;>simp only[fE] at hs<;>simp only[Rv] at hx
 ·obtain⟨rfl,hb⟩:=hx;rename_i s;rw[eQ] at hn;subst hn;have⟨h0,hs⟩:=bB hs;rw[Av] at h0;have⟨r,h1,h2⟩:=aA hs;cases h2;rw[jY,if_pos (Af _),Dw] at h1;cases h1;refine⟨s.map fun b=>Value.int .u8 (Int.ofNat b),⟨hkind,fun _=>by simp [Builtin.lenOf,gQ],?_,?_,by simp [h0],fun u hu=>by obtain⟨_,_,rfl⟩:=Ga.1 hu;rfl⟩,sE s⟩
  ·rw[h0,<-qK s hb];have:=firstCells_string (P:=P) (dF s) w;rw[gQ] at this;exact this
  ·rw[h0,<-qK s hb];have:=firstCells_string (P:=P) (dF s) w.drew;rw[gQ] at this;exact this
 ·obtain⟨L,hL,rfl⟩:=hx;subst hn;have⟨L',Cs,hL',h3,h4,h5,h6⟩:=uP hR hs;rw[hL] at hL';cases hL';have hcell:∀j u,Cs[j]? =some u->w.cell? ((⟨L.r,L.d+_,none⟩:Addr).add j)=some u:=fun j u hu=>by rw[Addr.add_mid];exact h6 j u hu
  exact⟨Cs,⟨hkind,fun _=>rfl,run_firstCells_some w _ _ _ _ _ Cs h4 hcell,run_firstCells_some w.drew _ _ _ _ _ Cs h4 (by simpa using hcell),h4,h5⟩,h3⟩
 ·subst hx;subst hn;have⟨_,hs⟩:=bB hs;cases hs;exact⟨[],⟨hkind,fun _=>rfl,run_firstCells_none w _ _ _ _,run_firstCells_none w.drew _ _ _ _,by simp,fun _ h=>by cases h⟩,cJ.2 rfl⟩
 ·obtain⟨A,c,rfl⟩:=hx;subst hn;have⟨_,hs⟩:=bB hs;cases hs;exact⟨[],⟨hkind,fun _=>rfl,run_firstCells_some w _ _ _ _ _ [] (by simp) (fun j u h=>by simp at h),run_firstCells_some w.drew _ _ _ _ _ [] (by simp) (fun j u h=>by simp at h),by simp,fun _ h=>by cases h⟩,cJ.2 rfl⟩
theorem rQ{t u ty e:TypeId}{i:TypeInfo}{Z:Value}(ht:P.underlying t=some (.slice e))(hi:P.info? e=some i)(hZ:i.zero=some Z)(hzs:Z.cells.size=i.size)(hR:jX P σ S w)
  {base:Option Addr} {sLen sCap n:Nat} {old new:bo} {Olds News:List Value} (hO:gP P σ old Olds) (hO1:∀u∈Olds,u.oneCell'=true) (hOl:Olds.length=sLen * i.size)
  (hold:(Builtin.firstCells i.size sLen (.slice base sLen sCap)).run P w.drew= .ok Olds.toArray w.drew) {X:Value} (hs:Src P i.size u X n News w) (hN:gP P σ new News)
  (hg:sCap<sLen+n) (h1:sLen+n<=room) (h2:(sLen+n) * i.bytes<=room):
  ∃V w' σ',(Builtin.append_ #[t,u] ty #[.slice base sLen sCap,X]).run P w= .ok V w'/\Rv P σ' (.sl S.nx 0 (sLen+n) (sLen+n) true) V/\
   gH P σ S w σ' ⟨S.h.set S.nx (some (.cells (qP old new) true i.size)),Nat.succ S.nx⟩ w':=by
 unfold room at h1 h2;have hrun:=run_append_grow_src w t u ty e i Z ht hi hZ base sLen sCap Olds hold X n News hs hg au (growslice_fits hg au);have hge:=grownCap_ge w (sLen+n) sCap e;generalize hcap:grownCap w (sLen+n) sCap e=cap at hrun hge;have hid:=hR.fresh S.nx (Af _);refine⟨_,_,upd σ S.nx ⟨w.heap.size,0,cap - (sLen+n)⟩,hrun,?_,?_⟩
 ·simp only[Rv];refine⟨_,upd_same _ _,?_⟩;simp only[Ck,Bi];congr 1;omega
 ·refine gH.alloc hR (ob:=.cells ((Olds++News).toArray++Builtin.zeroCells Z.cells (cap - (sLen+n))) e) rfl rfl rfl rfl ?_ trivial;refine sJ (C:=Olds++News) (X:=(Builtin.zeroCells Z.cells (cap - (sLen+n))).toList) (t:=e) (fz:=(0,0)) ?_ (.inr rfl) ?_ ?_ (fun _=>?_)
  ·show w.heap.push _=_;congr 2;apply Fv;simp
  ·rw[fB];exact(hO.append hN).mono (gE hid)
  ·intro u hu;rcases Ct.1 hu with hu | hu
   ·exact hO1 u hu
   ·exact hs.one u hu
  ·simp [Builtin.zeroCells,hzs]
theorem aFL{t u ty e:TypeId}{i:TypeInfo}{z:bo}(he:lE P t=some (e,i))(hu:aN5 P u i=true)(hz:kA P e i=some z)(hR:jX P σ S w)
  {s x:AV} {Sv X:Value} (hs:Rv P σ s Sv) (hx:Rv P σ x X) {v:AV} {S':St} (h:iK i.bytes i.size s x S=some (v,S')):
  ∃V w' σ',(Builtin.append_ #[t,u] ty #[Sv,X]).run P w= .ok V w'/\Rv P σ' v V/\gH P σ S w σ' S' w':=by
 have⟨ht,hi⟩:=mJ he;have⟨Z,hZ,_,_,hzs,_⟩:=mQ (σ:=σ) hi hz;have⟨n,hn,hh⟩:=aA h;clear h;have⟨new,hnew,h⟩:=aA hh;clear hh;have⟨News,hsrc,hN⟩:=aKR hu hR hx hn hnew;have hnl:=hsrc.newsLen;have hnothing:n=0->Src P i.size u X 0 [] w:=fun h0=>by
  subst h0;have:News= []:=List.eq_nil_of_length_eq_zero (by simpa using hnl);subst this;exact hsrc
 cases s<;>simp only[aAo,reduceCtorEq] at h
 case cd=>
  simp only[Rv] at hs;subst hs;unfold nV at h;rw[bO] at h;split at h
  ·rename_i h0;rw[Av] at h0;cases h;exact⟨_,w,σ,run_append_nothing w t u ty e i ht hi none 0 0 (Af _) X (hnothing h0),by simp only[Rv],gH.refl hR⟩
  ·rename_i h0;rw[Av] at h0;have⟨h1,h⟩:=bB h;have⟨h2,h⟩:=bB h;cases h;have h1:=Ar h1;have h2:=Ar h2;have:=rQ (ty:=ty) ht hi hZ hzs hR (base:=none) (sLen:=0) (sCap:=0) (old:=[]) (Olds:=[]) (cJ.2 rfl) (by simp) (by simp) (run_firstCells_none w.drew _ _ _ _) hsrc hN au (by simpa using h1) (by simpa using h2);simpa [fB] using this
 case emp=>
  simp only[Rv] at hs;obtain⟨A,c,rfl⟩:=hs;have⟨h0,h⟩:=bB h;rw[Av] at h0;cases h;exact⟨_,w,σ,run_append_nothing w t u ty e i ht hi (some A) 0 c (Ey _) X (hnothing h0),by simp only[Rv];exact⟨A,c,rfl⟩,gH.refl hR⟩
 case sl b off len cap o=>
  have hs':=hs;simp only[Rv] at hs;obtain⟨L,hL,rfl⟩:=hs;unfold tP at h;rw[bO] at h;split at h
  ·rename_i hfit;have hfit:=Ar hfit;have hcap:len+n<=if o=true then cap+L.e else cap:=by split<;>omega
   rw[bO] at h;split at h
   ·rename_i h0;rw[Av] at h0;cases h;exact⟨_,w,σ,run_append_nothing w t u ty e i ht hi _ len _ au X (hnothing h0),hs',gH.refl hR⟩
   ·have⟨S1,hst,h⟩:=aA h;cases h;have⟨L',hL',hth,hext⟩:=qU hR hN hsrc.one hst;rw[hL] at hL';cases hL';have hrun:=run_append_room_src w t u ty e i ht hi L.r (L.d+off) len (if o=true then cap+L.e else cap) X n News hsrc hcap
     (fun j hj=>by have:=(hth j hj).1;rwa [show L.d+off+len * i.size=L.d+(off+len * i.size) by omega])
     (fun j hj=>by have:=(hth j hj).2;rwa [show L.d+off+len * i.size=L.d+(off+len * i.size) by omega])
    refine⟨_,_,σ,hrun,by simp only[Rv];exact⟨L,hL,rfl⟩,?_⟩;rw[show L.d+off+len * i.size=L.d+(off+len * i.size) by omega];exact hext
  ·rename_i hfit;rw[Gp] at hfit;have⟨h1,h⟩:=bB h;have⟨h2,h⟩:=bB h;have⟨bl,hb,h⟩:=aA h;have h1:=Ar h1;have h2:=Ar h2;have⟨L',hL',hLr,hblk⟩:=hR.blk b bl hb;rw[hL] at hL';cases hL';have hold:∀ (cs:bo) (Cs:List Value),gP P σ cs Cs->(∀u∈Cs,u.oneCell'=true)->w.rangeAt L.r L.d Cs->∀old,cut cs off (len * i.size)=some old->
     ∃Olds,gP P σ old Olds/\(∀u∈Olds,u.oneCell'=true)/\Olds.length=len * i.size/\w.rangeAt L.r (L.d+off) Olds/\Olds=(Cs.drop off).take (len * i.size)/\
      ∀c,(Builtin.firstCells i.size len (.slice (some ⟨L.r,L.d+off,none⟩) len c)).run P w.drew= .ok Olds.toArray w.drew:=by
    intro cs Cs hC hC1 hC2 old hcut;have hc:=hC.cut hcut;have hr:=aEA (i:=off) (n:=len * i.size) hC2;exact⟨_,hc.1,fun u hu=>hC1 u (Dh (Ej hu)),hc.2,hr,rfl,fun c=>run_firstCells_some w.drew _ _ _ _ _ _ hc.2 (fun j u hu=>by
     rw[Addr.add_mid];simpa using hr j u hu)⟩
   cases bl<;>simp only[aEz,reduceCtorEq] at h
   ·rename_i cs o' sz;have⟨Cs,hC,hC1,hC2,hC3⟩:=hblk;have⟨old,hcut,h⟩:=aA h;have⟨Olds,hO,hO1,hOl,hO2,hOe,hOf⟩:=hold cs Cs hC hC1 hC2 old hcut;cases o with
    | false=>
     rw[aS] at h;cases h;simp only[Ao,Bm];exact rQ ht hi hZ hzs hR hO hO1 hOl (hOf cap) hsrc hN au h1 h2
    | true=>
     rw[aP] at h;have⟨ho',g1⟩:=bB h;have⟨hsz,g2⟩:=bB g1;have⟨hend,g3⟩:=bB g2;clear h g1 g2;subst ho';rw[Av] at hsz hend;rw[eQ] at hend;subst hsz;cases g3;simp only[Ck];have hCl:=hC.length;by_cases hin:len+n<=cap+L.e
     ·-- in place
      have hthere:∀j,j<News.length->(w.cell? ⟨L.r,L.d+off+len * i.size+j,none⟩).isSome=true/\w.frozen? ⟨L.r,L.d+off+len * i.size+j,none⟩=false:=by
       intro j hj;have hb1:off+len * i.size+j<Cs.length+L.e * i.size:=by
        have e1:(len+n) * i.size<=(cap+L.e) * i.size:=Aq _ hin;rw[Cb,Cb] at e1;omega
       have:=hC3 (off+len * i.size+j) (by simpa using hb1)
       rwa [show L.d+(off+len * i.size+j)=L.d+off+len * i.size+j by omega] at this
      have hrun:=run_append_room_src w t u ty e i ht hi L.r (L.d+off) len (cap+L.e) X n News hsrc hin (fun j hj=>(hthere j hj).1) (fun j hj=>(hthere j hj).2);have hid:=hR.fresh S.nx (Af _);refine⟨_,_,upd σ S.nx ⟨L.r,L.d+off,cap+L.e - (len+n)⟩,hrun,?_,?_⟩
      ·simp only[Rv];refine⟨_,upd_same _ _,?_⟩;simp only[Ck,Bi];congr 1;omega
      ·have⟨e1,e2,e3⟩:=os_setCells L.r News (L.d+off+len * i.size) w;refine gH.rename hR hb trivial trivial hL rfl (fun r hr=>heap_setCells_other L.r News _ w r hr) (size_setCells L.r News _ w) e1 e2 e3 ?_;refine⟨Olds++News,?_,?_,fun j v hv=>?_,fun j hj=>?_⟩
       ·rw[fB];exact(hO.append hN).mono (gE hid)
       ·intro u hu;rcases Ct.1 hu with hu | hu
        ·exact hO1 u hu
        ·exact hsrc.one u hu
       ·by_cases hj:j<Olds.length
        ·rw[Ay hj] at hv;rw[World.cell?_setCells_out L.r News _ w _ (fun _ _=>.inl (by simp only;omega))];exact hO2 j v hv
        ·rw[Az au] at hv;have hj2:=(Aj.1 hv).1;have:=World.cell?_setCells_in L.r News (L.d+off+len * i.size) w (fun k hk=>(hthere k hk).1) (j - Olds.length) hj2;rw[show L.d+off+len * i.size+(j - Olds.length)=L.d+off+j by omega] at this;simp only;rw[this];rw[Ad hj2] at hv;exact hv
       ·have e4:(len+n) * i.size+(cap+L.e - (len+n)) * i.size=(cap+L.e) * i.size:=by rw[<-Cb];congr 1;omega
        have e5:(len+n) * i.size=len * i.size+n * i.size:=Cb _ _ _;have e6:(cap+L.e) * i.size=cap * i.size+L.e * i.size:=Cb _ _ _;simp only[Ba,Ck] at hj;have:=hC3 (off+j) (by simp only[Ck];omega);rw[<-Co] at this;exact⟨World.isSome_setCells L.r News _ w _ this.1,by rw[World.frozen?_setCells];exact this.2⟩
     ·-- a new row;the old name is given up
      have hdrop:=gH.drop hR b;have⟨V,w',σ',h5,h6,h7⟩:=rQ (S:=⟨S.h.set b none,S.nx⟩) (ty:=ty) ht hi hZ hzs hdrop.rep hO hO1 hOl (hOf (cap+L.e)) hsrc hN au h1 h2;exact⟨V,w',σ',h5,h6,hdrop.trans h7⟩
   ·rename_i cs;have⟨Cs,hC,hC1,hC2⟩:=hblk;cases o with
    | true=>simp [aP] at h
    | false=>
     rw[aS] at h;have⟨old,hcut,h⟩:=aA h;have⟨Olds,hO,hO1,hOl,hO2,hOe,hOf⟩:=hold cs Cs hC hC1 hC2 old hcut;cases h;simp only[Ao,Bm];exact rQ ht hi hZ hzs hR hO hO1 hOl (hOf cap) hsrc hN au h1 h2
theorem aIK{t u ty e:TypeId}{i:TypeInfo}(he:lE P t=some (e,i))(hR:jX P σ S w){d x:AV}{Dv X:Value}(hd:Rv P σ d Dv)(hx:Rv P σ x X){v:AV}{S':St}(h:aU (zR x) (fun m=>copyV d i.size m x S)=some (v,S')):
  ∃V w',(Builtin.copy_ #[t,u] ty #[Dv,X]).run P w= .ok V w'/\Rv P σ v V/\gH P σ S w σ S' w':=by
 have⟨ht,hi⟩:=mJ he;have⟨m,hm,hh⟩:=aA h;clear h;have h:=hh;clear hh;have hX:∃base c,X= .slice base m c:=by
  cases x<;>simp only[zR,reduceCtorEq,Al] at hm<;>simp only[Rv] at hx
  ·obtain⟨L,hL,rfl⟩:=hx;subst hm;exact⟨_,_,rfl⟩
  ·subst hx hm;exact⟨_,_,rfl⟩
  ·obtain⟨A,c,rfl⟩:=hx;subst hm;exact⟨_,_,rfl⟩
 have h0:∀a:Addr,(loadCells a 0).run P w= .ok #[] w:=fun a=>by simpa using run_loadCells_list (P:=P) w a [] (by simp)
 have nothing:∀ {base dl dc},Dv= .slice base dl dc->Nat.min m dl=0->(Builtin.copy_ #[t,u] ty #[Dv,X]).run P w= .ok (goInt 0) w:=by
  rintro base dl dc rfl h1;obtain⟨bs,c,rfl⟩:=hX;cases base<;>cases bs<;>simp [Builtin.copy_,run_underlying ht,Builtin.lenOf,Builtin.firstCells,sizeOf,typeInfo,hi,h1,storeCells,h0]
 cases d<;>simp only[copyV,reduceCtorEq] at h<;>simp only[Rv] at hd
 ·obtain⟨L,hL,rfl⟩:=hd;rename_i b off len cap o;obtain⟨n,hn⟩:∃n,n=Nat.min m len:=⟨_,rfl⟩;have e1:bM (Nat.ble m len) m len=n:=by
   rw[hn,bO];split
   ·rename_i h1;rw[Gp] at h1;exact(Cj h1).symm
   ·rename_i h1;rw[Gp] at h1;exact(Gt au).symm
  rw[e1,bO] at h;split at h
  ·rename_i h1;rw[Av] at h1;cases h;exact⟨_,w,nothing rfl (by rw[<-hn];exact h1),by simp only[Rv];rfl,gH.refl hR⟩
  ·rename_i h1;rw[Av] at h1;have⟨cs,hcs,h⟩:=aA h;have⟨S1,hst,h⟩:=aA h;cases h;have hsrc:∃News,gP P σ cs News/\(∀u∈News,u.oneCell'=true)/\(Builtin.firstCells i.size n X).run P w= .ok News.toArray w:=by
    cases x<;>simp only[zR,reduceCtorEq,Al] at hm<;>simp only[Rv] at hx<;>simp only[fE] at hcs
    ·obtain⟨Lx,hLx,rfl⟩:=hx;have⟨L',Cs,hL',h3,h4,h5,h6⟩:=uP hR hcs;rw[hLx] at hL';cases hL';exact⟨Cs,h3,h5,run_firstCells_some w _ _ _ _ _ Cs h4 fun j u hu=>by rw[Addr.add_mid];exact h6 j u hu⟩
    ·have⟨h2,_⟩:=bB hcs;rw[Av] at h2;exact absurd h2 h1
    ·have⟨h2,_⟩:=bB hcs;rw[Av] at h2;exact absurd h2 h1
   have⟨News,hN,hN1,hload⟩:=hsrc;have⟨L',hL',hth,hext⟩:=qU hR hN hN1 hst;rw[hL] at hL';cases hL';have hrun:=run_storeCells_cells (P:=P) L.r (L.d+off) News 0 w (fun j hj=>by simpa using (hth j hj).1) (fun j hj=>by simpa using (hth j hj).2) hN1;simp only[Bi] at hrun;obtain⟨bs,c,rfl⟩:=hX;refine⟨goInt n,_,?_,by simp only[Rv];rfl,hext⟩;have hlen:(Builtin.lenOf (.slice bs m c)).run P w= .ok m w:=by simp [Builtin.lenOf]
   rw[hn] at hload ⊢;simp [Builtin.copy_,run_underlying ht,hlen,sizeOf,typeInfo,hi,hload,hrun]
 ·subst hd;cases h;exact⟨_,w,nothing rfl (Gt (Ey _)),by simp only[Rv];rfl,gH.refl hR⟩
 ·obtain⟨A,c,rfl⟩:=hd;cases h;exact⟨_,w,nothing rfl (Gt (Ey _)),by simp only[Rv];rfl,gH.refl hR⟩
end Go.Ev
namespace Go.Ev
variable {P:Program}{σ:Env}{S:St}{w:World}
theorem qN.append:∀ {m:List (AV×AV)} {es:List MapEntry} {k v:AV} {e:MapEntry},qN P σ m es->Rv P σ k e.key->Rv P σ v e.val->qN P σ (m++ [(k,v)]) (es++ [e])
 | [],es,k,v,e,h,h1,h2=>by have h:es= []:=h;subst h;exact⟨e,[],rfl,h1,h2,rfl⟩
 | (k',v')::m,es,k,v,e,h,h1,h2=>by
  obtain⟨x,es',rfl,h3,h4,h5⟩:=h;exact⟨x,es'++ [e],rfl,h3,h4,qN.append h5 h1 h2⟩
theorem qN.modify:∀ {m:List (AV×AV)} {es:List MapEntry} {k v:AV} {K V:Value} (i:Nat),qN P σ m es->Rv P σ k K->Rv P σ v V->
  qN P σ (wR (fun _=>(k,v)) m i) (es.modify i fun e=>{e with key:=K,val:=V})
 | [],es,k,v,K,V,i,h,_,_=>by have h:es= []:=h;subst h;simp [wR];rfl
 | (k',v')::m,es,k,v,K,V,i,h,h1,h2=>by
  obtain⟨x,es',rfl,h3,h4,h5⟩:=h;simp only[wR,bO];cases i with
  | zero=>exact⟨{x with key:=K,val:=V},es',by simp,h1,h2,h5⟩
  | succ i=>
   rw[if_neg (by simp)];exact⟨x,es'.modify i (fun e=>{e with key:=K,val:=V}),by simp,h3,h4,by simpa using qN.modify i h5 h1 h2⟩
def jH(P:Program):Prop:=∀ (σ:Env) (kt:TypeId) (e:oZ) (k k':AV) (K K':Value),aBl P kt=some e->Rv P σ k K->Rv P σ k' K'->eqv e k k'=some true->Instr.sameBits 10000 K' K=true
theorem aHh:∀ {e:oZ} {k:AV} {m:List (AV×AV)} {i j:Nat} {v:AV},tA e k m i=some (some (j,v))->i<=j/\∃k',m[j - i]? =some (k',v)/\eqv e k k'=some true
 | e,k,[],i,j,v,h=>by simp [tA] at h
 | e,k,(k',v')::m,i,j,v,h=>by
  simp only[tA] at h;have⟨b,h1,h⟩:=aA h;cases b
  ·rw[aS] at h;have⟨h2,k2,h3,h4⟩:=aHh h;refine⟨au,k2,?_,h4⟩;rw[show j - i=(j - Nat.succ i)+1 by omega];simpa using h3
  ·rw[aP] at h;cases h;exact⟨Af _,k',by simp,h1⟩
theorem qN.get:∀ {m:List (AV×AV)} {es:List MapEntry} {i:Nat} {k v:AV},qN P σ m es->m[i]? =some (k,v)->∃e,es[i]? =some e/\Rv P σ k e.key/\Rv P σ v e.val
 | [],es,i,k,v,h,h1=>by simp at h1
 | (k',v')::m,es,i,k,v,h,h1=>by
  obtain⟨x,es',rfl,h3,h4,h5⟩:=h;cases i with
  | zero=>simp at h1;obtain⟨rfl,rfl⟩:=h1;exact⟨x,by simp,h3,h4⟩
  | succ i=>simp at h1;have⟨e,h6,h7⟩:=qN.get h5 h1;exact⟨e,by simpa using h6,h7⟩
theorem mC{r:Nat}{ob old:Obj}(h:w.heap[r]? =some old)(hc:∀c e f,old≠ .cells c e f):(setObj r ob).run P w= .ok () {w with heap:=w.heap.setIfInBounds r ob}:=by
 simp only[setObj,Sem.run,h]
theorem uC{r:Nat}{ob:Obj}(h:w.heap[r]? =some ob)(hc:∀c e f,ob≠ .cells c e f):(getObj r).run P w= .ok ob w:=by
 simp only[getObj,Sem.run,h]
theorem aAY(hA:tE P)(hB:jH P){t kt et:TypeId}{e:oZ}(ht:P.underlying t=some (.map kt et))(hkt:aBl P kt=some e)(hR:jX P σ S w){m k x:AV}{M K X:Value}(hm:Rv P σ m M)(hk:Rv P σ k K)(hx:Rv P σ x X)
  {v:AV} {S':St} (h:uO m e k x S=some (v,S')):v= .undef/\∃w',(Instr.mapUpdate t M K X).run P w= .ok () w'/\gH P σ S w σ S' w':=by
 cases m<;>simp only[uO,reduceCtorEq] at h;rename_i b;have⟨es,h1,h⟩:=aA h;have⟨bl,hb,h1⟩:=aA h1;have⟨r,h2,h⟩:=aA h;cases h;refine⟨rfl,?_⟩;have⟨hself,hf⟩:=aBH h2;cases bl<;>simp only[yN,reduceCtorEq,Al] at h1;rename_i es0;have h1:=h1.symm;subst h1;have⟨L,hL,hlt,ms,c,h3,h4⟩:=hR.blk b _ hb;simp only[Rv] at hm;obtain⟨L',hL',rfl⟩:=hm;rw[hL] at hL';cases hL';have⟨R,h5,h6⟩:=yI (w:=w) hA.eq hkt hk h4 hf;have hck:=hA.key σ w kt e k K false hkt hk hself;have hg:=uC (P:=P) h3 (by simp);have key:∀ob,pZ P σ {w with heap:=w.heap.setIfInBounds L.r ob} L (.map (aCL r es k x))->
   gH P σ S w σ ⟨S.h.set b (some (.map (aCL r es k x))),S.nx⟩ {w with heap:=w.heap.setIfInBounds L.r ob}:=fun ob hbl=>
  gH.write hR hb trivial trivial hL (fun r hr=>by simp [Array.getElem?_setIfInBounds_ne (Eg hr)]) (by simp) rfl rfl rfl hbl
 have hat:∀ob,(w.heap.setIfInBounds L.r ob)[L.r]? =some ob:=fun ob=>by
  rw[Array.getElem?_setIfInBounds_self_of_lt hlt]
 cases r with
 | none=>
  cases R with
  | some _=>exact h6.elim
  | none=>
   refine⟨_,?_,key (.map (ms.push {key:=K,val:=X,born:=c}) (c+1)) ?_⟩
   ·simp only[Instr.mapUpdate,Sem.run_bind,run_underlying ht,Result.andThen_ok,hg,hck,h5];rw[mC h3 (by simp)]
   ·refine⟨_,_,hat _,?_⟩;simp only[aCL,fB,Array.toList_push];exact h4.append hk hx
 | some jv=>
  have⟨j,v0⟩:=jv;cases R with
  | none=>exact h6.elim
  | some jV=>
   have⟨j',V0⟩:=jV;obtain⟨rfl,_⟩:=h6;have⟨_,k',hk1,hk2⟩:=aHh hf;simp only[Gm] at hk1;have⟨en,he1,he2,_⟩:=h4.get hk1;have hbits:=hB σ kt e k k' K en.key hkt hk he2 hk2;refine⟨_,?_,key (.map (ms.modify j fun e=>{e with key:=K,val:=X}) c) ?_⟩
   ·have hms:ms[j]? =some en:=by rw[<-Da];exact he1
    simp only[Instr.mapUpdate,Sem.run_bind,run_underlying ht,Result.andThen_ok,hg,hck,h5,hms,Fx,Option.getD_some,Instr.keyThatStays,hbits,Ck,Sem.run_pure];rw[mC h3 (by simp)]
   ·refine⟨_,_,hat _,?_⟩;simp only[aCL];rw[Array.toList_modify];exact h4.modify j hk hx
def nM(P:Program)(R:Value->World->Prop):Result Next->Prop
 | .ok (.value v) w'=>R v w'
 | .ok .skip w'=>R undef w'
 | .ok (.enter f args) w'=>CallsIn Fence.wide 0 P f args w' fun
   | .returned v,w''=>R v w''
   | _,_=>False
 | .ok (.round l f tmps assign body) w'=>RoundIn Fence.wide 0 P l f tmps assign body w' fun
   | .returned v,w''=>R v w''
   | _,_=>False
 | _=>False
def iR(P:Program)(call:dK):Prop:=∀ (f:AV) (args:bo) (S:St) (v:AV) (S':St),call f args S=some (v,S')->∀ (σ:Env) (w:World) (fv:Value) (Args:List Value),
 Rv P σ f fv->gP P σ args Args->jX P σ S w->nM P (fun V w'=>∃σ',Rv P σ' v V/\gH P σ S w σ' S' w') ((do let d <-Deferred.ofValue fv ⟨Args⟩;invoke d.target d.args:Sem Next).run P w)
theorem aLm{t:TypeId}{agg:Bool}{n:Nat}(ht:aAe P t=some (agg,n))(hR:jX P σ S w){x y:AV}{X Y:Value}(hx:Rv P σ x X)(hy:Rv P σ y Y){cs:bo}(hcs:y.cells=some cs){v:AV}{S':St}
  (h:oT x n cs S=some (v,S')):v= .undef/\∃w',(Instr.storeAt t X Y).run P w= .ok () w'/\gH P σ S w σ S' w':=by
 have⟨d,i,hu,hi,hn,hd⟩:=xL ht;cases x<;>simp only[oT,reduceCtorEq] at h;have⟨hl,h⟩:=bB h;have⟨S1,hst,h⟩:=aA h;cases h;refine⟨rfl,?_⟩;simp only[Rv] at hx;obtain⟨L,hL,rfl⟩:=hx;have⟨hc1,hc2⟩:=aAj hy hcs;have⟨L',hL',hth,hext⟩:=qU hR hc1 hc2 hst;rw[hL] at hL';cases hL';rw[eQ,Av] at hl;refine⟨_,?_,hext⟩;have hsz:Y.cells.size=i.size:=by have:=hc1.length;simp at this;omega
 have hrun:=run_storeCells_cells (P:=P) L.r (L.d+_) Y.cells.toList 0 w (fun j hj=>by simpa using (hth j hj).1) (fun j hj=>by simpa using (hth j hj).2) hc2;simp only[Bi] at hrun;simp [Instr.storeAt,Instr.sureAddr,storeVar,sizeOf,typeInfo,hi,hsz,hrun]
theorem aEi{n:String}{t:Nat}{i:TypeInfo}{r:Nat×Nat×Option (Bool×Nat)}(h:nU P n t i=some r):r.1=t:=by
 unfold nU at h;split at h
 ·rw[Aw] at h;split at h
  ·cases h
  ·split at h
   ·cases h
   ·split at h
    ·cases h;rfl
    ·obtain⟨a,_,rfl⟩:=An.1 h;rfl
    ·cases h
    ·cases h;rfl
    ·cases h
 ·cases h
theorem nF{n:String}:∀ {is:List TypeInfo} {k t:Nat} {r:Nat×Option (Bool×Nat)},wU t (gK P n is k)=some r->k<=t/\∃i,is[t - k]? =some i/\nU P n t i=some (t,r)
 | [],k,t,r,h=>by simp [gK,wU] at h
 | i::is,k,t,r,h=>by
  simp only[gK] at h;have next:wU t (gK P n is (k+1))=some r->k<=t/\∃j,(i::is)[t - k]? =some j/\nU P n t j=some (t,r):=fun h=>by
   have⟨h1,j,h2,h3⟩:=nF h;refine⟨au,j,?_,h3⟩;rw[show t - k=(t - (k+1))+1 by omega];simpa using h2
  split at h
  ·rename_i x hx;have hf:=aEi hx;have⟨u,a⟩:=x;simp only at hf;subst hf;simp only[wU,bO] at h;split at h
   ·rename_i he;rw[Av] at he;subst he;cases h;exact⟨Af _,i,by simp,hx⟩
   ·exact next h
  ·exact next h
theorem aLd{f:Nat}{R:Value}{Args:List Value}:((do let d <-Deferred.ofValue (.func (.func f) ⟨[R]⟩ ⟨[]⟩) ⟨Args⟩;invoke d.target d.args:Sem Next)).run P w=(callFunc f (#[R]++⟨Args⟩)).run P w:=by
 simp [Deferred.ofValue,invoke]
theorem aK3{call:dK}(hcall:iR P call){name:String}{r:AV}{R:Value}{args:bo}{Args:List Value}(hr:Rv P σ r R)(hargs:gP P σ args Args)(hR:jX P σ S w){v:AV}{S':St}
  (h:aDs r (gK P name P.types.toList 0) args call S=some (v,S')):nM P (fun V w'=>∃σ',Rv P σ' v V/\gH P σ S w σ' S' w') ((callMethod R name ⟨Args⟩).run P w):=by
 cases r<;>simp only[aDs,reduceCtorEq] at h;rename_i t x;simp only[Rv] at hr;obtain⟨W,rfl,hx⟩:=hr;have⟨row,hrow0,h⟩:=aA h;have⟨_,i,hi,hrow⟩:=nF hrow0;have hlt:t<P.types.size:=by
  have:=(Aj.1 hi).1;simpa using this
 have hinfo:P.info? t=some i:=by
  unfold Tables.info?;rw[if_pos hlt];simpa using hi
 have hty:∀w:World,(typeInfo t).run P w= .ok i w:=fun w=>by simp [typeInfo,hinfo]
 have key:∀ (f:Nat) (RV:Value) (rv:AV),(method (P.types.size+Made.depth) t W name).run P w= .ok (f,RV) w->Rv P σ rv RV->call (.fn f [rv] []) args S=some (v,S')->
   nM P (fun V w'=>∃σ',Rv P σ' v V/\gH P σ S w σ' S' w') ((callMethod (.iface t W) name ⟨Args⟩).run P w):=by
  intro f RV rv hm hrv hc;have:=hcall _ _ _ _ _ hc σ w (.func (.func f) ⟨[RV]⟩ ⟨[]⟩) Args (by simp only[Rv];exact⟨_,_,rfl,cG.2 ⟨_,_,rfl,hrv,cJ.2 rfl⟩,cJ.2 rfl⟩) hargs hR;rw[aLd] at this;simp only[callMethod,Sem.run_bind,run_program,Result.andThen_ok,hm];exact this
 obtain⟨fuel,hdep⟩:∃fuel,P.types.size+Made.depth=fuel+1:=⟨P.types.size+99,rfl⟩;rw[hdep] at key;unfold nU at hrow;split at hrow
 ·rename_i m hm;rw[Aw] at hrow;split at hrow
  ·cases hrow
  ·rename_i hp;have hp:m.path.toList= []:=by simpa using hp
   split at hrow
   ·cases hrow
   ·rename_i f ptr hf;have hmeth:∀ (RV:Value),(receiverAt t (.val W) ptr (if m.path.isEmpty then some ((name.splitOn ".").getLastD name) else none)).run P w= .ok RV w->(method (fuel+1) t W name).run P w= .ok (f,RV) w:=fun RV hrec=>by
     simp only[method,Sem.run_bind,hty,Result.andThen_ok,hm,hp,follow,Sem.run_pure,hf,hrec]
    split at hrow
    ·rename_i b0 e hu;cases hrow;refine key f W x (hmeth W ?_) hx h;simp only[receiverAt,Sem.run_bind,run_underlying hu,Result.andThen_ok,Place.get,Sem.run_pure]
    ·rename_i b0 e hu;have⟨⟨agg,n⟩,ha,hra⟩:=An.1 hrow;cases hra;have h:aCy x f agg n args call S=some (v,S'):=h;cases x<;>simp only[aCy,reduceCtorEq] at h;rename_i b off;have⟨rv,h1,h2⟩:=aA h;simp only[Rv] at hx;obtain⟨L,hL,rfl⟩:=hx;have⟨L',RV,hL',h3,h4⟩:=wL ha hR h1;rw[hL] at hL';cases hL';refine key f RV rv (hmeth RV ?_) h4 h2;have hpe:m.path.isEmpty=true:=by simpa using hp
     have hnil:∀ (ad:Addr) (nm:String),(Builtin.ssaWrapNilChk_ #[t] t #[.pointer (some ad),strVal "",strVal nm]).run P w= .ok (.pointer (some ad)) w:=fun _ _=>by rfl
     simp only[receiverAt,Sem.run_bind,run_underlying hu,Result.andThen_ok,Place.get,Sem.run_pure,hpe,Ck,hnil,asAddr,h3]
    ·cases hrow
    ·rename_i b0 d hnp hni hu;cases hrow;refine key f W x (hmeth W ?_) hx h;simp only[receiverAt,Sem.run_bind,run_underlying hu,Result.andThen_ok];cases d<;>first | rfl | exact(hnp _ rfl).elim
    ·cases hrow
 ·cases hrow
theorem aJ8{t e ty:TypeId}{i:TypeInfo}{z:bo}(he:lE P t=some (e,i))(hz:kA P e i=some z)(hR:jX P σ S w){x:AV}{X:Value}(hx:Rv P σ x X){v:AV}{S':St}(h:aIc x z S=some (v,S')):
  v= .undef/\∃w',(Builtin.clear_ #[t] ty #[X]).run P w= .ok (.tuple #[]) w'/\gH P σ S w σ S' w':=by
 have⟨hu,hi⟩:=mJ he;have⟨Z,hZ,hz1,hz2,hz3,hz4⟩:=mQ (σ:=σ) hi hz;cases x<;>simp only[aIc,reduceCtorEq] at h<;>simp only[Rv] at hx
 ·obtain⟨L,hL,rfl⟩:=hx;rename_i b off n cap o;rw[bO] at h;split at h
  ·rename_i hn;rw[Av] at hn;subst hn;cases h;exact⟨rfl,w,by simp [Builtin.clear_,run_underlying hu],gH.refl hR⟩
  ·rename_i hn;rw[Av] at hn;have⟨S1,hst,h⟩:=aA h;cases h;have⟨L',hL',hth,hext⟩:=qU hR (uK hz1 n) (pS hz2 n) hst;rw[hL] at hL';cases hL';refine⟨rfl,_,?_,hext⟩;have hrun:=run_storeCells_cells (P:=P) L.r (L.d+off) (repeatL Z.cells.toList n) 0 w (fun j hj=>by simpa using (hth j hj).1) (fun j hj=>by simpa using (hth j hj).2) (pS hz2 n);simp only[Bi] at hrun;have hzc:(Builtin.zeroCells Z.cells n).toList=repeatL Z.cells.toList n:=by
    rw[<-lC Z.cells.toList n];unfold Builtin.zeroCells;rw[El,Array.toList_range];simp only[Dt];apply Fz;intro a _;cases Z.cells;simp
   obtain⟨k,rfl⟩:∃k,n=k+1:=⟨n - 1,au⟩;simp [Builtin.clear_,run_underlying hu,zeroValue,typeInfo,hi,hZ,hzc,hrun]
 ·subst hx;cases h;exact⟨rfl,w,by simp [Builtin.clear_,run_underlying hu],gH.refl hR⟩
 ·obtain⟨A,c,rfl⟩:=hx;cases h;exact⟨rfl,w,by simp [Builtin.clear_,run_underlying hu],gH.refl hR⟩
theorem aGt{fn:Func}{n:String}{e:Array Value->Sem Value}(h:fn.name=n)(h1:Extern.allGenericRows.lookup n=none)(h2:Extern.allTypedRows.lookup n=none)(h3:Extern.allRows.lookup n=some e):Extern.find fn=some e:=by
 unfold Extern.find;simp only[h,h1,h2,h3,Option.map_none];rfl
theorem aAp{fn:Func}{n:String}(h:fn.name=n)(h1:Extern.allNextRows.lookup n=none)(ho:Extern.allNextRows.lookup fn.origin=none):Extern.findNext fn=none:=by
 unfold Extern.findNext;simp only[h,h1,ho,Option.map_none];rfl
theorem aK6:Extern.allRows.lookup "math/bits.Add64" =some add64Entry:=by kernel_rfl
theorem aIg:Extern.allGenericRows.lookup "math/bits.Add64" =none:=by kernel_rfl
theorem aIN:Extern.allTypedRows.lookup "math/bits.Add64" =none:=by kernel_rfl
theorem aIR:Extern.allNextRows.lookup "math/bits.Add64" =none:=by kernel_rfl
theorem aN2:Extern.allRows.lookup "internal/bytealg.IndexByteString" =some Extern.BytealgIndexByte.indexByte:=by kernel_rfl
theorem aL7:Extern.allGenericRows.lookup "internal/bytealg.IndexByteString" =none:=by kernel_rfl
theorem aLv:Extern.allTypedRows.lookup "internal/bytealg.IndexByteString" =none:=by kernel_rfl
theorem aMh:Extern.allNextRows.lookup "internal/bytealg.IndexByteString" =none:=by kernel_rfl
theorem aIu{f:Operand}{k:aIw}(h:aJJ P f=some k):∃id fn,f= .func id/\P.funcs[id]? =some fn/\fn.body.isNone=true/\Extern.allNextRows.lookup fn.origin=none/\
  ((fn.name= "math/bits.Add64" /\k= .add64)\/(fn.name= "internal/bytealg.IndexByteString" /\k= .idxByte)):=by
 unfold aJJ at h;split at h
 ·rename_i id;split at h
  ·rename_i fn hfn;rw[Aw] at h;split at h
   ·rename_i hc;rw[Cr,Option.isNone_iff_eq_none (o:=Extern.allNextRows.lookup fn.origin)] at hc;refine⟨id,fn,rfl,hfn,hc.1,hc.2,?_⟩;unfold aJt at h;rw[Aw] at h;split at h
    ·rename_i hn;cases h;exact .inl ⟨by simpa using hn,rfl⟩
    ·rw[Aw] at h;split at h
     ·rename_i hn;cases h;exact .inr ⟨by simpa using hn,rfl⟩
     ·cases h
   ·cases h
  ·cases h
 ·cases h
theorem aJL{id:Nat}{fn:Func}{e:Array Value->Sem Value}(hf:P.funcs[id]? =some fn)(hb:fn.body.isNone=true)(hn:(fn.name== "runtime.NumGoroutine")=false)(hnx:Extern.findNext fn=none)(he:Extern.find fn=some e)(As:List Value)(w:World):
  ((do let d <-Deferred.ofValue (.func (.func id) #[] #[]) ⟨As⟩;invoke d.target d.args:Sem Next)).run P w=((e ⟨As⟩).run P w).andThen fun v w'=>.ok (.value v) w':=by
 simp only[Deferred.ofValue,Sem.run_bind,Sem.run_pure,Result.andThen_ok,invoke,Array.empty_append,Array.append_empty];exact run_callFunc_extern hf hn hb hnx he _ w
theorem xA(p:Nat->Bool)(c:Nat):∀ (s:bt) (k:Nat),(∀j x,s[j]? =some x->p (k+j)=Nat.beq x c)->
  sH c s k=match (List.range' k s.length).find? p with
   | some i=>(i:Int)
   | none=> -1
 | [],k,h=>by simp [sH]
 | b::s,k,h=>by
  have h0:=h 0 b (by simp);rw[Bi] at h0;rw[Ax,List.range'_succ,List.find?_cons];simp only[sH,bO,h0];cases hb:Nat.beq b c with
  | true=>simp
  | false=>
   simp only[Ao,Bm];exact xA p c s (k+1) (fun j x hj=>by
    have:=h (j+1) x (by simpa using hj);rw[<-this];congr 1;omega)
theorem firstIdx_eq{s:bt}(hb:Bytes s){c:Nat}(hc:c<=255):firstIdx (dF s) ((Int.ofNat c).toNat.toUInt8)=sH c s 0:=by
 unfold firstIdx;rw[gQ,List.range_eq_range'];have h:=xA (fun i=>(dF s)[i]! ==(Int.ofNat c).toNat.toUInt8) c s 0 (fun j x hj=>by
  have hlt:=(Aj.1 hj).1;have hx:=hb x (Cg hj);have e1:(dF s)[0+j]! =UInt8.ofNat x:=by
   rw[Au];have hsz:j<(dF s).size:=by rw[gQ];exact hlt
   rw[getElem!_pos (dF s) j hsz];show(dF s).data[j]=_;have:=(Aj.1 hj).2;simp [dF,this]
  rw[e1];rw[Cu,beq_iff_eq,Av];constructor
  ·intro he;have:=Hb UInt8.toNat he;rw[uG hx] at this;have e2:((Int.ofNat c).toNat.toUInt8).toNat=c:=by show(UInt8.ofNat c).toNat=c;exact uG au
   omega
  ·intro he;subst he;rfl)
 rw[h];rfl
theorem aKZ{f:Operand}{k:aIw}(hk:aJJ P f=some k){as:bo}{As:List Value}(has:gP P σ as As){v:AV}(h:aIi k as=some v){a:Act}:
  ∃V,((do let d <-Deferred.ofValue (a.eval f) ⟨As⟩;invoke d.target d.args:Sem Next)).run P w= .ok (.value V) w/\Rv P σ v V:=by
 obtain⟨id,fn,rfl,hfn,hb,ho,hkk⟩:=aIu hk;show ∃V,((do let d <-Deferred.ofValue (.func (.func id) #[] #[]) ⟨As⟩;invoke d.target d.args:Sem Next)).run P w= .ok (.value V) w/\Rv P σ v V;rcases hkk with⟨hn,rfl⟩ | ⟨hn,rfl⟩
 ·rw[aJL hfn hb (by rw[hn];decide) (aAp hn aIR ho) (aGt hn aIg aIN aK6)];unfold aIi at h;split at h
  ·rename_i x y c hka;have⟨hc,h⟩:=bB h;cases h;have hc:=Ar hc;rw[cG] at has;obtain⟨X,Xs,rfl,hX,has⟩:=has;rw[cG] at has;obtain⟨Y,Ys,rfl,hY,has⟩:=has;rw[cG] at has;obtain⟨Z,Zs,rfl,hZ,has⟩:=has;rw[cJ] at has;subst has;simp only[Rv] at hX hY hZ;subst hX;subst hY;subst hZ;have hr:=run_add64 (P:=P) (Int.ofNat x) (Int.ofNat y) (Int.ofNat c) (Gw x) (Gw y) (Gw c) (by show(c:Int)<=1;omega) w;refine⟨_,by rw[show(⟨[.int .u64 (Int.ofNat x),.int .u64 (Int.ofNat y),.int .u64 (Int.ofNat c)]⟩:Array Value)= #[.int .u64 (Int.ofNat x),.int .u64 (Int.ofNat y),.int .u64 (Int.ofNat c)] from rfl,hr];rfl,?_⟩;simp only[aMd,Rv];refine⟨_,rfl,cG.2 ⟨_,_,rfl,?_,cG.2 ⟨_,_,rfl,?_,cJ.2 rfl⟩⟩⟩
   ·simp only[Rv];rfl
   ·simp only[Rv];rfl
  ·rename_i h0;cases h0
  ·cases h
 ·rw[aJL hfn hb (by rw[hn];decide) (aAp hn aMh ho) (aGt hn aL7 aLv aN2)];unfold aIi at h;split at h
  ·rename_i h0;cases h0
  ·rename_i s c hka;have⟨hc,h⟩:=bB h;cases h;have hc:=Ar hc;rw[cG] at has;obtain⟨X,Xs,rfl,hX,has⟩:=has;rw[cG] at has;obtain⟨Y,Ys,rfl,hY,has⟩:=has;rw[cJ] at has;subst has;simp only[Rv] at hX hY;obtain⟨rfl,hbs⟩:=hX;subst hY;have hr:=run_indexByte_string (P:=P) (dF s) (Int.ofNat c) w;refine⟨_,by rw[show(⟨[.string (dF s),.int .u8 (Int.ofNat c)]⟩:Array Value)= #[.string (dF s),.int .u8 (Int.ofNat c)] from rfl,hr];rfl,?_⟩;simp only[Rv];rw[firstIdx_eq hbs hc]
  ·cases h
theorem aEN(hA:tE P)(hB:jH P){call:dK}(hcall:iR P call){o:Oper}{xo:XOp}(hc:pI P o.op=some (.x xo)){F:Fr}{a:Act}(hF:oP P σ F a.tmps)(hR:jX P σ S w){v:AV}{S':St}
  (hv:xX xo call F S=some (v,S')):nM P (fun V w'=>∃σ',Rv P σ' v V/\gH P σ S w σ' S' w') ((execOp a.eval o).run P w):=by
 have⟨dst,op,type,pos,after,guard⟩:=o;simp only at hc;have hundef:∀σ',Rv P σ' .undef undef:=fun σ'=>by simp only[AV.undef,undef,Rv];exact⟨[],rfl,cJ.2 rfl⟩
 cases op<;>(try (first | (have⟨y,_,h2⟩:=cD hc;cases h2;done) | (have⟨y,_,h2⟩:=jO hc;cases h2;done) | (cases hc;done)))
 case store t x y=>
  have⟨z,h1,h2⟩:=fH hc;cases h2;have⟨⟨agg,n⟩,hag,h1⟩:=aT h1;have⟨X,hX,h1⟩:=aT h1;have⟨Y,hY,h1⟩:=aT h1;cases h1;have⟨cs,h3,h4⟩:=aA (show(aU (Y.val F).cells fun cs=>oT (X.val F) n cs S)=some (v,S') from hv);obtain⟨rfl,w',h5,h6⟩:=aLm hag hR (bI hF hR hX) (bI hF hR hY) h3 h4;simp only[execOp,Sem.run_bind,h5,Result.andThen_ok,Sem.run_pure];exact⟨σ,hundef σ,h6⟩
 case insert t m k x=>
  simp only[pI] at hc;split at hc
  ·rename_i kt et hu;have⟨y,h1,h2⟩:=fH hc;cases h2;have⟨e,he,h1⟩:=aT h1;have⟨M,hM,h1⟩:=aT h1;have⟨K,hK,h1⟩:=aT h1;have⟨X,hX,h1⟩:=aT h1;cases h1;obtain⟨rfl,w',h5,h6⟩:=aAY hA hB hu he hR (bI hF hR hM) (bI hF hR hK) (bI hF hR hX) hv;simp only[execOp,Sem.run_bind,h5,Result.andThen_ok,Sem.run_pure];exact⟨σ,hundef σ,h6⟩
  ·cases hc
 case mapUpdate t m k x=>
  simp only[pI] at hc;split at hc
  ·rename_i kt et hu;have⟨y,h1,h2⟩:=fH hc;cases h2;have⟨e,he,h1⟩:=aT h1;have⟨M,hM,h1⟩:=aT h1;have⟨K,hK,h1⟩:=aT h1;have⟨X,hX,h1⟩:=aT h1;cases h1;obtain⟨rfl,w',h5,h6⟩:=aAY hA hB hu he hR (bI hF hR hM) (bI hF hR hK) (bI hF hR hX) hv;simp only[execOp,Sem.run_bind,h5,Result.andThen_ok,Sem.run_pure];exact⟨σ,hundef σ,h6⟩
  ·cases hc
 case call c=>
  have⟨callee,args,argTypes⟩:=c;cases callee with
  | value f=>
   simp only[pI] at hc;split at hc
   ·rename_i k hk;obtain⟨y,h1,h2⟩:=fH hc;cases h2;obtain⟨As,hAs,h1⟩:=aT h1;cases h1;obtain⟨u,h3,h4⟩:=aA (show(aU (aIi k (cO As F)) fun v=>some (v,S))=some (v,S') from hv);cases h4;obtain⟨V,h5,h6⟩:=aKZ (w:=w) hk (kS hF hR hAs) h3;have he:(args.map a.eval)=⟨args.toList.map a.eval⟩:=by apply Fv;simp
    simp only[execOp,resolve,he];rw[h5];exact⟨σ,h6,gH.refl hR⟩
   ·have⟨y,h1,h2⟩:=fH hc;cases h2;have⟨Fo,hFo,h1⟩:=aT h1;have⟨As,hAs,h1⟩:=aT h1;cases h1;have:=hcall _ _ _ _ _ hv σ w _ _ (bI hF hR hFo) (kS hF hR hAs) hR;have he:(args.map a.eval)=⟨args.toList.map a.eval⟩:=by apply Fv;simp
    simp only[execOp,resolve,he];exact this
  | invoke r m=>
   have⟨y,h1,h2⟩:=fH hc;cases h2;have⟨Ro,hRo,h1⟩:=aT h1;have⟨As,hAs,h1⟩:=aT h1;cases h1;have:=aK3 hcall (bI hF hR hRo) (kS hF hR hAs) hR hv;have he:(args.map a.eval)=⟨args.toList.map a.eval⟩:=by apply Fv;simp
   have h0:(#[a.eval r]++(⟨args.toList.map a.eval⟩:Array Value))[0]? =some (a.eval r):=by simp
   have hx:((#[a.eval r]++(⟨args.toList.map a.eval⟩:Array Value)).extract 1 (#[a.eval r]++(⟨args.toList.map a.eval⟩:Array Value)).size)=⟨args.toList.map a.eval⟩:=by
    apply Fv;simp only[Array.toList_extract,Array.toList_append,Array.size_append,Cx,Cn,List.size_toArray,Ax,Cd];simp;exact Am (by simp)
   simp only[execOp,resolve,he,Sem.run_bind,Sem.run_pure,Result.andThen_ok,invoke,h0,hx];exact this
  | builtin b=>
   have arr:∀ {α:Type} {x:Array α} {l:List α},x.toList=l->x=l.toArray:=fun h=>by apply Fv;rw[h]
   simp only[pI] at hc;split at hc
   ·split at hc
    all_goals (first | (have⟨y,_,h2⟩:=cD hc;cases h2;done) | (cases hc;done))
   ·split at hc
    all_goals (first | (have⟨y,_,h2⟩:=cD hc;cases h2;done) | (cases hc;done))
   ·have⟨y,_,h2⟩:=cD hc;cases h2
   ·have⟨y,_,h2⟩:=cD hc;cases h2
   ·rename_i s x t u hx ht;have:=arr hx;subst this;have:=arr ht;subst this;split at hc
    ·rename_i e i he;rw[Aw] at hc;split at hc
     ·rename_i hcond;rw[Cr] at hcond;have⟨z,hz⟩:=Option.isSome_iff_exists.1 hcond.2;have⟨y,h1,h2⟩:=fH hc;cases h2;have⟨So,hS,h1⟩:=aT h1;have⟨Xo,hX,h1⟩:=aT h1;cases h1;have⟨V,w',σ',h3,h4,h5⟩:=aFL (ty:=type) he hcond.1 hz hR (bI hF hR hS) (bI hF hR hX) hv;have hex:(execOp a.eval ⟨dst,.call ⟨.builtin .append, #[s,x], #[t,u]⟩,type,pos,after,guard⟩).run P w= .ok (.value V) w':=by
       simp [execOp,resolve,invoke,builtin,h3]
      have hex':(execOp a.eval ⟨dst,.call ⟨.builtin .append,[s,x].toArray,[t,u].toArray⟩,type,pos,after,guard⟩).run P w= .ok (.value V) w':=hex;rw[hex'];exact⟨σ',h4,h5⟩
     ·cases hc
    ·cases hc
   ·rename_i x t hx ht;have:=arr hx;subst this;have:=arr ht;subst this;split at hc
    ·rename_i e i he;have⟨y,h1,h2⟩:=fH hc;cases h2;have⟨z,hz,h1⟩:=aT h1;have⟨Xo,hX,h1⟩:=aT h1;cases h1;obtain⟨rfl,w',h3,h4⟩:=aJ8 (ty:=type) he hz hR (bI hF hR hX) hv;have hex:(execOp a.eval ⟨dst,.call ⟨.builtin .clear, #[x], #[t]⟩,type,pos,after,guard⟩).run P w= .ok (.value (.tuple #[])) w':=by
      simp [execOp,resolve,invoke,builtin,h3]
     have hex':(execOp a.eval ⟨dst,.call ⟨.builtin .clear,[x].toArray,[t].toArray⟩,type,pos,after,guard⟩).run P w= .ok (.value (.tuple #[])) w':=hex;rw[hex'];exact⟨σ,hundef σ,h4⟩
    ·cases hc
   ·have⟨hb,d,s,t,u,e,i,Do,So,hd,ht,he,hD,hS,h2⟩:=zS hc;have:=arr hd;subst this;have:=arr ht;subst this;cases h2;subst hb;have⟨V,w',h3,h4,h5⟩:=aIK (u:=u) (ty:=type) he hR (bI hF hR hD) (bI hF hR hS) hv;have hex:(execOp a.eval ⟨dst,.call ⟨.builtin .copy, #[d,s], #[t,u]⟩,type,pos,after,guard⟩).run P w= .ok (.value V) w':=by
     simp [execOp,resolve,invoke,builtin,h3]
    have hex':(execOp a.eval ⟨dst,.call ⟨.builtin .copy,[d,s].toArray,[t,u].toArray⟩,type,pos,after,guard⟩).run P w= .ok (.value V) w':=hex;rw[hex'];exact⟨σ,h4,h5⟩
 case makeFunc fn x y=>
  cases fn<;>(try (first | (have⟨y,_,h2⟩:=cD hc;cases h2;done) | (cases hc;done)));simp only[pI] at hc;split at hc
  ·have⟨y,_,h2⟩:=cD hc;cases h2
  ·cases hc
 case makeMap t r=>
  cases r<;>simp only[pI,reduceCtorEq] at hc;have⟨y,_,h2⟩:=jO hc;cases h2
 all_goals
  simp only[pI,Aw] at hc
  (repeat' split at hc)<;>first
   | (have⟨y,_,h2⟩:=cD hc;cases h2;done)
   | (have⟨y,_,h2⟩:=jO hc;cases h2;done)
   | (cases hc;done)
end Go.Ev
namespace Go.Ev
variable {P:Program}{σ:Env}{S:St}{w:World}
def Fw(ro:Option Nat):Fence:={Fence.wide with round:=ro}
theorem aCa{ro:Option Nat}{n m:Nat}{f:FuncId}{args:Array Value}{R:Ending->World->Prop}(h:CallsIn Fence.wide m P f args w R):CallsIn (Fw ro) n P f args w R:=
 ⟨trivial,fun cs _=>h.2 cs (room_wide _)⟩
theorem aHC{ro:Option Nat}{n m l:Nat}{f:FuncId}{tmps:Array Value}{as bd:Code}{R:Ending->World->Prop}(h:RoundIn Fence.wide m P l f tmps as bd w R):RoundIn (Fw ro) n P l f tmps as bd w R:=
 ⟨trivial,fun c cs _=>h.2 c cs (room_wide _)⟩
theorem nM.mono{R R':Value->World->Prop}{r:Result Next}(h:nM P R r)(hr:∀v w,R v w->R' v w):nM P R' r:=by
 unfold nM at *;split at h
 ·exact hr _ _ h
 ·exact hr _ _ h
 ·exact CallsIn.mono h fun e w' he=>by cases e<;>first | exact hr _ _ he | exact he
 ·exact RoundIn.mono h fun e w' he=>by cases e<;>first | exact hr _ _ he | exact he
 ·exact h.elim
theorem aAF{ro:Option Nat}{n:Nat}{o:Oper}{a:Act}{next:Act->World->Prop}{Q:Exit->Act->World->Prop}{R:Value->World->Prop}{r:Result Next}(h:nM P R r)
  (hr:∀v w,R v w->next (a.put o.dst v) w):o.uponIn (Fw ro) n P a next Q r:=by
 unfold nM at h;split at h
 ·exact hr _ _ h
 ·exact hr _ _ h
 ·refine⟨fun hd=>by simp [Fw,Fence.wide] at hd,aCa (CallsIn.mono h fun e w' he=>?_)⟩;cases e with
  | returned v=>exact hr _ _ he
  | panicked c=>exact he.elim
  | outgrown=>exact he.elim
 ·refine⟨fun hd=>by simp [Fw,Fence.wide] at hd,aHC (RoundIn.mono h fun e w' he=>?_)⟩;cases e with
  | returned v=>exact hr _ _ he
  | panicked c=>exact he.elim
  | outgrown=>exact he.elim
 ·exact h.elim
theorem aJl(t:Nat)(F:Fr):aD t F=(F.get t).getD .undef:=by
 unfold aD;cases F.get t<;>rfl
theorem qJ(F:Fr)(d t:Nat)(v:AV):aD t (F.set d (some v))=if t=d then v else aD t F:=by
 rw[aJl,dr];split
 ·rfl
 ·rw[aJl]
theorem oP.put{F:Fr}{a:Act}{d:Option Tmp}{v:AV}{V:Value}(hF:oP P σ F a.tmps)(hd:yD a.tmps.size d=true)(hv:Rv P σ v V):oP P σ (cB d F v) (a.put d V).tmps:=by
 cases d with
 | none=>exact hF
 | some d=>
  have hlt:d<a.tmps.size:=Ar hd;refine⟨fun t=>?_⟩;show Rv P σ (aD t (F.set d (some v))) _;rw[qJ];simp only[Act.put,Bg,Array.getElem?_setIfInBounds];split
  ·rename_i e;subst e;simp;exact hv
  ·rename_i hne;rw[if_neg (Eg hne)];have:=hF.get t;simpa [Bg] using this
theorem aCR(a:Act)(d:Option Tmp)(V:Value):(a.put d V).tmps.size=a.tmps.size:=by cases d<;>simp [Act.put]
theorem put_defers(a:Act)(d:Option Tmp)(V:Value):(a.put d V).defers=a.defers:=by cases d<;>rfl
theorem aBV{ops:Array Oper}{o:Oper}{g:Option (Nat×Bool)}(hg:aBe ops o.guard=some g){F:Fr}{tmps:Array Value}(hF:oP P σ F tmps):Region.wanted o (yielded ops tmps)=fI g F:=by
 unfold Region.wanted;cases ho:o.guard with
 | none=>
  rw[ho] at hg;simp only[aBe,Al] at hg;subst hg;rfl
 | some jw=>
  have⟨j,want⟩:=jw;rw[ho] at hg;simp only[aBe] at hg;split at hg
  ·rename_i d hd;cases hg;show(yielded ops tmps j==some want)=isB (aD d F) want;have hv:=hF.get d;unfold yielded;rw[hd];simp only[Option.bind_some];have hgd:tmps.getD d undef=(tmps[d]?).getD undef:=Bg ..;rw[hgd] at hv;cases ht:tmps[d]? with
   | none=>
    rw[ht] at hv;simp only[Option.getD_none] at hv;cases hb:aD d F<;>rw[hb] at hv<;>simp only[isB]<;>first | rfl | (simp only[Rv,undef,reduceCtorEq] at hv)
   | some X=>
    rw[ht] at hv;simp only[Option.getD_some] at hv;cases hb:aD d F<;>rw[hb] at hv<;>simp only[isB]<;>simp only[Rv] at hv
    case bool b=>subst hv;simp only[uQ];cases b<;>cases want<;>rfl
    all_goals first
     | (subst hv;rfl)
     | (obtain⟨rfl,_⟩:=hv;rfl)
     | (obtain⟨L,_,rfl⟩:=hv;rfl)
     | (obtain⟨A,c,rfl⟩:=hv;rfl)
     | (obtain⟨A,B,rfl,_⟩:=hv;rfl)
     | (obtain⟨A,rfl,_⟩:=hv;rfl)
  ·cases hg
theorem semAt_eq{o:Oper}{r:Option Nat}{ρ:Operand->Value}(h:∀c,o.op≠ .defer c):o.semAt r ρ=execOp ρ o:=by
 unfold Oper.semAt;split
 ·rename_i h1;exact absurd h1 (h _)
 ·rfl
theorem qS{op:Op}{r:AOp}(h:pI P op=some r):∀c,op≠ .defer c:=by
 rintro c rfl;cases h
theorem yP{nt:Nat}{ops:Array Oper}{o:Oper}{m:Nat}{ao:AO}(h:aJu P nt ops o m=some ao):
  yD nt o.dst=true/\aBe ops o.guard=some ao.grd/\ao.dst=o.dst/\ao.mask=m/\(pI P o.op=some ao.op\/ao.op= .x .bad):=by
 unfold aJu at h;rw[Aw] at h;split at h
 ·rename_i hd;split at h
  ·rename_i g hg;split at h
   ·rename_i op hop;cases h;exact⟨hd,hg,rfl,rfl,.inl hop⟩
   ·cases h;exact⟨hd,hg,rfl,rfl,.inr rfl⟩
  ·cases h
 ·cases h
theorem aIA(hA:tE P)(hB:jH P){call:dK}(hcall:iR P call){ao:AO}{o:Oper}(hop:pI P o.op=some ao.op\/ao.op= .x .bad){F F':Fr}{a:Act}(hdst:ao.dst=o.dst)(hd:yD a.tmps.size o.dst=true)
  (hF:oP P σ F a.tmps) (hR:jX P σ S w) {S':St} (h:oOp ao.op ao.dst call F S=some (F',S')):
  (∀c,o.op≠ .defer c)/\nM P (fun V w'=>∃σ',oP P σ' F' (a.put o.dst V).tmps/\gH P σ S w σ' S' w') ((execOp a.eval o).run P w):=by
 rcases hop with hop | hop
 ·refine⟨qS hop,?_⟩;cases hao:ao.op with
  | q qo=>
   rw[hao] at h hop;have⟨v,h1,h2⟩:=aA (show(aU (jK qo F S.h) fun v=>some (cB ao.dst F v,S))=some (F',S') from h);cases h2;have⟨V,h3,h4⟩:=aE3 hA hop hF hR h1;rw[h3];exact⟨σ,by rw[hdst];exact hF.put hd h4,gH.refl hR⟩
  | a al=>
   rw[hao] at h hop;have⟨⟨v,bl⟩,h1,h2⟩:=aA (show(aU (vC al F S.nx) fun r=>some (cB ao.dst F r.1,(⟨S.h.set S.nx (some r.2),Nat.succ S.nx⟩:St)))=some (F',S') from h);cases h2;have⟨V,w',h3,ob,e,m1,m2,m3,m4,m5,m6,m7⟩:=aEB hop hF hR S.nx (hR.fresh _ (Af _)) h1;rw[h3];have hext:=gH.alloc hR m1 m2 m3 m4 m5 m6;exact⟨_,by rw[hdst];exact(hF.mono (hext.mono hR)).put hd m7,hext⟩
  | x xo=>
   rw[hao] at h hop;have⟨⟨v,S1⟩,h1,h2⟩:=aA (show(aU (xX xo call F S) fun r=>some (cB ao.dst F r.1,r.2))=some (F',S') from h);cases h2;refine(aEN hA hB hcall hop hF hR h1).mono ?_;rintro V w' ⟨σ',h3,h4⟩;exact⟨σ',by rw[hdst];exact(hF.mono (h4.mono hR)).put hd h3,h4⟩
 ·rw[hop] at h;have⟨r,h1,_⟩:=aA (show(aU (xX .bad call F S) fun r=>some (cB ao.dst F r.1,r.2))=some (F',S') from h);cases h1
theorem fC(o:AO)(os:List AO)(call:dK)(F:Fr)(S:St):kL (o::os) call F S=aU (zZ o call F S) fun r=>kL os call r.1 r.2:=rfl
theorem qX(hA:tE P)(hB:jH P){call:dK}(hcall:iR P call){ro:Option Nat}{n nt:Nat}{ops:Array Oper}{Q:Exit->Act->World->Prop}:
  ∀ (l:List Oper) (k:Nat) (ms:bt) (aos:List AO) (σ:Env) (F F':Fr) (S S':St) (a:Act) (w:World),(∀j,j<l.length->l[j]? =ops[k+j]?)->oW P nt ops l ms=some aos->a.tmps.size=nt->oP P σ F a.tmps->jX P σ S w->
   kL aos call F S=some (F',S')->(∀σ' a' w',oP P σ' F' a'.tmps->a'.tmps.size=nt->a'.defers=a.defers->gH P σ S w σ' S' w'->Q .normal a' w')->
   wpOpsIn (Fw ro) n P ops Q (List.range' k l.length) a w
 | [],k,ms,aos,σ,F,F',S,S',a,w,hl,hc,hn,hF,hR,h,hQ=>by
  simp only[oW,Al] at hc;subst hc;cases h;exact hQ σ a w hF hn rfl (gH.refl hR)
 | o::l,k,ms,aos,σ,F,F',S,S',a,w,hl,hc,hn,hF,hR,h,hQ=>by
  simp only[oW] at hc;split at hc
  ·rename_i ao aos' hao haos;cases hc;have⟨hd,hg,hdst,_,hop⟩:=yP hao;rw[fC] at h;have⟨⟨F1,S1⟩,h1,h2⟩:=aA h;have ho:ops[k]? =some o:=by have:=hl 0 (by simp);simpa using this.symm
   have hl':∀j,j<l.length->l[j]? =ops[(k+1)+j]? :=fun j hj=>by have:=hl (j+1) (by simp;omega);simpa [Co,Fm 1 j] using this
   simp only[Ax,List.range'_succ,wpOpsIn,ho];rw[aBV hg hF];unfold zZ at h1;rw[bO] at h1;have hd':yD a.tmps.size o.dst=true:=by rw[hn];exact hd
   split at h1
   ·rename_i hw;rw[if_pos hw];have⟨hnd,hnext⟩:=aIA hA hB hcall hop hdst hd' hF hR h1;refine⟨fun _ _=>trivial,?_⟩;rw[semAt_eq hnd];refine aAF hnext ?_;rintro V w' ⟨σ1,hF1,hE1⟩;exact qX hA hB hcall l (k+1) ms.tail aos' σ1 F1 F' S1 S' _ w' hl' haos (by rw[aCR];exact hn) hF1 hE1.rep h2 (fun σ' a' w'' q1 q2 q3 q4=>hQ σ' a' w'' q1 q2 (by rw[q3,put_defers]) (hE1.trans q4))
   ·rename_i hw;rw[if_neg hw];cases h1;refine⟨fun _ _=>trivial,?_⟩;have hund:Rv P σ .undef undef:=by simp only[AV.undef,undef,Rv];exact⟨[],rfl,cJ.2 rfl⟩
    exact qX hA hB hcall l (k+1) ms.tail aos' σ _ F' S S' _ w hl' haos (by rw[aCR];exact hn) (by rw[hdst];exact hF.put hd' hund) hR h2 (fun σ' a' w'' q1 q2 q3 q4=>hQ σ' a' w'' q1 q2 (by rw[q3,put_defers]) q4)
  ·cases hc
end Go.Ev
