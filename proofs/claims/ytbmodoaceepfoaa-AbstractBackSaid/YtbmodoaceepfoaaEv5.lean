import Derived.Test.YtbmodoaceepfoaaEv4
import Derived.Laws.MakeOwn
import Derived.Lib.ConvBytes
import Derived.CallsIn
import Derived.Deep.Upon
import Derived.OrdersIn
import Derived.RangeFuncLeaves
import Derived.LoopNIn
import Derived.Laws.Externs
import Derived.KernelRfl
set_option linter.all false
namespace Go.Ev
variable {P:Program}{σ:Env}{S:St}{w:World}
variable {w':World}{C:Array Value}{t:TypeId}{fz:Nat×Nat}{cs z:cd}{x:Operand}{F:Fr}{i:TypeInfo}
def aC8(P:Program)(σ:Env)(w:World)(id:Nat)(v:AV)(bl:AB)(V:Value)(w':World):Prop:=
 ∃ob e,w'.heap=w.heap.push ob/\w'.os=w.os/\w'.tape=w.tape/\w'.output=w.output/\
  sC P (upd σ id ⟨w.heap.size,0,e⟩) w' ⟨w.heap.size,0,e⟩ bl/\xH bl/\Rv P (upd σ id ⟨w.heap.size,0,e⟩) v V
def aDP(a:w'.heap=w.heap.push (.cells C t fz))(j:Nat):w'.cell? ⟨w.heap.size,j,none⟩=C[j]? :=by
 simp [World.cell?,a]
def aHp(a:w'.heap=w.heap.push (.cells C t fz))(j:Nat)(h:¬ (fz.1<=j/\j<fz.2)):w'.frozen? ⟨w.heap.size,j,none⟩=false:=by
 simp [World.frozen?,a];intro b;omega
def uN{C:List Value}{X:List Value}{o:Bool}{e s:Nat}(b:w'.heap=w.heap.push (.cells (C++X).toArray t fz))(c:(C++X).length<=fz.1\/fz.1=fz.2)
  (g:jE P σ cs C) (i:∀u∈C,u.oneCell'=true) (k:o=true->X.length=e * s):sC P σ w' ⟨w.heap.size,0,e⟩ (.cells cs o s):=by
 refine⟨C,g,i,fun j v f=>?_,fun j a=>?_⟩
 .rw[Am,aDP b];have a:=(Ai.1 f).1;simp [Ao a,f]
 .have d:j<(C++X).length:=by
   rw[Aj];cases o
   .simp at a;omega
   .have:=k rfl;simp at a;omega
  rw[Am,aDP b];refine⟨?_,aHp b j (by rcases c with h|h<;>omega)⟩;simp;simpa using d
def aIi{o:Oper}{cells:cd}{a:Act}(b:o.op= .alloc t)(c:lD P t=some cells)(id:Nat)(d:σ id=none):
  ∃V w',(execOp a.eval o).run P w= .ok (.value V) w'/\aC8 P σ w id (.ptr id 0) (.cells cells false 0) V w':=by
 have⟨i,Z,hi,e,f,g⟩:=nQ (σ:=upd σ id ⟨w.heap.size,0,0⟩) c;refine⟨.pointer (some ⟨w.heap.size,0,none⟩),w.alloc (.cells Z.cells t),?_,⟨.cells Z.cells t,0,rfl,rfl,rfl,rfl,?_,trivial,?_⟩⟩
 .simp [execOp,b,Instr.alloc,zE hi e,newVar,newRow]
 .refine uN (X:=[]) (t:=t) (fz:=(0,0)) ?_ (.inr rfl) f g (by simp);show w.heap.push _=_;simp
 .simp only[Rv];exact⟨_,upd_same _ _,by simp⟩
def aLa{o:Oper}{X:cT}{a:Act}(d:o.op= .box t x)(e:iK P x=some X)(f:qN P σ F a.tmps)(g:mD P σ S w)(b:(X.val F).cells=some cs)(id:Nat)(c:σ id=none):
  ∃V w',(execOp a.eval o).run P w= .ok (.value V) w'/\aC8 P σ w id (.ptr id 0) (.cells cs false 0) V w':=by
 have h:=(cM f g e).mono (iH (L:=⟨w.heap.size,0,0⟩) c);have⟨i,j⟩:=aBa h b;refine⟨.pointer (some ⟨w.heap.size,0,none⟩),w.alloc (.cells (a.eval x).cells t),?_,⟨.cells (a.eval x).cells t,0,rfl,rfl,rfl,rfl,?_,trivial,?_⟩⟩
 .simp [execOp,d,Instr.box,newVar,newRow]
 .refine uN (X:=[]) (t:=t) (fz:=(0,0)) ?_ (.inr rfl) i j (by simp);show w.heap.push _=_;simp
 .simp only[Rv];exact⟨_,upd_same _ _,by simp⟩
def aIw{o:Oper}{a:Act}(b:o.op= .makeMap t none)(id:Nat):
  ∃V w',(execOp a.eval o).run P w= .ok (.value V) w'/\aC8 P σ w id (.map id) (.map []) V w':=by
 refine⟨.map (some w.heap.size),w.alloc (.map #[] 0),?_,⟨.map #[] 0,0,rfl,rfl,rfl,rfl,?_,trivial,?_⟩⟩
 .simp [execOp,b,Instr.makeMap]
 .refine⟨#[],0,?_,rfl⟩;show(w.heap.push _)[w.heap.size]? =_;simp
 .simp only[Rv];exact⟨_,upd_same _ _,rfl⟩
theorem aCL{F:Fr}{a:Act}{size:Nat}(g:qN P σ F a.tmps)(k:mD P σ S w):∀ {ps:List (Nat×Operand)} {qs:List (Nat×cT)},zW P ps=some qs->
  (ps.map fun p=>(p.1,a.eval p.2)).length=(lP size F qs).length/\
  ∀ (j i:Nat) (V:Value) (off n:Nat) (v:AV),(ps.map fun p=>(p.1,a.eval p.2))[j]? =some (i,V)->(lP size F qs)[j]? =some (off,n,v)->(fun i=>some (i * size,size)) i=some (off,n)/\Rv P σ v V
 | [],qs,h=>by
  simp only[zW,Au] at h;subst h;exact⟨rfl,fun j i V off n v e=>by simp at e⟩
 | (i,x)::ps,qs,h=>by
  simp only[zW] at h;split at h
  .rename_i X l m f;cases h;have⟨e,o⟩:=aCL (size:=size) g k f;refine⟨by simp [lP] at e ⊢;exact e,fun j q V d r v b c=>?_⟩;cases j with
   | zero=>
    simp only[Dg,Eo,lP,Au,Prod.mk.injEq] at b c;obtain⟨rfl,rfl⟩:=b;obtain⟨rfl,rfl,rfl⟩:=c;exact⟨rfl,cM g k m⟩
   | succ j=>
    simp only[Dg,Ea,lP] at b c;exact o j q V d r v b c
  .cases h
theorem pN(Z:List Value):∀n:Nat,(List.range (n * Z.length)).map (fun i=>Z[i % Z.length]!)=repeatL Z n
 | 0=>by simp [xE]
 | n+1=>by
  rw[Dr,Nat.add_comm,List.range_add,Co,mG];congr 1
  .apply Dc
   .simp
   .intro j a b;simp only[Al,Bj] at a;simp [Nat.mod_eq_of_lt a,List.getElem!_eq_getElem?_getD,a]
  .rw[<-pN Z n,Fi];apply Eq;intro j _;simp
theorem aAR{z:cd}{Z:List Value}(h:jE P σ z Z):∀n,jE P σ (repeatL z n) (repeatL Z n)
 | 0=>dO.2 rfl
 | n+1=>by rw[mG,mG];exact h.append (aAR h n)
theorem aAr{Z:List Value}(h:∀u∈Z,u.oneCell'=true):∀n,∀u∈repeatL Z n,u.oneCell'=true
 | 0,u,a=>by simp [xE] at a
 | n+1,u,a=>by
  rw[mG] at a;rcases Bi.1 a with a|a
  .exact h u a
  .exact aAr h n u a
def vX{e:TypeId}(h:rB P t=some (e,i)):P.underlying t=some (.slice e)/\P.info? e=some i:=by
 unfold rB at h;split at h
 .rename_i c a;have⟨d,hi,b⟩:=Bb.1 h;cases b;exact⟨a,hi⟩
 .cases h
def sE{e:TypeId}(hi:P.info? e=some i)(h:oH P e i=some z):
  ∃Z,i.zero=some Z/\jE P σ z Z.cells.toList/\(∀u∈Z.cells.toList,u.oneCell'=true)/\Z.cells.size=i.size/\z.length=i.size:=by
 unfold oH at h;split at h
 .rename_i j d;rw[Bn] at h;split at h
  .rename_i b;rw[Bl] at b;cases h;have⟨k,Z,a,f,c,g⟩:=nQ (σ:=σ) d;rw[hi] at a;cases a;exact⟨Z,f,c,g,by have:=c.length;simp at this;omega,b⟩
  .cases h
 .cases h
def aGR{o:Oper}{e:TypeId}{n:Nat}{ps:Array (Nat×Operand)}{qs:List (Nat×cT)}{a:Act}(v:o.op= .buildSlice t n ps)(A:rB P t=some (e,i))
  (N:n * i.size<=65536) (B:oH P e i=some z) (C:zW P ps.toList=some qs) (D:qN P σ F a.tmps) (E:mD P σ S w) (id:Nat) (q:σ id=none)
  {cs:cd} (h:eI (repeatL z n) (lP i.size F qs)=some cs):
  ∃V w',(execOp a.eval o).run P w= .ok (.value V) w'/\aC8 P σ w id (.sl id 0 n n false) (.cells cs false 0) V w':=by
 have⟨y,hi⟩:=vX A;have⟨Z,G,H,I,r,O⟩:=sE (σ:=σ) hi B;have⟨J,K⟩:=aCL (size:=i.size) D E C;have⟨R,f,s,u⟩:=wF J K (aAR H n) (aAr I n) h;have M:=iH (L:=⟨w.heap.size,0,0⟩) q;have g:(ps.map fun(i,x)=>(i,a.eval x)).toList=ps.toList.map fun p=>(p.1,a.eval p.2):=by simp
 have c:¬ (n * i.size>2 ^ 24):=by
  have:(2:Nat) ^ 24=16777216:=rfl;omega
 refine⟨.slice (some ⟨w.heap.size,0,none⟩) n n,w.alloc (.cells ⟨R⟩ e),?_,⟨.cells ⟨R⟩ e,0,rfl,rfl,rfl,rfl,?_,trivial,?_⟩⟩
 .by_cases m:n * i.size=0
  .have b:Array.range (n * i.size)= #[]:=by rw[m];rfl
   have d:=repeatL_length Z.cells.toList n;simp only[Er,r,m] at d;have k:=List.eq_nil_of_length_eq_zero d;rw[k] at f;simp only[execOp,v,Instr.buildSlice,Sem.run_bind,run_underlying y,Result.andThen_ok,sizeOf,typeInfo,run_program,hi,Sem.run_pure,if_neg c,g,if_pos m,b,Array.map_empty,f,newRow,run_newObj];rfl
  .have l:(Array.range (n * i.size)).map (Z.cells[· % Z.cells.size]!)=(⟨repeatL Z.cells.toList n⟩:Array Value):=by
    have:=pN Z.cells.toList n;simp only[Er,r] at this;apply Ft;simp only[Et,Array.toList_range,r];rw[<-this];apply Eq;intro j _;simp [Array.getElem!_eq_getD,Bm]
   simp only[execOp,v,Instr.buildSlice,Sem.run_bind,run_underlying y,Result.andThen_ok,sizeOf,typeInfo,run_program,hi,Sem.run_pure,if_neg c,g,if_neg m,zE hi G,l,f,newRow,run_newObj];rfl
 .refine uN (X:=[]) (t:=e) (fz:=(0,0)) ?_ (.inr rfl) (s.mono M) u (by simp);show w.heap.push _=_;simp
 .simp only[Rv];exact⟨_,upd_same _ _,by simp⟩
def aFD{o:Oper}{e:TypeId}{lo co:Operand}{L C:cT}{a:Act}(B:o.op= .makeSlice t lo co)(D:rB P t=some (e,i))
  (E:oH P e i=some z) (G:iK P lo=some L) (H:iK P co=some C) (x:qN P σ F a.tmps) (y:mD P σ S w) (id:Nat) (p:σ id=none) {v:AV} {bl:AB}
  (h:zF e i.size i.bytes z L C F id=some (v,bl)):
  ∃V w',(execOp a.eval o).run P w= .ok (.value V) w'/\aC8 P σ w id v bl V w':=by
 have⟨I,hi⟩:=vX D;have⟨Z,J,K,M,A,U⟩:=sE (σ:=σ) hi E;have⟨l,N,h⟩:=aR h;have⟨c,O,h⟩:=aR h;have⟨f,h⟩:=cN h;have⟨g,h⟩:=cN h;have⟨k,h⟩:=cN h;cases h;have f:=Bc f;have g:=Bc g;have k:=Bc k;unfold room at g k;have⟨Q,q⟩:=sM N;have⟨R,r⟩:=sM O;have m:=cM x y G;have n:=cM x y H;rw[q] at m;rw[r] at n;simp only[Rv] at m n;have T:=iH (L:=⟨w.heap.size,0,0⟩) p;have d:=run_make (P:=P) w t e i Z I hi J Q R (Int.ofNat l) (Int.ofNat c) (by simp) (by simpa using f) (by
  have:((i.bytes * c:Nat):Int)<=281474976710656:=by omega
  simpa using this) (by simp;omega)
 have b:madeCells Z.cells (c * i.size)=(⟨repeatL Z.cells.toList c⟩:Array Value):=by
  have:=pN Z.cells.toList c;simp only[Er,A] at this;apply Ft;simp only[madeCells,Et,Array.toList_range,A];rw[<-this];apply Eq;intro j _;simp [Array.getElem!_eq_getD,Bm]
 refine⟨.slice (some ⟨w.heap.size,0,none⟩) l c,w.alloc (.cells ⟨repeatL Z.cells.toList c⟩ e),?_,⟨.cells ⟨repeatL Z.cells.toList c⟩ e,0,rfl,rfl,rfl,rfl,?_,trivial,?_⟩⟩
 .have s:(Int.ofNat l).toNat=l:=rfl;have u:(Int.ofNat c).toNat=c:=rfl;rw[s,u,b] at d;simp only[execOp,B,m,n,Sem.run_bind,d,Result.andThen_ok,Sem.run_pure]
 .refine uN (X:=[]) (t:=e) (fz:=(0,0)) ?_ (.inr rfl) ((aAR K c).mono T) (aAr M c) (by simp);show w.heap.push _=_;simp
 .simp only[Rv];exact⟨_,upd_same _ _,by simp⟩
def xJ(w:World)(e:TypeId)(s:ByteArray):(Lib.bytesWorld w e s).heap=w.heap.push (.cells (Lib.bytesCells w e s) e ((Lib.bytesCells w e s).size,(Lib.bytesCells w e s).size+1)):=by
 apply Array.ext_getElem?;intro j;by_cases a:j<w.heap.size
 .rw[Lib.bytesWorld_at_old w e s j a,Ff,if_neg au]
 .by_cases b:j=w.heap.size
  .subst b;rw[Lib.bytesWorld_at_new,Array.getElem?_push_size]
  .rw[Array.getElem?_eq_none (by rw[Lib.bytesWorld_size];omega),Array.getElem?_eq_none (by simp;omega)]
def sO(s:ce)(c:Bytes s):Go.byteCells (gL s)=s.map fun b=>Value.int .u8 (Int.ofNat b):=by
 unfold Go.byteCells;simp only[gL,Fi];apply Eq;intro b a;show Value.int .u8 (((UInt8.ofNat b).toNat:Nat):Int)=_;rw[aDs (c b a)];rfl
theorem uE:∀ (s:ce),jE P σ (byteCells s) (s.map fun b=>Value.int .u8 (Int.ofNat b))
 | []=>dO.2 rfl
 | b::s=>dK.2 ⟨_,_,rfl,by simp only[Rv],uE s⟩
def aEY{o:Oper}{src f e:TypeId}{h:AV}{a:Act}(l:o.op= .convert src f x)(m:P.underlying src=some .string)(n:P.underlying f=some (.slice e))(p:P.underlying e=some (.int .u8))
  (g:Rv P σ h (a.eval x)) (id:Nat) (q:σ id=none) {v:AV} {bl:AB} (j:uO h id=some (v,bl)):∃V w',(execOp a.eval o).run P w= .ok (.value V) w'/\aC8 P σ w id v bl V w':=by
 cases h<;>simp only[uO,reduceCtorEq,Au,Prod.mk.injEq] at j;obtain⟨rfl,rfl⟩:=j;rename_i s;simp only[Rv] at g;have⟨g,r⟩:=g;have d:=Lib.run_convert_string_bytes (P:=P) w src f e (gL s) m n p;have i:=grownCap_ge w (gL s).size 0 e;rw[oF] at d i;refine⟨_,_,by simp only[execOp,l,g,Sem.run_bind,d,Result.andThen_ok,Sem.run_pure];rfl,?_⟩;refine⟨_,grownCap w s.length 0 e - s.length,xJ w e (gL s),?_,?_,?_,?_,trivial,?_⟩
 .simp [Lib.bytesWorld,World.freeze,World.alloc,World.drew, -World.alloc_eq, -World.drew_eq]
 .simp [Lib.bytesWorld,World.freeze,World.alloc,World.drew, -World.alloc_eq, -World.drew_eq]
 .simp [Lib.bytesWorld,World.freeze,World.alloc,World.drew, -World.alloc_eq, -World.drew_eq]
 .have c:Lib.bytesCells w e (gL s)=((s.map fun b=>Value.int .u8 (Int.ofNat b))++List.replicate (grownCap w s.length 0 e - s.length) (Value.int .u8 0)).toArray:=by
   apply Ft;unfold Lib.bytesCells;rw[oF];simp only[Array.toList_append,Et,Array.toList_replicate];congr 1;exact sO s r
  have k:=xJ w e (gL s);rw[c] at k;refine uN (s:=1) k (.inl ?_) (uE s) (fun u t=>?_) (fun _=>?_)
  .simp
  .obtain⟨_,_,rfl⟩:=Cq.1 t;rfl
  .simp
 .simp only[Rv];refine⟨_,upd_same _ _,?_⟩;rw[gD];simp only[El,Bs];congr 1;omega
end Go.Ev
namespace Go.Ev
variable {P:Program}{σ:Env}{S:St}{w:World}
def aFN{o:Oper}{I:zD}(d:uI P o.op=some (.a I)){F:Fr}{a:Act}(A:qN P σ F a.tmps)(B:mD P σ S w)(id:Nat)(j:σ id=none){v:AV}{bl:AB}(p:uH I F id=some (v,bl)):
  ∃V w',(execOp a.eval o).run P w= .ok (.value V) w'/\aC8 P σ w id v bl V w':=by
 have⟨D,op,type,pos,after,guard⟩:=o;simp only at d;cases op<;>(try (first | (have⟨y,_,g⟩:=dS d;cases g;done) | (have⟨y,_,g⟩:=lC d;cases g;done) | (cases d;done)))
 case alloc t=>
  have⟨y,h,g⟩:=kQ d;cases g;have⟨z,s,h⟩:=bJ h;cases h;cases p;exact aIi rfl s id j
 case box t x=>
  have⟨y,h,g⟩:=kQ d;cases g;have⟨X,E,h⟩:=bJ h;cases h;have⟨cs,G,H⟩:=aR (show(bG (X.val F).cells fun cs=>some (AV.ptr id 0,AB.cells cs false 0))=some (v,bl) from p);cases H;exact aLa rfl E A B G id j
 case build t ps=>
  simp only[uI] at d;split at d
  .rw[Bn] at d;split at d
   .have⟨y,_,g⟩:=dS d;cases g
   .cases d
  .have⟨y,_,g⟩:=dS d;cases g
  .cases d
 case buildSlice t n ps=>
  have⟨y,h,g⟩:=kQ d;cases g;have⟨⟨e,i⟩,u,h⟩:=bJ h;simp only at h;split at h
  .cases h
  .rename_i Q;have⟨z,s,h⟩:=bJ h;have⟨qs,J,h⟩:=bJ h;cases h;have⟨cs,G,H⟩:=aR (show(bG (eI (repeatL z n) (lP i.size F qs)) fun cs=>some (AV.sl id 0 n n false,AB.cells cs false 0))=some (v,bl) from p);cases H;exact aGR rfl u au s J A B id j G
 case makeSlice t l c=>
  have⟨y,h,g⟩:=kQ d;cases g;have⟨⟨e,i⟩,u,h⟩:=bJ h;have⟨z,s,h⟩:=bJ h;have⟨L,K,h⟩:=bJ h;have⟨C,M,h⟩:=bJ h;cases h;exact aFD rfl u s K M A B id j p
 case makeMap t r=>
  cases r<;>simp only[uI,reduceCtorEq] at d;have⟨y,h,g⟩:=kQ d;cases g;cases h;cases p;exact aIw rfl id
 case insert t m k x=>
  simp only[uI] at d;split at d
  .have⟨y,_,g⟩:=lC d;cases g
  .cases d
 case mapUpdate t m k x=>
  simp only[uI] at d;split at d
  .have⟨y,_,g⟩:=lC d;cases g
  .cases d
 case convert src D x=>
  simp only[uI] at d;split at d
  .have⟨y,_,g⟩:=dS d;cases g
  .have⟨y,_,g⟩:=dS d;cases g
  .have⟨y,_,g⟩:=dS d;cases g
  .split at d
   .have⟨y,_,g⟩:=dS d;cases g
   .cases d
  .rename_i e N O;split at d
   .rename_i u;have⟨y,h,g⟩:=kQ d;cases g;have⟨X,E,h⟩:=bJ h;cases h;exact aEY rfl N O u (cM A B E) id j p
   .cases d
  .cases d
 case makeInterface t x=>
  simp only[uI] at d;split at d
  .cases d
  .have⟨y,_,g⟩:=dS d;cases g
  .cases d
 case makeFunc fn x y=>
  cases fn<;>(first | (have⟨y,_,g⟩:=dS d;cases g;done) | (cases d;done))
 case slice t x lo R mx=>
  simp only[uI,Bn] at d;split at d
  .cases d
  .split at d
   .have⟨y,_,g⟩:=dS d;cases g
   .have⟨y,_,g⟩:=dS d;cases g
   .cases d
 case fieldAddr t x f=>
  simp only[uI] at d;split at d
  .have⟨y,_,g⟩:=dS d;cases g
  .cases d
 case field t x f=>
  simp only[uI] at d;split at d
  .have⟨y,_,g⟩:=dS d;cases g
  .cases d
 case indexAddr t x f=>
  simp only[uI] at d;split at d
  .have⟨y,_,g⟩:=dS d;cases g
  .have⟨y,_,g⟩:=dS d;cases g
  .cases d
 case lookup t x f ok=>
  simp only[uI] at d;split at d
  .have⟨y,_,g⟩:=dS d;cases g
  .cases d
 case call c=>
  have⟨callee,args,q⟩:=c;cases callee with
  | value f=>
   simp only[uI] at d;split at d
   .cases d
   .have⟨y,_,g⟩:=lC d;cases g
  | invoke r m=>cases d
  | builtin b=>
   simp only[uI] at d;split at d
   .split at d
    all_goals (first | (have⟨y,_,g⟩:=dS d;cases g;done) | (cases d;done))
   .have⟨y,_,g⟩:=dS d;cases g
   .have⟨y,_,g⟩:=dS d;cases g
   .split at d
    .rw[Bn] at d;split at d
     .have⟨y,_,g⟩:=lC d;cases g
     .cases d
    .cases d
   .cases d
theorem heap_setCells_other(g:Nat):∀ (vs:List Value) (o:Nat) (w:World) (r:Nat),r≠g->(w.setCells g o vs).heap[r]? =w.heap[r]?
 | [],o,w,r,h=>rfl
 | v::vs,o,w,r,h=>by
  rw[World.setCells,heap_setCells_other g vs (o+1) _ r h];exact heap_setCell_other w ⟨g,o,none⟩ r v h
theorem size_setCells(g:Nat):∀ (vs:List Value) (o:Nat) (w:World),(w.setCells g o vs).heap.size=w.heap.size
 | [],o,w=>rfl
 | v::vs,o,w=>by rw[World.setCells,size_setCells g vs (o+1)];simp
theorem os_setCells(g:Nat):∀ (vs:List Value) (o:Nat) (w:World),(w.setCells g o vs).os=w.os/\(w.setCells g o vs).tape=w.tape/\(w.setCells g o vs).output=w.output
 | [],o,w=>⟨rfl,rfl,rfl⟩
 | v::vs,o,w=>by rw[World.setCells];exact os_setCells g vs (o+1) _
def aCR(p:mD P σ S w){b off:Nat}{cs:cd}{a:List Value}(q:jE P σ cs a)(F:∀u∈a,u.oneCell'=true){t:St}(h:uF S b off cs=some t):
  ∃L,σ b=some L/\w.there L.r (L.d+off) a.length/\jL P σ S w σ t (w.setCells L.r (L.d+off) a):=by
 have⟨bl,x,h⟩:=aR h;cases bl<;>simp only[aCf,reduceCtorEq] at h;rename_i old o s;have⟨cs',c,h⟩:=aR h;cases h;have⟨L,y,G,Os,z,A,B,C⟩:=p.blk b _ x;have H:=(aBp c).1;have D:=z.length;have I:=q.length;have g:w.there L.r (L.d+off) a.length:=fun j m=>by
  have:=C (off+j) au
  rwa [<-Cy] at this
 refine⟨L,y,g,?_⟩;have⟨J,K,M⟩:=os_setCells L.r a (L.d+off) w;have e:=z.put q c;refine jL.write p x trivial trivial y (fun r N=>heap_setCells_other L.r a _ w r N) (size_setCells L.r a _ w) J K M ?_;refine⟨Os.take off++a++Os.drop (off+a.length),e,fun u d=>?_,fun j v f=>?_,fun j m=>?_⟩
 .simp only[Bi] at d;rcases d with(d|d)|d
  .exact A u (Dz d)
  .exact F u d
  .exact A u (Fe d)
 .have i:(Os.take off++a++Os.drop (off+a.length))[j]? =if j<off then Os[j]? else if j<off+a.length then a[j - off]? else Os[j]? :=
   aPF (l:=Os) (vs:=a) (k:=off) (by rw[put_eq,if_pos au]) j
  rw[i] at f;split at f
  .rename_i E;rw[World.cell?_setCells_out L.r a (L.d+off) w _ (fun _ _=>.inl (by simp only;omega))];exact B j v f
  .split at f
   .rename_i O Q;have:=World.cell?_setCells_in L.r a (L.d+off) w (fun k R=>(g k R).1) (j - off) au;rw[show L.d+off+(j - off)=L.d+j by omega] at this;rw[this];rw[Ab au] at f;exact f
   .rename_i O Q;rw[World.cell?_setCells_out L.r a (L.d+off) w _ (fun _ _=>.inr (by simp only;omega))];exact B j v f
 .have n:j<Os.length+if o=true then L.e * s else 0:=by
   have:(Os.take off++a++Os.drop (off+a.length)).length=Os.length:=by simp;omega
   rw[this] at m;exact m
  have:=C j n;exact⟨World.isSome_setCells L.r a (L.d+off) w _ this.1,by rw[World.frozen?_setCells];exact this.2⟩
end Go.Ev
namespace Go.Ev
variable {P:Program}{σ:Env}{S:St}{w:World}
variable {u t ty:TypeId}{i:TypeInfo}
def aL9(f:aPX P u i=true)(v:mD P σ S w){x:AV}{X:Value}(k:Rv P σ x X){n:Nat}{new:cd}(g:mP x=some n)(d:eU x S.h i.size n=some new):
  ∃News,Src P i.size u X n News w/\jE P σ new News:=by
 have a:(∃y,P.underlying u=some (.slice y))\/P.underlying u=some .string:=by
  unfold aPX at f;split at f
  .exact .inl ⟨_, ‹_›⟩
  .exact .inr ‹_›
  .cases f
 cases x<;>simp only[mP,reduceCtorEq,Au] at g<;>simp only[eU] at d<;>simp only[Rv] at k
 .obtain⟨rfl,q⟩:=k;rename_i s;rw[gD] at g;subst g;have⟨m,d⟩:=cN d;rw[Bl] at m;have⟨r,t,z⟩:=aR d;cases z;rw[iG,if_pos (Af _),List.take_length] at t;cases t;refine⟨s.map fun b=>Value.int .u8 (Int.ofNat b),⟨a,fun _=>by simp [Builtin.lenOf,oF],?_,?_,by simp [m],fun u f=>by obtain⟨_,_,rfl⟩:=Cq.1 f;rfl⟩,uE s⟩
  .rw[m,<-sO s q];have:=firstCells_string (P:=P) (gL s) w;rw[oF] at this;exact this
  .rw[m,<-sO s q];have:=firstCells_string (P:=P) (gL s) w.drew;rw[oF] at this;exact this
 .obtain⟨L,B,rfl⟩:=k;subst g;have⟨F,o,l,C,p,D,E⟩:=aAU v d;rw[B] at l;cases l;have e:∀j u,o[j]? =some u->w.cell? ((⟨L.r,L.d+_,none⟩:Addr).add j)=some u:=fun j u f=>by rw[Addr.add_mid];exact E j u f
  exact⟨o,⟨a,fun _=>rfl,run_firstCells_some w _ _ _ _ _ o p e,run_firstCells_some w.drew _ _ _ _ _ o p (by simpa using e),p,D⟩,C⟩
 .subst k;subst g;have⟨_,d⟩:=cN d;cases d;exact⟨[],⟨a,fun _=>rfl,run_firstCells_none w _ _ _ _,run_firstCells_none w.drew _ _ _ _,by simp,fun _ h=>by cases h⟩,dO.2 rfl⟩
 .obtain⟨A,c,rfl⟩:=k;subst g;have⟨_,d⟩:=cN d;cases d;exact⟨[],⟨a,fun _=>rfl,run_firstCells_some w _ _ _ _ _ [] (by simp) (fun j u h=>by simp at h),run_firstCells_some w.drew _ _ _ _ _ [] (by simp) (fun j u h=>by simp at h),by simp,fun _ h=>by cases h⟩,dO.2 rfl⟩
def tP{e:TypeId}{Z:Value}(q:P.underlying t=some (.slice e))(hi:P.info? e=some i)(r:i.zero=some Z)(g:Z.cells.size=i.size)(l:mD P σ S w)
  {base:Option Addr} {sLen sCap n:Nat} {old new:cd} {Olds a:List Value} (s:jE P σ old Olds) (h:∀u∈Olds,u.oneCell'=true) (v:Olds.length=sLen * i.size)
  (c:(Builtin.firstCells i.size sLen (.slice base sLen sCap)).run P w.drew= .ok Olds.toArray w.drew) {X:Value} (m:Src P i.size u X n a w) (x:jE P σ new a)
  (o:sCap<sLen+n) (y:sLen+n<=room) (z:(sLen+n) * i.bytes<=room):
  ∃V w' d,(Builtin.append_ #[t,u] ty #[.slice base sLen sCap,X]).run P w= .ok V w'/\Rv P d (.sl S.nx 0 (sLen+n) (sLen+n) true) V/\
   jL P σ S w d ⟨S.h.set S.nx (some (.cells (yX old new) true i.size)),Nat.succ S.nx⟩ w':=by
 unfold room at y z;have b:=run_append_grow_src w t u ty e i Z q hi r base sLen sCap Olds c X n a m o au (growslice_fits o au);have j:=grownCap_ge w (sLen+n) sCap e;generalize p:grownCap w (sLen+n) sCap e=cap at b j;have k:=l.fresh S.nx (Af _);refine⟨_,_,upd σ S.nx ⟨w.heap.size,0,cap - (sLen+n)⟩,b,?_,?_⟩
 .simp only[Rv];refine⟨_,upd_same _ _,?_⟩;simp only[El,Bs];congr 1;omega
 .refine jL.alloc l (ob:=.cells ((Olds++a).toArray++Builtin.zeroCells Z.cells (cap - (sLen+n))) e) rfl rfl rfl rfl ?_ trivial;refine uN (C:=Olds++a) (X:=(Builtin.zeroCells Z.cells (cap - (sLen+n))).toList) (t:=e) (fz:=(0,0)) ?_ (.inr rfl) ?_ ?_ (fun _=>?_)
  .show w.heap.push _=_;congr 2;apply Ft;simp
  .rw[fS];exact(s.append x).mono (iH k)
  .intro u f;rcases Bi.1 f with f|f
   .exact h u f
   .exact m.one u f
  .simp [Builtin.zeroCells,g]
def aGP{e:TypeId}{z:cd}(he:rB P t=some (e,i))(B:aPX P u i=true)(hz:oH P e i=some z)(p:mD P σ S w)
  {s x:AV} {Sv X:Value} (Y:Rv P σ s Sv) (hx:Rv P σ x X) {v:AV} {S':St} (h:gG i.bytes i.size s x S=some (v,S')):
  ∃V w' J,(Builtin.append_ #[t,u] ty #[Sv,X]).run P w= .ok V w'/\Rv P J v V/\jL P σ S w J S' w':=by
 have⟨K,hi⟩:=vX he;have⟨Z,hZ,_,_,M,_⟩:=sE (σ:=σ) hi hz;have⟨n,hn,hh⟩:=aR h;clear h;have⟨new,aa,h⟩:=aR hh;clear hh;have⟨a,d,hN⟩:=aL9 B p hx hn aa;have a0:=d.newsLen;have f:n=0->Src P i.size u X 0 [] w:=fun q=>by
  subst q;have:a= []:=List.eq_nil_of_length_eq_zero (by simpa using a0);subst this;exact d
 cases s<;>simp only[aAA,reduceCtorEq] at h
 case ct=>
  simp only[Rv] at Y;subst Y;unfold qS at h;rw[dB] at h;split at h
  .rename_i q;rw[Bl] at q;cases h;exact⟨_,w,σ,run_append_nothing w t u ty e i K hi none 0 0 (Af _) X (f q),by simp only[Rv],jL.refl p⟩
  .rename_i q;rw[Bl] at q;have⟨N,h⟩:=cN h;have⟨O,h⟩:=cN h;cases h;have N:=Bc N;have O:=Bc O;have:=tP (ty:=ty) K hi hZ M p (base:=none) (sLen:=0) (sCap:=0) (old:=[]) (Olds:=[]) (dO.2 rfl) (by simp) (by simp) (run_firstCells_none w.drew _ _ _ _) d hN au (by simpa using N) (by simpa using O);simpa [fS] using this
 case emp=>
  simp only[Rv] at Y;obtain⟨A,c,rfl⟩:=Y;have⟨q,h⟩:=cN h;rw[Bl] at q;cases h;exact⟨_,w,σ,run_append_nothing w t u ty e i K hi (some A) 0 c (Ck _) X (f q),by simp only[Rv];exact⟨A,c,rfl⟩,jL.refl p⟩
 case sl b off len cap o=>
  have a1:=Y;simp only[Rv] at Y;obtain⟨L,hL,rfl⟩:=Y;unfold lR at h;rw[dB] at h;split at h
  .rename_i m;have m:=Bc m;have ab:len+n<=if o=true then cap+L.e else cap:=by split<;>omega
   rw[dB] at h;split at h
   .rename_i q;rw[Bl] at q;cases h;exact⟨_,w,σ,run_append_nothing w t u ty e i K hi _ len _ au X (f q),a1,jL.refl p⟩
   .have⟨S1,a2,h⟩:=aR h;cases h;have⟨L',C,ac,an⟩:=aCR p hN d.one a2;rw[hL] at C;cases C;have D:=run_append_room_src w t u ty e i K hi L.r (L.d+off) len (if o=true then cap+L.e else cap) X n a d ab
     (fun j y=>by have:=(ac j y).1;rwa [show L.d+off+len * i.size=L.d+(off+len * i.size) by omega])
     (fun j y=>by have:=(ac j y).2;rwa [show L.d+off+len * i.size=L.d+(off+len * i.size) by omega])
    refine⟨_,_,σ,D,by simp only[Rv];exact⟨L,hL,rfl⟩,?_⟩;rw[show L.d+off+len * i.size=L.d+(off+len * i.size) by omega];exact an
  .rename_i m;rw[Fk] at m;have⟨N,h⟩:=cN h;have⟨O,h⟩:=cN h;have⟨bl,hb,h⟩:=aR h;have N:=Bc N;have O:=Bc O;have⟨L',C,bb,T⟩:=p.blk b bl hb;rw[hL] at C;cases C;have U:∀ (cs:cd) (I:List Value),jE P σ cs I->(∀u∈I,u.oneCell'=true)->w.rangeAt L.r L.d I->∀old,cut cs off (len * i.size)=some old->
     ∃Olds,jE P σ old Olds/\(∀u∈Olds,u.oneCell'=true)/\Olds.length=len * i.size/\w.rangeAt L.r (L.d+off) Olds/\Olds=(I.drop off).take (len * i.size)/\
      ∀c,(Builtin.firstCells i.size len (.slice (some ⟨L.r,L.d+off,none⟩) len c)).run P w.drew= .ok Olds.toArray w.drew:=by
    intro cs I hC E F old l;have hc:=hC.cut l;have hr:=aFM (i:=off) (n:=len * i.size) F;exact⟨_,hc.1,fun u B=>E u (Fe (Dz B)),hc.2,hr,rfl,fun c=>run_firstCells_some w.drew _ _ _ _ _ _ hc.2 (fun j u B=>by
     rw[Addr.add_mid];simpa using hr j u B)⟩
   cases bl<;>simp only[xX,reduceCtorEq] at h
   .rename_i cs o' sz;have⟨I,hC,E,F,ao⟩:=T;have⟨old,l,h⟩:=aR h;have⟨Olds,hO,G,Q,aw,a3,R⟩:=U cs I hC E F old l;cases o with
    | false=>
     rw[aU] at h;cases h;simp only[Be,Ed];exact tP K hi hZ M p hO G Q (R cap) d hN au N O
    | true=>
     rw[aN] at h;have⟨a5,g1⟩:=cN h;have⟨aI,g2⟩:=cN g1;have⟨W,g3⟩:=cN g2;clear h g1 g2;subst a5;rw[Bl] at aI W;rw[gD] at W;subst aI;cases g3;simp only[El];have bd:=hC.length;by_cases aV:len+n<=cap+L.e
     ·-- in place
      have g:∀j,j<a.length->(w.cell? ⟨L.r,L.d+off+len * i.size+j,none⟩).isSome=true/\w.frozen? ⟨L.r,L.d+off+len * i.size+j,none⟩=false:=by
       intro j y;have a8:off+len * i.size+j<I.length+L.e * i.size:=by
        have e1:(len+n) * i.size<=(cap+L.e) * i.size:=Db _ aV;rw[Du,Du] at e1;omega
       have:=ao (off+len * i.size+j) (by simpa using a8)
       rwa [show L.d+(off+len * i.size+j)=L.d+off+len * i.size+j by omega] at this
      have D:=run_append_room_src w t u ty e i K hi L.r (L.d+off) len (cap+L.e) X n a d aV (fun j y=>(g j y).1) (fun j y=>(g j y).2);have ba:=p.fresh S.nx (Af _);refine⟨_,_,upd σ S.nx ⟨L.r,L.d+off,cap+L.e - (len+n)⟩,D,?_,?_⟩
      .simp only[Rv];refine⟨_,upd_same _ _,?_⟩;simp only[El,Bs];congr 1;omega
      .have⟨e1,e2,e3⟩:=os_setCells L.r a (L.d+off+len * i.size) w;refine jL.rename p hb trivial trivial hL rfl (fun r hr=>heap_setCells_other L.r a _ w r hr) (size_setCells L.r a _ w) e1 e2 e3 ?_;refine⟨Olds++a,?_,?_,fun j v hv=>?_,fun j y=>?_⟩
       .rw[fS];exact(hO.append hN).mono (iH ba)
       .intro u B;rcases Bi.1 B with B|B
        .exact G u B
        .exact d.one u B
       .by_cases y:j<Olds.length
        .rw[Ao y] at hv;rw[World.cell?_setCells_out L.r a _ w _ (fun _ _=>.inl (by simp only;omega))];exact aw j v hv
        .rw[Ap au] at hv;have aZ:=(Ai.1 hv).1;have:=World.cell?_setCells_in L.r a (L.d+off+len * i.size) w (fun k hk=>(g k hk).1) (j - Olds.length) aZ;rw[show L.d+off+len * i.size+(j - Olds.length)=L.d+off+j by omega] at this;simp only;rw[this];rw[Ab aZ] at hv;exact hv
       .have e4:(len+n) * i.size+(cap+L.e - (len+n)) * i.size=(cap+L.e) * i.size:=by rw[<-Du];congr 1;omega
        have e5:(len+n) * i.size=len * i.size+n * i.size:=Du _ _ _;have e6:(cap+L.e) * i.size=cap * i.size+L.e * i.size:=Du _ _ _;simp only[Aj,El] at y;have:=ao (off+j) (by simp only[El];omega);rw[<-Cy] at this;exact⟨World.isSome_setCells L.r a _ w _ this.1,by rw[World.frozen?_setCells];exact this.2⟩
     ·-- a new row;the old name is given up
      have H:=jL.drop p b;have⟨V,w',J,h5,h6,h7⟩:=tP (S:=⟨S.h.set b none,S.nx⟩) (ty:=ty) K hi hZ M H.rep hO G Q (R (cap+L.e)) d hN au N O;exact⟨V,w',J,h5,h6,H.trans h7⟩
   .rename_i cs;have⟨I,hC,E,F⟩:=T;cases o with
    | true=>simp [aN] at h
    | false=>
     rw[aU] at h;have⟨old,l,h⟩:=aR h;have⟨Olds,hO,G,Q,aw,a3,R⟩:=U cs I hC E F old l;cases h;simp only[Be,Ed];exact tP K hi hZ M p hO G Q (R cap) d hN au N O
end Go.Ev
namespace Go.Ev
variable {P:Program}{σ:Env}{S:St}{w:World}
variable {r:Nat}{ob:Obj}{t:TypeId}{x v:AV}{X:Value}
theorem uR.append:∀ {m:List (AV×AV)} {a:List MapEntry} {k v:AV} {e:MapEntry},uR P σ m a->Rv P σ k e.key->Rv P σ v e.val->uR P σ (m++ [(k,v)]) (a++ [e])
 | [],a,k,v,e,h,b,c=>by have h:a= []:=h;subst h;exact⟨e,[],rfl,b,c,rfl⟩
 | (k',v')::m,a,k,v,e,h,b,c=>by
  obtain⟨x,d,rfl,f,g,i⟩:=h;exact⟨x,d++ [e],rfl,f,g,uR.append i b c⟩
theorem uR.modify:∀ {m:List (AV×AV)} {a:List MapEntry} {k v:AV} {K V:Value} (i:Nat),uR P σ m a->Rv P σ k K->Rv P σ v V->
  uR P σ (qJ (fun _=>(k,v)) m i) (a.modify i fun e=>{e with key:=K,val:=V})
 | [],a,k,v,K,V,i,h,_,_=>by have h:a= []:=h;subst h;simp [qJ];rfl
 | (k',v')::m,a,k,v,K,V,i,h,c,d=>by
  obtain⟨x,b,rfl,g,j,f⟩:=h;simp only[qJ,dB];cases i with
  | zero=>exact⟨{x with key:=K,val:=V},b,by simp,c,d,f⟩
  | succ i=>
   rw[if_neg (by simp)];exact⟨x,b.modify i (fun e=>{e with key:=K,val:=V}),by simp,g,j,by simpa using uR.modify i f c d⟩
def oJ(P:Program):Prop:=∀ (σ:Env) (b:TypeId) (e:sR) (k k':AV) (K a:Value),aCh P b=some e->Rv P σ k K->Rv P σ k' a->eqv e k k'=some true->Instr.sameBits 10000 a K=true
theorem aIl:∀ {e:sR} {k:AV} {m:List (AV×AV)} {i j:Nat} {v:AV},sF e k m i=some (some (j,v))->i<=j/\∃k',m[j - i]? =some (k',v)/\eqv e k k'=some true
 | e,k,[],i,j,v,h=>by simp [sF] at h
 | e,k,(k',v')::m,i,j,v,h=>by
  simp only[sF] at h;have⟨b,a,h⟩:=aR h;cases b
  .rw[aU] at h;have⟨g,c,d,f⟩:=aIl h;refine⟨au,c,?_,f⟩;rw[show j - i=(j - Nat.succ i)+1 by omega];simpa using d
  .rw[aN] at h;cases h;exact⟨Af _,k',by simp,a⟩
theorem uR.get:∀ {m:List (AV×AV)} {b:List MapEntry} {i:Nat} {k v:AV},uR P σ m b->m[i]? =some (k,v)->∃e,b[i]? =some e/\Rv P σ k e.key/\Rv P σ v e.val
 | [],b,i,k,v,h,a=>by simp at a
 | (k',v')::m,b,i,k,v,h,a=>by
  obtain⟨x,c,rfl,d,f,g⟩:=h;cases i with
  | zero=>simp at a;obtain⟨rfl,rfl⟩:=a;exact⟨x,by simp,d,f⟩
  | succ i=>simp at a;have⟨e,j,l⟩:=uR.get g a;exact⟨e,by simpa using j,l⟩
def pO{old:Obj}(h:w.heap[r]? =some old)(a:∀c e f,old≠ .cells c e f):(setObj r ob).run P w= .ok () {w with heap:=w.heap.setIfInBounds r ob}:=by
 simp only[setObj,Sem.run,h]
def aAJ(h:w.heap[r]? =some ob)(a:∀c e f,ob≠ .cells c e f):(getObj r).run P w= .ok ob w:=by
 simp only[getObj,Sem.run,h]
theorem aBO(G:aAm P)(Z:oJ P){q et:TypeId}{e:sR}(H:P.underlying t=some (.map q et))(a:aCh P q=some e)(I:mD P σ S w){m k:AV}{M K:Value}(J:Rv P σ m M)(i:Rv P σ k K)(N:Rv P σ x X)
  {v:AV} {O:St} (h:rC m e k x S=some (v,O)):v= .undef/\∃w',(Instr.mapUpdate t M K X).run P w= .ok () w'/\jL P σ S w σ O w':=by
 cases m<;>simp only[rC,reduceCtorEq] at h;rename_i b;have⟨Q,g,h⟩:=aR h;have⟨bl,T,g⟩:=aR g;have⟨r,h2,h⟩:=aR h;cases h;refine⟨rfl,?_⟩;have⟨d,U⟩:=aCI h2;cases bl<;>simp only[tQ,reduceCtorEq,Au] at g;rename_i aa;have g:=g.symm;subst g;have⟨L,V,u,y,c,z,s⟩:=I.blk b _ T;simp only[Rv] at J;obtain⟨L',l,rfl⟩:=J;rw[V] at l;cases l;have⟨R,W,A⟩:=aAn (w:=w) G.eq a i s U;have n:=G.key σ w q e k K false a i d;have Y:=aAJ (P:=P) z (by simp);have key:∀ob,sC P σ {w with heap:=w.heap.setIfInBounds L.r ob} L (.map (aAu r Q k x))->
   jL P σ S w σ ⟨S.h.set b (some (.map (aAu r Q k x))),S.nx⟩ {w with heap:=w.heap.setIfInBounds L.r ob}:=fun ob B=>
  jL.write I T trivial trivial V (fun r hr=>by simp [Array.getElem?_setIfInBounds_ne (Cg hr)]) (by simp) rfl rfl rfl B
 have o:∀ob,(w.heap.setIfInBounds L.r ob)[L.r]? =some ob:=fun ob=>by
  rw[Array.getElem?_setIfInBounds_self_of_lt u]
 cases r with
 | none=>
  cases R with
  | some _=>exact A.elim
  | none=>
   refine⟨_,?_,key (.map (y.push {key:=K,val:=X,born:=c}) (c+1)) ?_⟩
   .simp only[Instr.mapUpdate,Sem.run_bind,run_underlying H,Result.andThen_ok,Y,n,W];rw[pO z (by simp)]
   .refine⟨_,_,o _,?_⟩;simp only[aAu,fS,Array.toList_push];exact s.append i N
 | some jv=>
  have⟨j,v0⟩:=jv;cases R with
  | none=>exact A.elim
  | some jV=>
   have⟨j',V0⟩:=jV;obtain⟨rfl,_⟩:=A;have⟨_,k',p,C⟩:=aIl U;simp only[Es] at p;have⟨en,D,E,_⟩:=s.get p;have f:=Z σ q e k k' K en.key a i E C;refine⟨_,?_,key (.map (y.modify j fun e=>{e with key:=K,val:=X}) c) ?_⟩
   .have F:y[j]? =some en:=by rw[<-Di];exact D
    simp only[Instr.mapUpdate,Sem.run_bind,run_underlying H,Result.andThen_ok,Y,n,W,F,Ep,Eb,Instr.keyThatStays,f,El,Sem.run_pure];rw[pO z (by simp)]
   .refine⟨_,_,o _,?_⟩;simp only[aAu];rw[Array.toList_modify];exact s.modify j i N
def rU(P:Program)(R:Value->World->Prop):Result Next->Prop
 | .ok (.value v) w'=>R v w'
 | .ok .skip w'=>R undef w'
 | .ok (.enter f args) w'=>CallsIn Fence.wide 0 P f args w' fun
   | .returned v,a=>R v a
   | _,_=>False
 | .ok (.round l f tmps assign body) w'=>RoundIn Fence.wide 0 P l f tmps assign body w' fun
   | .returned v,a=>R v a
   | _,_=>False
 | _=>False
def kH(P:Program)(call:fX):Prop:=∀ (f:AV) (args:cd) (S:St) (v:AV) (b:St),call f args S=some (v,b)->∀ (σ:Env) (w:World) (fv:Value) (Args:List Value),
 Rv P σ f fv->jE P σ args Args->mD P σ S w->rU P (fun V w'=>∃a,Rv P a v V/\jL P σ S w a b w') ((do let d <-Deferred.ofValue fv ⟨Args⟩;invoke d.target d.args:Sem Next).run P w)
def aMw{agg:Bool}{n:Nat}(r:aDe P t=some (agg,n))(s:mD P σ S w){y:AV}{Y:Value}(p:Rv P σ x X)(u:Rv P σ y Y){cs:cd}(k:y.cells=some cs){q:St}
  (h:qX x n cs S=some (v,q)):v= .undef/\∃w',(Instr.storeAt t X Y).run P w= .ok () w'/\jL P σ S w σ q w':=by
 have⟨d,i,B,hi,C,D⟩:=aB8 r;cases x<;>simp only[qX,reduceCtorEq] at h;have⟨z,h⟩:=cN h;have⟨S1,l,h⟩:=aR h;cases h;refine⟨rfl,?_⟩;simp only[Rv] at p;obtain⟨L,A,rfl⟩:=p;have⟨b,c⟩:=aBa u k;have⟨E,e,f,g⟩:=aCR s b c l;rw[A] at e;cases e;rw[gD,Bl] at z;refine⟨_,?_,g⟩;have m:Y.cells.size=i.size:=by have:=b.length;simp at this;omega
 have a:=run_storeCells_cells (P:=P) L.r (L.d+_) Y.cells.toList 0 w (fun j o=>by simpa using (f j o).1) (fun j o=>by simpa using (f j o).2) c;simp only[Bs] at a;simp [Instr.storeAt,Instr.sureAddr,storeVar,sizeOf,typeInfo,hi,m,a]
def aFZ(hA:aAm P)(hB:oJ P){call:fX}(D:kH P call){o:Oper}{xo:XOp}(d:uI P o.op=some (.x xo)){F:Fr}{a:Act}(C:qN P σ F a.tmps)(q:mD P σ S w){Q:St}
  (J:evX xo call F S=some (v,Q)):rU P (fun V w'=>∃A,Rv P A v V/\jL P σ S w A Q w') ((execOp a.eval o).run P w):=by
 have⟨L,op,type,pos,after,guard⟩:=o;simp only at d;have p:∀A,Rv P A .undef undef:=fun A=>by simp only[AV.undef,undef,Rv];exact⟨[],rfl,dO.2 rfl⟩
 cases op<;>(try (first | (have⟨y,_,j⟩:=dS d;cases j;done) | (have⟨y,_,j⟩:=kQ d;cases j;done) | (cases d;done)))
 case store t x y=>
  have⟨z,g,j⟩:=lC d;cases j;have⟨⟨agg,n⟩,R,g⟩:=bJ g;have⟨X,E,g⟩:=bJ g;have⟨Y,hY,g⟩:=bJ g;cases g;have⟨cs,T,U⟩:=aR (show(bG (Y.val F).cells fun cs=>qX (X.val F) n cs S)=some (v,Q) from J);obtain⟨rfl,w',G,N⟩:=aMw R q (cM C q E) (cM C q hY) T U;simp only[execOp,Sem.run_bind,G,Result.andThen_ok,Sem.run_pure];exact⟨σ,p σ,N⟩
 case insert t m k x=>
  simp only[uI] at d;split at d
  .rename_i kt et W;have⟨y,g,j⟩:=lC d;cases j;have⟨e,H,g⟩:=bJ g;have⟨M,Z,g⟩:=bJ g;have⟨K,hK,g⟩:=bJ g;have⟨X,E,g⟩:=bJ g;cases g;obtain⟨rfl,w',G,N⟩:=aBO hA hB W H q (cM C q Z) (cM C q hK) (cM C q E) J;simp only[execOp,Sem.run_bind,G,Result.andThen_ok,Sem.run_pure];exact⟨σ,p σ,N⟩
  .cases d
 case mapUpdate t m k x=>
  simp only[uI] at d;split at d
  .rename_i kt et W;have⟨y,g,j⟩:=lC d;cases j;have⟨e,H,g⟩:=bJ g;have⟨M,Z,g⟩:=bJ g;have⟨K,hK,g⟩:=bJ g;have⟨X,E,g⟩:=bJ g;cases g;obtain⟨rfl,w',G,N⟩:=aBO hA hB W H q (cM C q Z) (cM C q hK) (cM C q E) J;simp only[execOp,Sem.run_bind,G,Result.andThen_ok,Sem.run_pure];exact⟨σ,p σ,N⟩
  .cases d
 case call c=>
  have⟨callee,args,I⟩:=c;cases callee with
  | value f=>
   simp only[uI] at d;split at d
   .cases d
   .have⟨y,g,j⟩:=lC d;cases j;have⟨Fo,aa,g⟩:=bJ g;have⟨As,ab,g⟩:=bJ g;cases g;have:=D _ _ _ _ _ J σ w _ _ (cM C q aa) (pL C q ab) q;have H:(args.map a.eval)=⟨args.toList.map a.eval⟩:=by apply Ft;simp
    simp only[execOp,resolve,H];exact this
  | invoke r m=>cases d
  | builtin b=>
   have arr:∀ {α:Type} {x:Array α} {l:List α},x.toList=l->x=l.toArray:=fun h=>by apply Ft;rw[h]
   simp only[uI] at d;split at d
   .split at d
    all_goals (first | (have⟨y,_,j⟩:=dS d;cases j;done) | (cases d;done))
   .have⟨y,_,j⟩:=dS d;cases j
   .have⟨y,_,j⟩:=dS d;cases j
   .rename_i s x t u hx ht;have:=arr hx;subst this;have:=arr ht;subst this;split at d
    .rename_i e i H;rw[Bn] at d;split at d
     .rename_i B;rw[Cv] at B;have⟨z,hz⟩:=Option.isSome_iff_exists.1 B.2;have⟨y,g,j⟩:=lC d;cases j;have⟨So,hS,g⟩:=bJ g;have⟨Xo,E,g⟩:=bJ g;cases g;have⟨V,w',A,T,U,G⟩:=aGP (ty:=type) H B.1 hz q (cM C q hS) (cM C q E) J;have ac:(execOp a.eval ⟨L,.call ⟨.builtin .append, #[s,x], #[t,u]⟩,type,pos,after,guard⟩).run P w= .ok (.value V) w':=by
       simp [execOp,resolve,invoke,builtin,T]
      have O:(execOp a.eval ⟨L,.call ⟨.builtin .append,[s,x].toArray,[t,u].toArray⟩,type,pos,after,guard⟩).run P w= .ok (.value V) w':=ac;rw[O];exact⟨A,U,G⟩
     .cases d
    .cases d
   .cases d
 case makeFunc fn x y=>
  cases fn<;>(first | (have⟨y,_,j⟩:=dS d;cases j;done) | (cases d;done))
 case makeMap t r=>
  cases r<;>simp only[uI,reduceCtorEq] at d;have⟨y,_,j⟩:=kQ d;cases j
 all_goals
  simp only[uI,Bn] at d
  (repeat' split at d)<;>first
   | (have⟨y,_,j⟩:=dS d;cases j;done)
   | (have⟨y,_,j⟩:=kQ d;cases j;done)
   | (cases d;done)
end Go.Ev
namespace Go.Ev
variable {P:Program}{σ:Env}{S:St}{w:World}
variable {ro:Option Nat}{n:Nat}{R:Ending->World->Prop}{tmps:Array Value}{r:Result Next}{F:Fr}
def Fw(ro:Option Nat):Fence:={Fence.wide with round:=ro}
def aDa{m:Nat}{f:FuncId}{args:Array Value}(h:CallsIn Fence.wide m P f args w R):CallsIn (Fw ro) n P f args w R:=
 ⟨trivial,fun cs _=>h.2 cs (room_wide _)⟩
def aIE{m l:Nat}{f:FuncId}{as a:Code}(h:RoundIn Fence.wide m P l f tmps as a w R):RoundIn (Fw ro) n P l f tmps as a w R:=
 ⟨trivial,fun c cs _=>h.2 c cs (room_wide _)⟩
def rU.mono{R c:Value->World->Prop}(h:rU P R r)(b:∀v w,R v w->c v w):rU P c r:=by
 unfold rU at *;split at h
 .exact b _ _ h
 .exact b _ _ h
 .exact CallsIn.mono h fun e w' a=>by cases e<;>first | exact b _ _ a | exact a
 .exact RoundIn.mono h fun e w' a=>by cases e<;>first | exact b _ _ a | exact a
 .exact h.elim
def aBw{o:Oper}{a:Act}{next:Act->World->Prop}{Q:Exit->Act->World->Prop}{R:Value->World->Prop}(h:rU P R r)
  (d:∀v w,R v w->next (a.put o.dst v) w):o.uponIn (Fw ro) n P a next Q r:=by
 unfold rU at h;split at h
 .exact d _ _ h
 .exact d _ _ h
 .refine⟨fun f=>by simp [Fw,Fence.wide] at f,aDa (CallsIn.mono h fun e w' b=>?_)⟩;cases e with
  | returned v=>exact d _ _ b
  | panicked c=>exact b.elim
  | outgrown=>exact b.elim
 .refine⟨fun f=>by simp [Fw,Fence.wide] at f,aIE (RoundIn.mono h fun e w' b=>?_)⟩;cases e with
  | returned v=>exact d _ _ b
  | panicked c=>exact b.elim
  | outgrown=>exact b.elim
 .exact h.elim
def aKA(t:Nat)(F:Fr):aC t F=(F.get t).getD .undef:=by
 unfold aC;cases F.get t<;>rfl
def zB(F:Fr)(d t:Nat)(v:AV):aC t (F.set d (some v))=if t=d then v else aC t F:=by
 rw[aKA,ef];split
 .rfl
 .rw[aKA]
theorem qN.put{a:Act}{d:Option Tmp}{v:AV}{V:Value}(c:qN P σ F a.tmps)(f:aAf a.tmps.size d=true)(g:Rv P σ v V):qN P σ (cU d F v) (a.put d V).tmps:=by
 cases d with
 | none=>exact c
 | some d=>
  have h:d<a.tmps.size:=Bc f;refine⟨fun t=>?_⟩;show Rv P σ (aC t (F.set d (some v))) _;rw[zB];simp only[Act.put,Bm,Array.getElem?_setIfInBounds];split
  .rename_i e;subst e;simp;exact g
  .rename_i b;rw[if_neg (Cg b)];have:=c.get t;simpa [Bm] using this
def aDW(a:Act)(d:Option Tmp)(V:Value):(a.put d V).tmps.size=a.tmps.size:=by cases d<;>simp [Act.put]
def put_defers(a:Act)(d:Option Tmp)(V:Value):(a.put d V).defers=a.defers:=by cases d<;>rfl
theorem aCX{h:Array Oper}{o:Oper}{g:Option (Nat×Bool)}(f:aB7 h o.guard=some g)(n:qN P σ F tmps):Region.wanted o (yielded h tmps)=fT g F:=by
 unfold Region.wanted;cases l:o.guard with
 | none=>
  rw[l] at f;simp only[aB7,Au] at f;subst f;rfl
 | some p=>
  have⟨j,e⟩:=p;rw[l] at f;simp only[aB7] at f;split at f
  .rename_i d q;cases f;show(yielded h tmps j==some e)=isB (aC d F) e;have a:=n.get d;unfold yielded;rw[q];simp only[Option.bind_some];have i:tmps.getD d undef=(tmps[d]?).getD undef:=Bm ..;rw[i] at a;cases m:tmps[d]? with
   | none=>
    rw[m] at a;simp only[Option.getD_none] at a;cases k:aC d F<;>rw[k] at a<;>simp only[isB]<;>first | rfl | (simp only[Rv,undef,reduceCtorEq] at a)
   | some X=>
    rw[m] at a;simp only[Eb] at a;cases k:aC d F<;>rw[k] at a<;>simp only[isB]<;>simp only[Rv] at a
    case bool b=>subst a;simp only[wW];cases b<;>cases e<;>rfl
    all_goals first
     | (subst a;rfl)
     | (obtain⟨rfl,_⟩:=a;rfl)
     | (obtain⟨L,_,rfl⟩:=a;rfl)
     | (obtain⟨A,c,rfl⟩:=a;rfl)
     | (obtain⟨A,B,rfl,_⟩:=a;rfl)
     | (obtain⟨A,rfl,_⟩:=a;rfl)
  .cases f
def semAt_eq{o:Oper}{r:Option Nat}{a:Operand->Value}(h:∀c,o.op≠ .defer c):o.semAt r a=execOp a o:=by
 unfold Oper.semAt;split
 .rename_i b;exact absurd b (h _)
 .rfl
def tF{op:Op}{r:AOp}(h:uI P op=some r):∀c,op≠ .defer c:=by
 rintro c rfl;cases h
def aAs{nt:Nat}{b:Array Oper}{o:Oper}{m:Nat}{a:AO}(h:aKF P nt b o m=some a):
  aAf nt o.dst=true/\aB7 b o.guard=some a.grd/\a.dst=o.dst/\a.mask=m/\(uI P o.op=some a.op\/a.op= .x .bad):=by
 unfold aKF at h;rw[Bn] at h;split at h
 .rename_i d;split at h
  .rename_i g e;split at h
   .rename_i op c;cases h;exact⟨d,e,rfl,rfl,.inl c⟩
   .cases h;exact⟨d,e,rfl,rfl,.inr rfl⟩
  .cases h
 .cases h
def aJp(z:aAm P)(A:oJ P){call:fX}(k:kH P call){f:AO}{o:Oper}(b:uI P o.op=some f.op\/f.op= .x .bad){F':Fr}{a:Act}(d:f.dst=o.dst)(y:aAf a.tmps.size o.dst=true)
  (n:qN P σ F a.tmps) (i:mD P σ S w) {p:St} (h:oOp f.op f.dst call F S=some (F',p)):
  (∀c,o.op≠ .defer c)/\rU P (fun V w'=>∃g,qN P g F' (a.put o.dst V).tmps/\jL P σ S w g p w') ((execOp a.eval o).run P w):=by
 rcases b with b|b
 .refine⟨tF b,?_⟩;cases l:f.op with
  | q B=>
   rw[l] at h b;have⟨v,m,s⟩:=aR (show(bG (gO B F S.h) fun v=>some (cU f.dst F v,S))=some (F',p) from h);cases s;have⟨V,t,u⟩:=aGe z b n i m;rw[t];exact⟨σ,by rw[d];exact n.put y u,jL.refl i⟩
  | a al=>
   rw[l] at h b;have⟨⟨v,bl⟩,m,s⟩:=aR (show(bG (uH al F S.nx) fun r=>some (cU f.dst F r.1,(⟨S.h.set S.nx (some r.2),Nat.succ S.nx⟩:St)))=some (F',p) from h);cases s;have⟨V,w',t,ob,e,m1,C,D,E,G,H,I⟩:=aFN b n i S.nx (i.fresh _ (Af _)) m;rw[t];have j:=jL.alloc i m1 C D E G H;exact⟨_,by rw[d];exact(n.mono (j.mono i)).put y I,j⟩
  | x J=>
   rw[l] at h b;have⟨⟨v,S1⟩,m,s⟩:=aR (show(bG (evX J call F S) fun r=>some (cU f.dst F r.1,r.2))=some (F',p) from h);cases s;refine(aFZ z A k b n i m).mono ?_;rintro V w' ⟨g,t,u⟩;exact⟨g,by rw[d];exact(n.mono (u.mono i)).put y t,u⟩
 .rw[b] at h;have⟨r,m,_⟩:=aR (show(bG (evX .bad call F S) fun r=>some (cU f.dst F r.1,r.2))=some (F',p) from h);cases m
def iY(o:AO)(os:List AO)(call:fX)(F:Fr)(S:St):xI (o::os) call F S=bG (aFf o call F S) fun r=>xI os call r.1 r.2:=rfl
theorem yH(D:aAm P)(E:oJ P){call:fX}(b:kH P call){ro:Option Nat}{n nt:Nat}{d:Array Oper}{Q:Exit->Act->World->Prop}:
  ∀ (l:List Oper) (k:Nat) (s:ce) (e:List AO) (σ:Env) (F F':Fr) (S r:St) (a:Act) (w:World),(∀j,j<l.length->l[j]? =d[k+j]?)->wQ P nt d l s=some e->a.tmps.size=nt->qN P σ F a.tmps->mD P σ S w->
   xI e call F S=some (F',r)->(∀c a' w',qN P c F' a'.tmps->a'.tmps.size=nt->a'.defers=a.defers->jL P σ S w c r w'->Q .normal a' w')->
   wpOpsIn (Fw ro) n P d Q (List.range' k l.length) a w
 | [],k,s,e,σ,F,F',S,r,a,w,G,m,t,u,B,h,C=>by
  simp only[wQ,Au] at m;subst m;cases h;exact C σ a w u t rfl (jL.refl B)
 | o::l,k,s,e,σ,F,F',S,r,a,w,G,m,t,u,B,h,C=>by
  simp only[wQ] at m;split at m
  .rename_i ao f H g;cases m;have⟨W,X,i,_,I⟩:=aAs H;rw[iY] at h;have⟨⟨Y,S1⟩,v,U⟩:=aR h;have Z:d[k]? =some o:=by have:=G 0 (by simp);simpa using this.symm
   have x:∀j,j<l.length->l[j]? =d[(k+1)+j]? :=fun j hj=>by have:=G (j+1) (by simp;omega);simpa [Cy,Nat.add_comm 1 j] using this
   simp only[Ax,List.range'_succ,wpOpsIn,Z];rw[aCX X u];unfold aFf at v;rw[dB] at v;have y:aAf a.tmps.size o.dst=true:=by rw[t];exact W
   split at v
   .rename_i J;rw[if_pos J];have⟨K,p⟩:=aJp D E b I i y u B v;refine⟨fun _ _=>trivial,?_⟩;rw[semAt_eq K];refine aBw p ?_;rintro V w' ⟨L,M,z⟩;exact yH D E b l (k+1) s.tail f L Y F' S1 r _ w' x g (by rw[aDW];exact t) M z.rep U (fun c a' q N O R T=>C c a' q N O (by rw[R,put_defers]) (z.trans T))
   .rename_i J;rw[if_neg J];cases v;refine⟨fun _ _=>trivial,?_⟩;have A:Rv P σ .undef undef:=by simp only[AV.undef,undef,Rv];exact⟨[],rfl,dO.2 rfl⟩
    exact yH D E b l (k+1) s.tail f σ _ F' S r _ w x g (by rw[aDW];exact t) (by rw[i];exact u.put y A) B U (fun c a' q N O R T=>C c a' q N O (by rw[R,put_defers]) T)
  .cases m
end Go.Ev
