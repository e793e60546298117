import Derived.Test.YtbmodoaceepfoaaEv4
import Derived.Laws.MakeOwn
import Derived.Lib.ConvBytes
import Derived.CallsIn
import Derived.Deep.Upon
import Derived.OrdersIn
import Derived.RangeFuncLeaves
import Derived.LoopNIn
import Derived.Laws.Externs
import Derived.KernelRfl
set_option linter.all false
namespace Go.Ev
variable {P:Program}{σ:Env}{S:St}{w:World}
variable {w':World}{C:Array Value}{t:TypeId}{fz:Nat×Nat}{cs:bu}{F:Fr}{i:TypeInfo}
def aFb(P:Program)(σ:Env)(w:World)(id:Nat)(v:AV)(bl:AB)(V:Value)(w':World):Prop:=
 ∃ob e,w'.heap=w.heap.push ob/\w'.os=w.os/\w'.tape=w.tape/\w'.output=w.output/\
  sJ P (upd σ id ⟨w.heap.size,0,e⟩) w' ⟨w.heap.size,0,e⟩ bl/\wQ bl/\Rv P (upd σ id ⟨w.heap.size,0,e⟩) v V
def aDK(a:w'.heap=w.heap.push (.cells C t fz))(j:Nat):w'.cell? ⟨w.heap.size,j,none⟩=C[j]? :=by
 simp [World.cell?,a]
def aHH(a:w'.heap=w.heap.push (.cells C t fz))(j:Nat)(h:¬ (fz.1<=j/\j<fz.2)):w'.frozen? ⟨w.heap.size,j,none⟩=false:=by
 simp [World.frozen?,a];intro b;omega
def xP{C:List Value}{X:List Value}{o:Bool}{e s:Nat}(b:w'.heap=w.heap.push (.cells (C++X).toArray t fz))(c:(C++X).length<=fz.1\/fz.1=fz.2)
  (g:jG P σ cs C) (i:∀u∈C,u.oneCell'=true) (k:o=true->X.length=e * s):sJ P σ w' ⟨w.heap.size,0,e⟩ (.cells cs o s):=by
 refine⟨C,g,i,fun j v f=>?_,fun j a=>?_⟩
 .rw[An,aDK b];have a:=(Aj.1 f).1;simp [Ak a,f]
 .have d:j<(C++X).length:=by
   rw[Ai];cases o
   .simp at a;omega
   .have:=k rfl;simp at a;omega
  rw[An,aDK b];refine⟨?_,aHH b j (by rcases c with h|h<;>omega)⟩;simp;simpa using d
def aIF{o:Oper}{cells:bu}{a:Act}(b:o.op= .alloc t)(c:lC P t=some cells)(id:Nat)(d:σ id=none):
  ∃V w',(execOp a.eval o).run P w= .ok (.value V) w'/\aFb P σ w id (.ptr id 0) (.cells cells false 0) V w':=by
 have⟨i,Z,hi,e,f,g⟩:=oC (σ:=upd σ id ⟨w.heap.size,0,0⟩) c;refine⟨.pointer (some ⟨w.heap.size,0,none⟩),w.alloc (.cells Z.cells t),?_,⟨.cells Z.cells t,0,rfl,rfl,rfl,rfl,?_,trivial,?_⟩⟩
 .simp [execOp,b,Instr.alloc,yZ hi e,newVar,newRow]
 .refine xP (X:=[]) (t:=t) (fz:=(0,0)) ?_ (.inr rfl) f g (by simp);show w.heap.push _=_;simp
 .simp only[Rv];exact⟨_,upd_same _ _,by simp⟩
def aLv{o:Oper}{x:Operand}{X:cQ}{a:Act}(d:o.op= .box t x)(e:jC P x=some X)(f:qR P σ F a.tmps)(g:mR P σ S w)(b:(X.val F).cells=some cs)(id:Nat)(c:σ id=none):
  ∃V w',(execOp a.eval o).run P w= .ok (.value V) w'/\aFb P σ w id (.ptr id 0) (.cells cs false 0) V w':=by
 have h:=(cO f g e).mono (iI (L:=⟨w.heap.size,0,0⟩) c);have⟨i,j⟩:=aBb h b;refine⟨.pointer (some ⟨w.heap.size,0,none⟩),w.alloc (.cells (a.eval x).cells t),?_,⟨.cells (a.eval x).cells t,0,rfl,rfl,rfl,rfl,?_,trivial,?_⟩⟩
 .simp [execOp,d,Instr.box,newVar,newRow]
 .refine xP (X:=[]) (t:=t) (fz:=(0,0)) ?_ (.inr rfl) i j (by simp);show w.heap.push _=_;simp
 .simp only[Rv];exact⟨_,upd_same _ _,by simp⟩
def aIU{o:Oper}{a:Act}(b:o.op= .makeMap t none)(id:Nat):
  ∃V w',(execOp a.eval o).run P w= .ok (.value V) w'/\aFb P σ w id (.map id) (.map []) V w':=by
 refine⟨.map (some w.heap.size),w.alloc (.map #[] 0),?_,⟨.map #[] 0,0,rfl,rfl,rfl,rfl,?_,trivial,?_⟩⟩
 .simp [execOp,b,Instr.makeMap]
 .refine⟨#[],0,?_,rfl⟩;show(w.heap.push _)[w.heap.size]? =_;simp
 .simp only[Rv];exact⟨_,upd_same _ _,rfl⟩
def aCI{F:Fr}{a:Act}{size:Nat}(g:qR P σ F a.tmps)(k:mR P σ S w):∀ {ps:List (Nat×Operand)} {qs:List (Nat×cQ)},zU P ps=some qs->
  (ps.map fun p=>(p.1,a.eval p.2)).length=(lN size F qs).length/\
  ∀ (j i:Nat) (V:Value) (off n:Nat) (v:AV),(ps.map fun p=>(p.1,a.eval p.2))[j]? =some (i,V)->(lN size F qs)[j]? =some (off,n,v)->(fun i=>some (i * size,size)) i=some (off,n)/\Rv P σ v V
 | [],qs,h=>by
  simp only[zU,Ay] at h;subst h;exact⟨rfl,fun j i V off n v e=>by simp at e⟩
 | (i,x)::ps,qs,h=>by
  simp only[zU] at h;split at h
  .rename_i X l m f;cases h;have⟨e,o⟩:=aCI (size:=size) g k f;refine⟨by simp [lN] at e ⊢;exact e,fun j q V d r v b c=>?_⟩;cases j with
   | zero=>
    simp only[Dh,Ef,lN,Ay,Prod.mk.injEq] at b c;obtain⟨rfl,rfl⟩:=b;obtain⟨rfl,rfl,rfl⟩:=c;exact⟨rfl,cO g k m⟩
   | succ j=>
    simp only[Dh,Cd,lN] at b c;exact o j q V d r v b c
  .cases h
def pT(Z:List Value):∀n:Nat,(List.range (n * Z.length)).map (fun i=>Z[i % Z.length]!)=repeatL Z n
 | 0=>by simp [wM]
 | n+1=>by
  rw[Du,Nat.add_comm,List.range_add,Cf,mH];congr 1
  .apply En
   .simp
   .intro j a b;simp only[Av,Cn] at a;simp [Nat.mod_eq_of_lt a,List.getElem!_eq_getElem?_getD,a]
  .rw[<-pT Z n,Eu];apply Eb;intro j _;simp
def aAO{z:bu}{Z:List Value}(h:jG P σ z Z):∀n,jG P σ (repeatL z n) (repeatL Z n)
 | 0=>dS.2 rfl
 | n+1=>by rw[mH,mH];exact h.append (aAO h n)
def aAs{Z:List Value}(h:∀u∈Z,u.oneCell'=true):∀n,∀u∈repeatL Z n,u.oneCell'=true
 | 0,u,a=>by simp [wM] at a
 | n+1,u,a=>by
  rw[mH] at a;rcases Bi.1 a with a|a
  .exact h u a
  .exact aAs h n u a
def vK{e:TypeId}(h:rH P t=some (e,i)):P.underlying t=some (.slice e)/\P.info? e=some i:=by
 unfold rH at h;split at h
 .rename_i c a;have⟨d,hi,b⟩:=Bc.1 h;cases b;exact⟨a,hi⟩
 .cases h
def sL{e:TypeId}{z:bu}(hi:P.info? e=some i)(h:oN P e i=some z):
  ∃Z,i.zero=some Z/\jG P σ z Z.cells.toList/\(∀u∈Z.cells.toList,u.oneCell'=true)/\Z.cells.size=i.size/\z.length=i.size:=by
 unfold oN at h;split at h
 .rename_i j d;rw[Bq] at h;split at h
  .rename_i b;rw[Bn] at b;cases h;have⟨k,Z,a,f,c,g⟩:=oC (σ:=σ) d;rw[hi] at a;cases a;exact⟨Z,f,c,g,by have:=c.length;simp at this;omega,b⟩
  .cases h
 .cases h
def aG4{o:Oper}{e:TypeId}{n:Nat}{ps:Array (Nat×Operand)}{qs:List (Nat×cQ)}{z:bu}{a:Act}(v:o.op= .buildSlice t n ps)(A:rH P t=some (e,i))
  (N:n * i.size<=65536) (B:oN P e i=some z) (C:zU P ps.toList=some qs) (D:qR P σ F a.tmps) (E:mR P σ S w) (id:Nat) (q:σ id=none)
  {cs:bu} (h:eO (repeatL z n) (lN i.size F qs)=some cs):
  ∃V w',(execOp a.eval o).run P w= .ok (.value V) w'/\aFb P σ w id (.sl id 0 n n false) (.cells cs false 0) V w':=by
 have⟨y,hi⟩:=vK A;have⟨Z,G,H,I,r,O⟩:=sL (σ:=σ) hi B;have⟨J,K⟩:=aCI (size:=i.size) D E C;have⟨R,f,s,u⟩:=vO J K (aAO H n) (aAs I n) h;have M:=iI (L:=⟨w.heap.size,0,0⟩) q;have g:(ps.map fun(i,x)=>(i,a.eval x)).toList=ps.toList.map fun p=>(p.1,a.eval p.2):=by simp
 have c:¬ (n * i.size>2 ^ 24):=by
  have:(2:Nat) ^ 24=16777216:=rfl;omega
 refine⟨.slice (some ⟨w.heap.size,0,none⟩) n n,w.alloc (.cells ⟨R⟩ e),?_,⟨.cells ⟨R⟩ e,0,rfl,rfl,rfl,rfl,?_,trivial,?_⟩⟩
 .by_cases m:n * i.size=0
  .have b:Array.range (n * i.size)= #[]:=by rw[m];rfl
   have d:=repeatL_length Z.cells.toList n;simp only[Et,r,m] at d;have k:=List.eq_nil_of_length_eq_zero d;rw[k] at f;simp only[execOp,v,Instr.buildSlice,Sem.run_bind,run_underlying y,Result.andThen_ok,sizeOf,typeInfo,run_program,hi,Sem.run_pure,if_neg c,g,if_pos m,b,Array.map_empty,f,newRow,run_newObj];rfl
  .have l:(Array.range (n * i.size)).map (Z.cells[· % Z.cells.size]!)=(⟨repeatL Z.cells.toList n⟩:Array Value):=by
    have:=pT Z.cells.toList n;simp only[Et,r] at this;apply Array.ext';simp only[Fk,Array.toList_range,r];rw[<-this];apply Eb;intro j _;simp [Array.getElem!_eq_getD,Bp]
   simp only[execOp,v,Instr.buildSlice,Sem.run_bind,run_underlying y,Result.andThen_ok,sizeOf,typeInfo,run_program,hi,Sem.run_pure,if_neg c,g,if_neg m,yZ hi G,l,f,newRow,run_newObj];rfl
 .refine xP (X:=[]) (t:=e) (fz:=(0,0)) ?_ (.inr rfl) (s.mono M) u (by simp);show w.heap.push _=_;simp
 .simp only[Rv];exact⟨_,upd_same _ _,by simp⟩
def aFG{o:Oper}{e:TypeId}{lo co:Operand}{L C:cQ}{z:bu}{a:Act}(B:o.op= .makeSlice t lo co)(D:rH P t=some (e,i))
  (E:oN P e i=some z) (G:jC P lo=some L) (H:jC P co=some C) (x:qR P σ F a.tmps) (y:mR P σ S w) (id:Nat) (p:σ id=none) {v:AV} {bl:AB}
  (h:zB e i.size i.bytes z L C F id=some (v,bl)):
  ∃V w',(execOp a.eval o).run P w= .ok (.value V) w'/\aFb P σ w id v bl V w':=by
 have⟨I,hi⟩:=vK D;have⟨Z,J,K,M,A,U⟩:=sL (σ:=σ) hi E;have⟨l,N,h⟩:=aO h;have⟨c,O,h⟩:=aO h;have⟨f,h⟩:=cH h;have⟨g,h⟩:=cH h;have⟨k,h⟩:=cH h;cases h;have f:=Bd f;have g:=Bd g;have k:=Bd k;unfold room at g k;have⟨Q,q⟩:=sQ N;have⟨R,r⟩:=sQ O;have m:=cO x y G;have n:=cO x y H;rw[q] at m;rw[r] at n;simp only[Rv] at m n;have T:=iI (L:=⟨w.heap.size,0,0⟩) p;have d:=run_make (P:=P) w t e i Z I hi J Q R (Int.ofNat l) (Int.ofNat c) (by simp) (by simpa using f) (by
  have:((i.bytes * c:Nat):Int)<=281474976710656:=by omega
  simpa using this) (by simp;omega)
 have b:madeCells Z.cells (c * i.size)=(⟨repeatL Z.cells.toList c⟩:Array Value):=by
  have:=pT Z.cells.toList c;simp only[Et,A] at this;apply Array.ext';simp only[madeCells,Fk,Array.toList_range,A];rw[<-this];apply Eb;intro j _;simp [Array.getElem!_eq_getD,Bp]
 refine⟨.slice (some ⟨w.heap.size,0,none⟩) l c,w.alloc (.cells ⟨repeatL Z.cells.toList c⟩ e),?_,⟨.cells ⟨repeatL Z.cells.toList c⟩ e,0,rfl,rfl,rfl,rfl,?_,trivial,?_⟩⟩
 .have s:(Int.ofNat l).toNat=l:=rfl;have u:(Int.ofNat c).toNat=c:=rfl;rw[s,u,b] at d;simp only[execOp,B,m,n,Sem.run_bind,d,Result.andThen_ok,Sem.run_pure]
 .refine xP (X:=[]) (t:=e) (fz:=(0,0)) ?_ (.inr rfl) ((aAO K c).mono T) (aAs M c) (by simp);show w.heap.push _=_;simp
 .simp only[Rv];exact⟨_,upd_same _ _,by simp⟩
def yU(s:cd)(c:Bytes s):Go.byteCells (iP s)=s.map fun b=>Value.int .u8 (Int.ofNat b):=by
 unfold Go.byteCells;simp only[iP,Eu];apply Eb;intro b a;show Value.int .u8 (((UInt8.ofNat b).toNat:Nat):Int)=_;rw[aDq (c b a)];rfl
def aAp:∀ (s:cd),jG P σ (byteCells s) (s.map fun b=>Value.int .u8 (Int.ofNat b))
 | []=>dS.2 rfl
 | b::s=>dL.2 ⟨_,_,rfl,by simp only[Rv],aAp s⟩
end Go.Ev
namespace Go.Ev
variable {P:Program}{σ:Env}{S:St}{w:World}
def aFP{o:Oper}{G:yX}(d:vF P o.op=some (.a G)){F:Fr}{a:Act}(u:qR P σ F a.tmps)(A:mR P σ S w)(id:Nat)(j:σ id=none){v:AV}{bl:AB}(q:uI G F id=some (v,bl)):
  ∃V w',(execOp a.eval o).run P w= .ok (.value V) w'/\aFb P σ w id v bl V w':=by
 have⟨H,op,type,pos,after,guard⟩:=o;simp only at d;cases op<;>(try (first | (have⟨y,_,g⟩:=eR d;cases g;done) | (have⟨y,_,g⟩:=lA d;cases g;done) | (cases d;done)))
 case alloc t=>
  have⟨y,h,g⟩:=mG d;cases g;have⟨z,s,h⟩:=bG h;cases h;cases q;exact aIF rfl s id j
 case box t x=>
  have⟨y,h,g⟩:=mG d;cases g;have⟨X,I,h⟩:=bG h;cases h;have⟨cs,B,D⟩:=aO (show(bD (X.val F).cells fun cs=>some (AV.ptr id 0,AB.cells cs false 0))=some (v,bl) from q);cases D;exact aLv rfl I u A B id j
 case build t ps=>
  simp only[vF] at d;split at d
  .rw[Bq] at d;split at d
   .have⟨y,_,g⟩:=eR d;cases g
   .cases d
  .have⟨y,_,g⟩:=eR d;cases g
  .cases d
 case buildSlice t n ps=>
  have⟨y,h,g⟩:=mG d;cases g;have⟨⟨e,i⟩,E,h⟩:=bG h;simp only at h;split at h
  .cases h
  .rename_i N;have⟨z,s,h⟩:=bG h;have⟨qs,J,h⟩:=bG h;cases h;have⟨cs,B,D⟩:=aO (show(bD (eO (repeatL z n) (lN i.size F qs)) fun cs=>some (AV.sl id 0 n n false,AB.cells cs false 0))=some (v,bl) from q);cases D;exact aG4 rfl E au s J u A id j B
 case makeSlice t l c=>
  have⟨y,h,g⟩:=mG d;cases g;have⟨⟨e,i⟩,E,h⟩:=bG h;have⟨z,s,h⟩:=bG h;have⟨L,K,h⟩:=bG h;have⟨C,M,h⟩:=bG h;cases h;exact aFG rfl E s K M u A id j q
 case makeMap t r=>
  cases r<;>simp only[vF,reduceCtorEq] at d;have⟨y,h,g⟩:=mG d;cases g;cases h;cases q;exact aIU rfl id
 case insert t m k x=>
  simp only[vF] at d;split at d
  .have⟨y,_,g⟩:=lA d;cases g
  .cases d
 case mapUpdate t m k x=>
  simp only[vF] at d;split at d
  .have⟨y,_,g⟩:=lA d;cases g
  .cases d
 case makeInterface t x=>
  simp only[vF] at d;split at d
  .cases d
  .have⟨y,_,g⟩:=eR d;cases g
  .cases d
 case makeFunc fn x y=>
  cases fn<;>(first | (have⟨y,_,g⟩:=eR d;cases g;done) | (cases d;done))
 case slice t x lo O mx=>
  simp only[vF,Bq] at d;split at d
  .cases d
  .split at d
   .have⟨y,_,g⟩:=eR d;cases g
   .have⟨y,_,g⟩:=eR d;cases g
   .cases d
 case fieldAddr t x f=>
  simp only[vF] at d;split at d
  .have⟨y,_,g⟩:=eR d;cases g
  .cases d
 case field t x f=>
  simp only[vF] at d;split at d
  .have⟨y,_,g⟩:=eR d;cases g
  .cases d
 case indexAddr t x f=>
  simp only[vF] at d;split at d
  .have⟨y,_,g⟩:=eR d;cases g
  .have⟨y,_,g⟩:=eR d;cases g
  .cases d
 case lookup t x f ok=>
  simp only[vF] at d;split at d
  .have⟨y,_,g⟩:=eR d;cases g
  .cases d
 case call c=>
  have⟨callee,args,p⟩:=c;cases callee with
  | value f=>
   simp only[vF] at d;split at d
   .cases d
   .have⟨y,_,g⟩:=lA d;cases g
  | invoke r m=>cases d
  | builtin b=>
   simp only[vF] at d;split at d
   .split at d
    all_goals (first | (have⟨y,_,g⟩:=eR d;cases g;done) | (cases d;done))
   .have⟨y,_,g⟩:=eR d;cases g
   .have⟨y,_,g⟩:=eR d;cases g
   .split at d
    .rw[Bq] at d;split at d
     .have⟨y,_,g⟩:=lA d;cases g
     .cases d
    .cases d
   .cases d
def heap_setCells_other(g:Nat):∀ (vs:List Value) (o:Nat) (w:World) (r:Nat),r≠g->(w.setCells g o vs).heap[r]? =w.heap[r]?
 | [],o,w,r,h=>rfl
 | v::vs,o,w,r,h=>by
  rw[World.setCells,heap_setCells_other g vs (o+1) _ r h];exact heap_setCell_other w ⟨g,o,none⟩ r v h
def size_setCells(g:Nat):∀ (vs:List Value) (o:Nat) (w:World),(w.setCells g o vs).heap.size=w.heap.size
 | [],o,w=>rfl
 | v::vs,o,w=>by rw[World.setCells,size_setCells g vs (o+1)];simp
def os_setCells(g:Nat):∀ (vs:List Value) (o:Nat) (w:World),(w.setCells g o vs).os=w.os/\(w.setCells g o vs).tape=w.tape/\(w.setCells g o vs).output=w.output
 | [],o,w=>⟨rfl,rfl,rfl⟩
 | v::vs,o,w=>by rw[World.setCells];exact os_setCells g vs (o+1) _
def aCP(p:mR P σ S w){b off:Nat}{cs:bu}{a:List Value}(q:jG P σ cs a)(E:∀u∈a,u.oneCell'=true){S':St}(h:uB S b off cs=some S'):
  ∃L,σ b=some L/\w.there L.r (L.d+off) a.length/\jJ P σ S w σ S' (w.setCells L.r (L.d+off) a):=by
 have⟨bl,t,h⟩:=aO h;cases bl<;>simp only[aCg,reduceCtorEq] at h;rename_i old o s;have⟨cs',c,h⟩:=aO h;cases h;have⟨L,x,F,Os,y,z,A,B⟩:=p.blk b _ t;have G:=(aBq c).1;have C:=y.length;have H:=q.length;have g:w.there L.r (L.d+off) a.length:=fun j m=>by
  have:=B (off+j) au
  rwa [<-Da] at this
 refine⟨L,x,g,?_⟩;have⟨I,J,K⟩:=os_setCells L.r a (L.d+off) w;have e:=y.put q c;refine jJ.write p t trivial trivial x (fun r M=>heap_setCells_other L.r a _ w r M) (size_setCells L.r a _ w) I J K ?_;refine⟨Os.take off++a++Os.drop (off+a.length),e,fun u d=>?_,fun j v f=>?_,fun j m=>?_⟩
 .simp only[Bi] at d;rcases d with(d|d)|d
  .exact z u (Ee d)
  .exact E u d
  .exact z u (Fj d)
 .have i:(Os.take off++a++Os.drop (off+a.length))[j]? =if j<off then Os[j]? else if j<off+a.length then a[j - off]? else Os[j]? :=
   aP1 (l:=Os) (vs:=a) (k:=off) (by rw[put_eq,if_pos au]) j
  rw[i] at f;split at f
  .rename_i D;rw[World.cell?_setCells_out L.r a (L.d+off) w _ (fun _ _=>.inl (by simp only;omega))];exact A j v f
  .split at f
   .rename_i N O;have:=World.cell?_setCells_in L.r a (L.d+off) w (fun k Q=>(g k Q).1) (j - off) au;rw[show L.d+off+(j - off)=L.d+j by omega] at this;rw[this];rw[Ab au] at f;exact f
   .rename_i N O;rw[World.cell?_setCells_out L.r a (L.d+off) w _ (fun _ _=>.inr (by simp only;omega))];exact A j v f
 .have n:j<Os.length+if o=true then L.e * s else 0:=by
   have:(Os.take off++a++Os.drop (off+a.length)).length=Os.length:=by simp;omega
   rw[this] at m;exact m
  have:=B j n;exact⟨World.isSome_setCells L.r a (L.d+off) w _ this.1,by rw[World.frozen?_setCells];exact this.2⟩
end Go.Ev
namespace Go.Ev
variable {P:Program}{σ:Env}{S:St}{w:World}
variable {u t ty:TypeId}{i:TypeInfo}
def aMu(f:aQm P u i=true)(v:mR P σ S w){x:AV}{X:Value}(k:Rv P σ x X){n:Nat}{new:bu}(g:mY x=some n)(d:eS x S.h i.size n=some new):
  ∃News,Src P i.size u X n News w/\jG P σ new News:=by
 have a:(∃y,P.underlying u=some (.slice y))\/P.underlying u=some .string:=by
  unfold aQm at f;split at f
  .exact .inl ⟨_, ‹_›⟩
  .exact .inr ‹_›
  .cases f
 cases x<;>simp only[mY,reduceCtorEq,Ay] at g<;>simp only[eS] at d<;>simp only[Rv] at k
 .obtain⟨rfl,q⟩:=k;rename_i s;rw[gJ] at g;subst g;have⟨m,d⟩:=cH d;rw[Bn] at m;have⟨r,t,z⟩:=aO d;cases z;rw[iA,if_pos (Af _),Eo] at t;cases t;refine⟨s.map fun b=>Value.int .u8 (Int.ofNat b),⟨a,fun _=>by simp [Builtin.lenOf,tA],?_,?_,by simp [m],fun u f=>by obtain⟨_,_,rfl⟩:=Cp.1 f;rfl⟩,aAp s⟩
  .rw[m,<-yU s q];have:=firstCells_string (P:=P) (iP s) w;rw[tA] at this;exact this
  .rw[m,<-yU s q];have:=firstCells_string (P:=P) (iP s) w.drew;rw[tA] at this;exact this
 .obtain⟨L,B,rfl⟩:=k;subst g;have⟨F,o,l,C,p,D,E⟩:=aEN v d;rw[B] at l;cases l;have e:∀j u,o[j]? =some u->w.cell? ((⟨L.r,L.d+_,none⟩:Addr).add j)=some u:=fun j u f=>by rw[Addr.add_mid];exact E j u f
  exact⟨o,⟨a,fun _=>rfl,run_firstCells_some w _ _ _ _ _ o p e,run_firstCells_some w.drew _ _ _ _ _ o p (by simpa using e),p,D⟩,C⟩
 .subst k;subst g;have⟨_,d⟩:=cH d;cases d;exact⟨[],⟨a,fun _=>rfl,run_firstCells_none w _ _ _ _,run_firstCells_none w.drew _ _ _ _,by simp,fun _ h=>by cases h⟩,dS.2 rfl⟩
 .obtain⟨A,c,rfl⟩:=k;subst g;have⟨_,d⟩:=cH d;cases d;exact⟨[],⟨a,fun _=>rfl,run_firstCells_some w _ _ _ _ _ [] (by simp) (fun j u h=>by simp at h),run_firstCells_some w.drew _ _ _ _ _ [] (by simp) (fun j u h=>by simp at h),by simp,fun _ h=>by cases h⟩,dS.2 rfl⟩
def tR{e:TypeId}{Z:Value}(q:P.underlying t=some (.slice e))(hi:P.info? e=some i)(r:i.zero=some Z)(g:Z.cells.size=i.size)(l:mR P σ S w)
  {base:Option Addr} {sLen sCap n:Nat} {old new:bu} {Olds a:List Value} (s:jG P σ old Olds) (h:∀u∈Olds,u.oneCell'=true) (v:Olds.length=sLen * i.size)
  (c:(Builtin.firstCells i.size sLen (.slice base sLen sCap)).run P w.drew= .ok Olds.toArray w.drew) {X:Value} (m:Src P i.size u X n a w) (x:jG P σ new a)
  (o:sCap<sLen+n) (y:sLen+n<=room) (z:(sLen+n) * i.bytes<=room):
  ∃V w' d,(Builtin.append_ #[t,u] ty #[.slice base sLen sCap,X]).run P w= .ok V w'/\Rv P d (.sl S.nx 0 (sLen+n) (sLen+n) true) V/\
   jJ P σ S w d ⟨S.h.set S.nx (some (.cells (yQ old new) true i.size)),Nat.succ S.nx⟩ w':=by
 unfold room at y z;have b:=run_append_grow_src w t u ty e i Z q hi r base sLen sCap Olds c X n a m o au (growslice_fits o au);have j:=grownCap_ge w (sLen+n) sCap e;generalize p:grownCap w (sLen+n) sCap e=cap at b j;have k:=l.fresh S.nx (Af _);refine⟨_,_,upd σ S.nx ⟨w.heap.size,0,cap - (sLen+n)⟩,b,?_,?_⟩
 .simp only[Rv];refine⟨_,upd_same _ _,?_⟩;simp only[Fc,Bw];congr 1;omega
 .refine jJ.alloc l (ob:=.cells ((Olds++a).toArray++Builtin.zeroCells Z.cells (cap - (sLen+n))) e) rfl rfl rfl rfl ?_ trivial;refine xP (C:=Olds++a) (X:=(Builtin.zeroCells Z.cells (cap - (sLen+n))).toList) (t:=e) (fz:=(0,0)) ?_ (.inr rfl) ?_ ?_ (fun _=>?_)
  .show w.heap.push _=_;congr 2;apply Array.ext';simp
  .rw[fT];exact(s.append x).mono (iI k)
  .intro u f;rcases Bi.1 f with f|f
   .exact h u f
   .exact m.one u f
  .simp [Builtin.zeroCells,g]
def aG1{e:TypeId}{z:bu}(he:rH P t=some (e,i))(B:aQm P u i=true)(hz:oN P e i=some z)(p:mR P σ S w)
  {s x:AV} {Sv X:Value} (Y:Rv P σ s Sv) (hx:Rv P σ x X) {v:AV} {S':St} (h:gQ i.bytes i.size s x S=some (v,S')):
  ∃V w' J,(Builtin.append_ #[t,u] ty #[Sv,X]).run P w= .ok V w'/\Rv P J v V/\jJ P σ S w J S' w':=by
 have⟨K,hi⟩:=vK he;have⟨Z,hZ,_,_,M,_⟩:=sL (σ:=σ) hi hz;have⟨n,hn,hh⟩:=aO h;clear h;have⟨new,aa,h⟩:=aO hh;clear hh;have⟨a,d,hN⟩:=aMu B p hx hn aa;have a0:=d.newsLen;have f:n=0->Src P i.size u X 0 [] w:=fun q=>by
  subst q;have:a= []:=List.eq_nil_of_length_eq_zero (by simpa using a0);subst this;exact d
 cases s<;>simp only[aAz,reduceCtorEq] at h
 case cr=>
  simp only[Rv] at Y;subst Y;unfold qV at h;rw[cS] at h;split at h
  .rename_i q;rw[Bn] at q;cases h;exact⟨_,w,σ,run_append_nothing w t u ty e i K hi none 0 0 (Af _) X (f q),by simp only[Rv],jJ.refl p⟩
  .rename_i q;rw[Bn] at q;have⟨N,h⟩:=cH h;have⟨O,h⟩:=cH h;cases h;have N:=Bd N;have O:=Bd O;have:=tR (ty:=ty) K hi hZ M p (base:=none) (sLen:=0) (sCap:=0) (old:=[]) (Olds:=[]) (dS.2 rfl) (by simp) (by simp) (run_firstCells_none w.drew _ _ _ _) d hN au (by simpa using N) (by simpa using O);simpa [fT] using this
 case emp=>
  simp only[Rv] at Y;obtain⟨A,c,rfl⟩:=Y;have⟨q,h⟩:=cH h;rw[Bn] at q;cases h;exact⟨_,w,σ,run_append_nothing w t u ty e i K hi (some A) 0 c (Ct _) X (f q),by simp only[Rv];exact⟨A,c,rfl⟩,jJ.refl p⟩
 case sl b off len cap o=>
  have a1:=Y;simp only[Rv] at Y;obtain⟨L,hL,rfl⟩:=Y;unfold lP at h;rw[cS] at h;split at h
  .rename_i m;have m:=Bd m;have ab:len+n<=if o=true then cap+L.e else cap:=by split<;>omega
   rw[cS] at h;split at h
   .rename_i q;rw[Bn] at q;cases h;exact⟨_,w,σ,run_append_nothing w t u ty e i K hi _ len _ au X (f q),a1,jJ.refl p⟩
   .have⟨S1,a2,h⟩:=aO h;cases h;have⟨L',C,ac,an⟩:=aCP p hN d.one a2;rw[hL] at C;cases C;have D:=run_append_room_src w t u ty e i K hi L.r (L.d+off) len (if o=true then cap+L.e else cap) X n a d ab
     (fun j y=>by have:=(ac j y).1;rwa [show L.d+off+len * i.size=L.d+(off+len * i.size) by omega])
     (fun j y=>by have:=(ac j y).2;rwa [show L.d+off+len * i.size=L.d+(off+len * i.size) by omega])
    refine⟨_,_,σ,D,by simp only[Rv];exact⟨L,hL,rfl⟩,?_⟩;rw[show L.d+off+len * i.size=L.d+(off+len * i.size) by omega];exact an
  .rename_i m;rw[Ft] at m;have⟨N,h⟩:=cH h;have⟨O,h⟩:=cH h;have⟨bl,hb,h⟩:=aO h;have N:=Bd N;have O:=Bd O;have⟨L',C,bd,T⟩:=p.blk b bl hb;rw[hL] at C;cases C;have U:∀ (cs:bu) (I:List Value),jG P σ cs I->(∀u∈I,u.oneCell'=true)->w.rangeAt L.r L.d I->∀old,cut cs off (len * i.size)=some old->
     ∃Olds,jG P σ old Olds/\(∀u∈Olds,u.oneCell'=true)/\Olds.length=len * i.size/\w.rangeAt L.r (L.d+off) Olds/\Olds=(I.drop off).take (len * i.size)/\
      ∀c,(Builtin.firstCells i.size len (.slice (some ⟨L.r,L.d+off,none⟩) len c)).run P w.drew= .ok Olds.toArray w.drew:=by
    intro cs I hC E F old l;have hc:=hC.cut l;have hr:=aFO (i:=off) (n:=len * i.size) F;exact⟨_,hc.1,fun u B=>E u (Fj (Ee B)),hc.2,hr,rfl,fun c=>run_firstCells_some w.drew _ _ _ _ _ _ hc.2 (fun j u B=>by
     rw[Addr.add_mid];simpa using hr j u B)⟩
   cases bl<;>simp only[xJ,reduceCtorEq] at h
   .rename_i cs o' sz;have⟨I,hC,E,F,ao⟩:=T;have⟨old,l,h⟩:=aO h;have⟨Olds,hO,G,Q,aw,a4,R⟩:=U cs I hC E F old l;cases o with
    | false=>
     rw[aR] at h;cases h;simp only[Bf,Eh];exact tR K hi hZ M p hO G Q (R cap) d hN au N O
    | true=>
     rw[aL] at h;have⟨a5,g1⟩:=cH h;have⟨aI,g2⟩:=cH g1;have⟨W,g3⟩:=cH g2;clear h g1 g2;subst a5;rw[Bn] at aI W;rw[gJ] at W;subst aI;cases g3;simp only[Fc];have be:=hC.length;by_cases aV:len+n<=cap+L.e
     ·-- in place
      have g:∀j,j<a.length->(w.cell? ⟨L.r,L.d+off+len * i.size+j,none⟩).isSome=true/\w.frozen? ⟨L.r,L.d+off+len * i.size+j,none⟩=false:=by
       intro j y;have ba:off+len * i.size+j<I.length+L.e * i.size:=by
        have e1:(len+n) * i.size<=(cap+L.e) * i.size:=Co _ aV;rw[Dl,Dl] at e1;omega
       have:=ao (off+len * i.size+j) (by simpa using ba)
       rwa [show L.d+(off+len * i.size+j)=L.d+off+len * i.size+j by omega] at this
      have D:=run_append_room_src w t u ty e i K hi L.r (L.d+off) len (cap+L.e) X n a d aV (fun j y=>(g j y).1) (fun j y=>(g j y).2);have bb:=p.fresh S.nx (Af _);refine⟨_,_,upd σ S.nx ⟨L.r,L.d+off,cap+L.e - (len+n)⟩,D,?_,?_⟩
      .simp only[Rv];refine⟨_,upd_same _ _,?_⟩;simp only[Fc,Bw];congr 1;omega
      .have⟨e1,e2,e3⟩:=os_setCells L.r a (L.d+off+len * i.size) w;refine jJ.rename p hb trivial trivial hL rfl (fun r hr=>heap_setCells_other L.r a _ w r hr) (size_setCells L.r a _ w) e1 e2 e3 ?_;refine⟨Olds++a,?_,?_,fun j v hv=>?_,fun j y=>?_⟩
       .rw[fT];exact(hO.append hN).mono (iI bb)
       .intro u B;rcases Bi.1 B with B|B
        .exact G u B
        .exact d.one u B
       .by_cases y:j<Olds.length
        .rw[Ak y] at hv;rw[World.cell?_setCells_out L.r a _ w _ (fun _ _=>.inl (by simp only;omega))];exact aw j v hv
        .rw[Ao au] at hv;have aZ:=(Aj.1 hv).1;have:=World.cell?_setCells_in L.r a (L.d+off+len * i.size) w (fun k hk=>(g k hk).1) (j - Olds.length) aZ;rw[show L.d+off+len * i.size+(j - Olds.length)=L.d+off+j by omega] at this;simp only;rw[this];rw[Ab aZ] at hv;exact hv
       .have e4:(len+n) * i.size+(cap+L.e - (len+n)) * i.size=(cap+L.e) * i.size:=by rw[<-Dl];congr 1;omega
        have e5:(len+n) * i.size=len * i.size+n * i.size:=Dl _ _ _;have e6:(cap+L.e) * i.size=cap * i.size+L.e * i.size:=Dl _ _ _;simp only[Ai,Fc] at y;have:=ao (off+j) (by simp only[Fc];omega);rw[<-Da] at this;exact⟨World.isSome_setCells L.r a _ w _ this.1,by rw[World.frozen?_setCells];exact this.2⟩
     ·-- a new row;the old name is given up
      have H:=jJ.drop p b;have⟨V,w',J,h5,h6,h7⟩:=tR (S:=⟨S.h.set b none,S.nx⟩) (ty:=ty) K hi hZ M H.rep hO G Q (R (cap+L.e)) d hN au N O;exact⟨V,w',J,h5,h6,H.trans h7⟩
   .rename_i cs;have⟨I,hC,E,F⟩:=T;cases o with
    | true=>simp [aL] at h
    | false=>
     rw[aR] at h;have⟨old,l,h⟩:=aO h;have⟨Olds,hO,G,Q,aw,a4,R⟩:=U cs I hC E F old l;cases h;simp only[Bf,Eh];exact tR K hi hZ M p hO G Q (R cap) d hN au N O
end Go.Ev
namespace Go.Ev
variable {P:Program}{σ:Env}{S:St}{w:World}
variable {r:Nat}{ob:Obj}{t:TypeId}{x v:AV}{X:Value}{S':St}
def uM.append:∀ {m:List (AV×AV)} {a:List MapEntry} {k v:AV} {e:MapEntry},uM P σ m a->Rv P σ k e.key->Rv P σ v e.val->uM P σ (m++ [(k,v)]) (a++ [e])
 | [],a,k,v,e,h,b,c=>by have h:a= []:=h;subst h;exact⟨e,[],rfl,b,c,rfl⟩
 | (k',v')::m,a,k,v,e,h,b,c=>by
  obtain⟨x,d,rfl,f,g,i⟩:=h;exact⟨x,d++ [e],rfl,f,g,uM.append i b c⟩
def uM.modify:∀ {m:List (AV×AV)} {a:List MapEntry} {k v:AV} {K V:Value} (i:Nat),uM P σ m a->Rv P σ k K->Rv P σ v V->
  uM P σ (qM (fun _=>(k,v)) m i) (a.modify i fun e=>{e with key:=K,val:=V})
 | [],a,k,v,K,V,i,h,_,_=>by have h:a= []:=h;subst h;simp [qM];rfl
 | (k',v')::m,a,k,v,K,V,i,h,c,d=>by
  obtain⟨x,b,rfl,g,j,f⟩:=h;simp only[qM,cS];cases i with
  | zero=>exact⟨{x with key:=K,val:=V},b,by simp,c,d,f⟩
  | succ i=>
   rw[if_neg (by simp)];exact⟨x,b.modify i (fun e=>{e with key:=K,val:=V}),by simp,g,j,by simpa using uM.modify i f c d⟩
def oO(P:Program):Prop:=∀ (σ:Env) (b:TypeId) (e:tC) (k k':AV) (K a:Value),aCh P b=some e->Rv P σ k K->Rv P σ k' a->eqv e k k'=some true->Instr.sameBits 10000 a K=true
def aII:∀ {e:tC} {k:AV} {m:List (AV×AV)} {i j:Nat} {v:AV},sM e k m i=some (some (j,v))->i<=j/\∃k',m[j - i]? =some (k',v)/\eqv e k k'=some true
 | e,k,[],i,j,v,h=>by simp [sM] at h
 | e,k,(k',v')::m,i,j,v,h=>by
  simp only[sM] at h;have⟨b,a,h⟩:=aO h;cases b
  .rw[aR] at h;have⟨g,c,d,f⟩:=aII h;refine⟨au,c,?_,f⟩;rw[show j - i=(j - Nat.succ i)+1 by omega];simpa using d
  .rw[aL] at h;cases h;exact⟨Af _,k',by simp,a⟩
def uM.get:∀ {m:List (AV×AV)} {b:List MapEntry} {i:Nat} {k v:AV},uM P σ m b->m[i]? =some (k,v)->∃e,b[i]? =some e/\Rv P σ k e.key/\Rv P σ v e.val
 | [],b,i,k,v,h,a=>by simp at a
 | (k',v')::m,b,i,k,v,h,a=>by
  obtain⟨x,c,rfl,d,f,g⟩:=h;cases i with
  | zero=>simp at a;obtain⟨rfl,rfl⟩:=a;exact⟨x,by simp,d,f⟩
  | succ i=>simp at a;have⟨e,j,l⟩:=uM.get g a;exact⟨e,by simpa using j,l⟩
def pU{old:Obj}(h:w.heap[r]? =some old)(a:∀c e f,old≠ .cells c e f):(setObj r ob).run P w= .ok () {w with heap:=w.heap.setIfInBounds r ob}:=by
 simp only[setObj,Sem.run,h]
def aAH(h:w.heap[r]? =some ob)(a:∀c e f,ob≠ .cells c e f):(getObj r).run P w= .ok ob w:=by
 simp only[getObj,Sem.run,h]
def aBP(G:aAn P)(Y:oO P){q Z:TypeId}{e:tC}(H:P.underlying t=some (.map q Z))(a:aCh P q=some e)(I:mR P σ S w){m k:AV}{M K:Value}(J:Rv P σ m M)(i:Rv P σ k K)(N:Rv P σ x X)
  {v:AV} {S':St} (h:rJ m e k x S=some (v,S')):v= .undef/\∃w',(Instr.mapUpdate t M K X).run P w= .ok () w'/\jJ P σ S w σ S' w':=by
 cases m<;>simp only[rJ,reduceCtorEq] at h;rename_i b;have⟨O,g,h⟩:=aO h;have⟨bl,Q,g⟩:=aO g;have⟨r,h2,h⟩:=aO h;cases h;refine⟨rfl,?_⟩;have⟨d,T⟩:=aCG h2;cases bl<;>simp only[tS,reduceCtorEq,Ay] at g;rename_i aa;have g:=g.symm;subst g;have⟨L,U,u,y,c,z,s⟩:=I.blk b _ Q;simp only[Rv] at J;obtain⟨L',l,rfl⟩:=J;rw[U] at l;cases l;have⟨R,V,A⟩:=aAo (w:=w) G.eq a i s T;have n:=G.key σ w q e k K false a i d;have W:=aAH (P:=P) z (by simp);have key:∀ob,sJ P σ {w with heap:=w.heap.setIfInBounds L.r ob} L (.map (aAv r O k x))->
   jJ P σ S w σ ⟨S.h.set b (some (.map (aAv r O k x))),S.nx⟩ {w with heap:=w.heap.setIfInBounds L.r ob}:=fun ob B=>
  jJ.write I Q trivial trivial U (fun r hr=>by simp [Array.getElem?_setIfInBounds_ne (Ch hr)]) (by simp) rfl rfl rfl B
 have o:∀ob,(w.heap.setIfInBounds L.r ob)[L.r]? =some ob:=fun ob=>by
  rw[Array.getElem?_setIfInBounds_self_of_lt u]
 cases r with
 | none=>
  cases R with
  | some _=>exact A.elim
  | none=>
   refine⟨_,?_,key (.map (y.push {key:=K,val:=X,born:=c}) (c+1)) ?_⟩
   .simp only[Instr.mapUpdate,Sem.run_bind,run_underlying H,Result.andThen_ok,W,n,V];rw[pU z (by simp)]
   .refine⟨_,_,o _,?_⟩;simp only[aAv,fT,Array.toList_push];exact s.append i N
 | some jv=>
  have⟨j,v0⟩:=jv;cases R with
  | none=>exact A.elim
  | some jV=>
   have⟨j',V0⟩:=jV;obtain⟨rfl,_⟩:=A;have⟨_,k',p,C⟩:=aII T;simp only[Ew] at p;have⟨en,D,E,_⟩:=s.get p;have f:=Y σ q e k k' K en.key a i E C;refine⟨_,?_,key (.map (y.modify j fun e=>{e with key:=K,val:=X}) c) ?_⟩
   .have F:y[j]? =some en:=by rw[<-Dk];exact D
    simp only[Instr.mapUpdate,Sem.run_bind,run_underlying H,Result.andThen_ok,W,n,V,F,Es,Ea,Instr.keyThatStays,f,Fc,Sem.run_pure];rw[pU z (by simp)]
   .refine⟨_,_,o _,?_⟩;simp only[aAv];rw[Array.toList_modify];exact s.modify j i N
def sC(P:Program)(R:Value->World->Prop):Result Next->Prop
 | .ok (.value v) w'=>R v w'
 | .ok .skip w'=>R undef w'
 | .ok (.enter f args) w'=>CallsIn Fence.wide 0 P f args w' fun
   | .returned v,a=>R v a
   | _,_=>False
 | .ok (.round l f tmps assign body) w'=>RoundIn Fence.wide 0 P l f tmps assign body w' fun
   | .returned v,a=>R v a
   | _,_=>False
 | _=>False
def kD(P:Program)(call:gD):Prop:=∀ (f:AV) (args:bu) (S:St) (v:AV) (S':St),call f args S=some (v,S')->∀ (σ:Env) (w:World) (fv:Value) (Args:List Value),
 Rv P σ f fv->jG P σ args Args->mR P σ S w->sC P (fun V w'=>∃a,Rv P a v V/\jJ P σ S w a S' w') ((do let d <-Deferred.ofValue fv ⟨Args⟩;invoke d.target d.args:Sem Next).run P w)
def aMS{agg:Bool}{n:Nat}(q:aDb P t=some (agg,n))(r:mR P σ S w){y:AV}{Y:Value}(p:Rv P σ x X)(s:Rv P σ y Y){cs:bu}(k:y.cells=some cs)
  (h:qZ x n cs S=some (v,S')):v= .undef/\∃w',(Instr.storeAt t X Y).run P w= .ok () w'/\jJ P σ S w σ S' w':=by
 have⟨d,i,A,hi,B,C⟩:=aB7 q;cases x<;>simp only[qZ,reduceCtorEq] at h;have⟨u,h⟩:=cH h;have⟨S1,l,h⟩:=aO h;cases h;refine⟨rfl,?_⟩;simp only[Rv] at p;obtain⟨L,z,rfl⟩:=p;have⟨b,c⟩:=aBb s k;have⟨D,e,f,g⟩:=aCP r b c l;rw[z] at e;cases e;rw[gJ,Bn] at u;refine⟨_,?_,g⟩;have m:Y.cells.size=i.size:=by have:=b.length;simp at this;omega
 have a:=run_storeCells_cells (P:=P) L.r (L.d+_) Y.cells.toList 0 w (fun j o=>by simpa using (f j o).1) (fun j o=>by simpa using (f j o).2) c;simp only[Bw] at a;simp [Instr.storeAt,Instr.sureAddr,storeVar,sizeOf,typeInfo,hi,m,a]
def aF3(hA:aAn P)(hB:oO P){call:gD}(D:kD P call){o:Oper}{xo:XOp}(d:vF P o.op=some (.x xo)){F:Fr}{a:Act}(C:qR P σ F a.tmps)(q:mR P σ S w)
  (J:evX xo call F S=some (v,S')):sC P (fun V w'=>∃A,Rv P A v V/\jJ P σ S w A S' w') ((execOp a.eval o).run P w):=by
 have⟨L,op,type,pos,after,guard⟩:=o;simp only at d;have p:∀A,Rv P A .undef undef:=fun A=>by simp only[AV.undef,undef,Rv];exact⟨[],rfl,dS.2 rfl⟩
 cases op<;>(try (first | (have⟨y,_,j⟩:=eR d;cases j;done) | (have⟨y,_,j⟩:=mG d;cases j;done) | (cases d;done)))
 case store t x y=>
  have⟨z,g,j⟩:=lA d;cases j;have⟨⟨agg,n⟩,Q,g⟩:=bG g;have⟨X,E,g⟩:=bG g;have⟨Y,hY,g⟩:=bG g;cases g;have⟨cs,R,T⟩:=aO (show(bD (Y.val F).cells fun cs=>qZ (X.val F) n cs S)=some (v,S') from J);obtain⟨rfl,w',G,N⟩:=aMS Q q (cO C q E) (cO C q hY) R T;simp only[execOp,Sem.run_bind,G,Result.andThen_ok,Sem.run_pure];exact⟨σ,p σ,N⟩
 case insert t m k x=>
  simp only[vF] at d;split at d
  .rename_i kt et U;have⟨y,g,j⟩:=lA d;cases j;have⟨e,H,g⟩:=bG g;have⟨M,W,g⟩:=bG g;have⟨K,Z,g⟩:=bG g;have⟨X,E,g⟩:=bG g;cases g;obtain⟨rfl,w',G,N⟩:=aBP hA hB U H q (cO C q W) (cO C q Z) (cO C q E) J;simp only[execOp,Sem.run_bind,G,Result.andThen_ok,Sem.run_pure];exact⟨σ,p σ,N⟩
  .cases d
 case mapUpdate t m k x=>
  simp only[vF] at d;split at d
  .rename_i kt et U;have⟨y,g,j⟩:=lA d;cases j;have⟨e,H,g⟩:=bG g;have⟨M,W,g⟩:=bG g;have⟨K,Z,g⟩:=bG g;have⟨X,E,g⟩:=bG g;cases g;obtain⟨rfl,w',G,N⟩:=aBP hA hB U H q (cO C q W) (cO C q Z) (cO C q E) J;simp only[execOp,Sem.run_bind,G,Result.andThen_ok,Sem.run_pure];exact⟨σ,p σ,N⟩
  .cases d
 case call c=>
  have⟨callee,args,I⟩:=c;cases callee with
  | value f=>
   simp only[vF] at d;split at d
   .cases d
   .have⟨y,g,j⟩:=lA d;cases j;have⟨Fo,aa,g⟩:=bG g;have⟨As,ab,g⟩:=bG g;cases g;have:=D _ _ _ _ _ J σ w _ _ (cO C q aa) (pS C q ab) q;have H:(args.map a.eval)=⟨args.toList.map a.eval⟩:=by apply Array.ext';simp
    simp only[execOp,resolve,H];exact this
  | invoke r m=>cases d
  | builtin b=>
   have arr:∀ {α:Type} {x:Array α} {l:List α},x.toList=l->x=l.toArray:=fun h=>by apply Array.ext';rw[h]
   simp only[vF] at d;split at d
   .split at d
    all_goals (first | (have⟨y,_,j⟩:=eR d;cases j;done) | (cases d;done))
   .have⟨y,_,j⟩:=eR d;cases j
   .have⟨y,_,j⟩:=eR d;cases j
   .rename_i s x t u hx ht;have:=arr hx;subst this;have:=arr ht;subst this;split at d
    .rename_i e i H;rw[Bq] at d;split at d
     .rename_i B;rw[Cy] at B;have⟨z,hz⟩:=Option.isSome_iff_exists.1 B.2;have⟨y,g,j⟩:=lA d;cases j;have⟨So,hS,g⟩:=bG g;have⟨Xo,E,g⟩:=bG g;cases g;have⟨V,w',A,R,T,G⟩:=aG1 (ty:=type) H B.1 hz q (cO C q hS) (cO C q E) J;have ac:(execOp a.eval ⟨L,.call ⟨.builtin .append, #[s,x], #[t,u]⟩,type,pos,after,guard⟩).run P w= .ok (.value V) w':=by
       simp [execOp,resolve,invoke,builtin,R]
      have O:(execOp a.eval ⟨L,.call ⟨.builtin .append,[s,x].toArray,[t,u].toArray⟩,type,pos,after,guard⟩).run P w= .ok (.value V) w':=ac;rw[O];exact⟨A,T,G⟩
     .cases d
    .cases d
   .cases d
 case makeFunc fn x y=>
  cases fn<;>(first | (have⟨y,_,j⟩:=eR d;cases j;done) | (cases d;done))
 case makeMap t r=>
  cases r<;>simp only[vF,reduceCtorEq] at d;have⟨y,_,j⟩:=mG d;cases j
 all_goals
  simp only[vF,Bq] at d
  (repeat' split at d)<;>first
   | (have⟨y,_,j⟩:=eR d;cases j;done)
   | (have⟨y,_,j⟩:=mG d;cases j;done)
   | (cases d;done)
end Go.Ev
namespace Go.Ev
variable {P:Program}{σ:Env}{S:St}{w:World}
variable {ro:Option Nat}{n:Nat}{R:Ending->World->Prop}{tmps:Array Value}{r:Result Next}{F:Fr}
def Fw(ro:Option Nat):Fence:={Fence.wide with round:=ro}
def aC6{m:Nat}{f:FuncId}{args:Array Value}(h:CallsIn Fence.wide m P f args w R):CallsIn (Fw ro) n P f args w R:=
 ⟨trivial,fun cs _=>h.2 cs (room_wide _)⟩
def aI5{m l:Nat}{f:FuncId}{as a:Code}(h:RoundIn Fence.wide m P l f tmps as a w R):RoundIn (Fw ro) n P l f tmps as a w R:=
 ⟨trivial,fun c cs _=>h.2 c cs (room_wide _)⟩
def sC.mono{R c:Value->World->Prop}(h:sC P R r)(b:∀v w,R v w->c v w):sC P c r:=by
 unfold sC at *;split at h
 .exact b _ _ h
 .exact b _ _ h
 .exact CallsIn.mono h fun e w' a=>by cases e<;>first | exact b _ _ a | exact a
 .exact RoundIn.mono h fun e w' a=>by cases e<;>first | exact b _ _ a | exact a
 .exact h.elim
def aBx{o:Oper}{a:Act}{next:Act->World->Prop}{Q:Exit->Act->World->Prop}{R:Value->World->Prop}(h:sC P R r)
  (d:∀v w,R v w->next (a.put o.dst v) w):o.uponIn (Fw ro) n P a next Q r:=by
 unfold sC at h;split at h
 .exact d _ _ h
 .exact d _ _ h
 .refine⟨fun f=>by simp [Fw,Fence.wide] at f,aC6 (CallsIn.mono h fun e w' b=>?_)⟩;cases e with
  | returned v=>exact d _ _ b
  | panicked c=>exact b.elim
  | outgrown=>exact b.elim
 .refine⟨fun f=>by simp [Fw,Fence.wide] at f,aI5 (RoundIn.mono h fun e w' b=>?_)⟩;cases e with
  | returned v=>exact d _ _ b
  | panicked c=>exact b.elim
  | outgrown=>exact b.elim
 .exact h.elim
def aKT(t:Nat)(F:Fr):aA t F=(F.get t).getD .undef:=by
 unfold aA;cases F.get t<;>rfl
def yT(F:Fr)(d t:Nat)(v:AV):aA t (F.set d (some v))=if t=d then v else aA t F:=by
 rw[aKT,dx];split
 .rfl
 .rw[aKT]
def qR.put{a:Act}{d:Option Tmp}{v:AV}{V:Value}(c:qR P σ F a.tmps)(f:aAf a.tmps.size d=true)(g:Rv P σ v V):qR P σ (cT d F v) (a.put d V).tmps:=by
 cases d with
 | none=>exact c
 | some d=>
  have h:d<a.tmps.size:=Bd f;refine⟨fun t=>?_⟩;show Rv P σ (aA t (F.set d (some v))) _;rw[yT];simp only[Act.put,Bp,Array.getElem?_setIfInBounds];split
  .rename_i e;subst e;simp;exact g
  .rename_i b;rw[if_neg (Ch b)];have:=c.get t;simpa [Bp] using this
def aDR(a:Act)(d:Option Tmp)(V:Value):(a.put d V).tmps.size=a.tmps.size:=by cases d<;>simp [Act.put]
def put_defers(a:Act)(d:Option Tmp)(V:Value):(a.put d V).defers=a.defers:=by cases d<;>rfl
def aCV{h:Array Oper}{o:Oper}{g:Option (Nat×Bool)}(f:aB5 h o.guard=some g)(n:qR P σ F tmps):Region.wanted o (yielded h tmps)=fX g F:=by
 unfold Region.wanted;cases l:o.guard with
 | none=>
  rw[l] at f;simp only[aB5,Ay] at f;subst f;rfl
 | some p=>
  have⟨j,e⟩:=p;rw[l] at f;simp only[aB5] at f;split at f
  .rename_i d q;cases f;show(yielded h tmps j==some e)=isB (aA d F) e;have a:=n.get d;unfold yielded;rw[q];simp only[Option.bind_some];have i:tmps.getD d undef=(tmps[d]?).getD undef:=Bp ..;rw[i] at a;cases m:tmps[d]? with
   | none=>
    rw[m] at a;simp only[Option.getD_none] at a;cases k:aA d F<;>rw[k] at a<;>simp only[isB]<;>first | rfl | (simp only[Rv,undef,reduceCtorEq] at a)
   | some X=>
    rw[m] at a;simp only[Ea] at a;cases k:aA d F<;>rw[k] at a<;>simp only[isB]<;>simp only[Rv] at a
    case bool b=>subst a;simp only[vZ];cases b<;>cases e<;>rfl
    all_goals first
     | (subst a;rfl)
     | (obtain⟨rfl,_⟩:=a;rfl)
     | (obtain⟨L,_,rfl⟩:=a;rfl)
     | (obtain⟨A,c,rfl⟩:=a;rfl)
     | (obtain⟨A,B,rfl,_⟩:=a;rfl)
     | (obtain⟨A,rfl,_⟩:=a;rfl)
  .cases f
def semAt_eq{o:Oper}{r:Option Nat}{a:Operand->Value}(h:∀c,o.op≠ .defer c):o.semAt r a=execOp a o:=by
 unfold Oper.semAt;split
 .rename_i b;exact absurd b (h _)
 .rfl
def tJ{op:Op}{r:AOp}(h:vF P op=some r):∀c,op≠ .defer c:=by
 rintro c rfl;cases h
def aAt{nt:Nat}{b:Array Oper}{o:Oper}{m:Nat}{a:AO}(h:aKY P nt b o m=some a):
  aAf nt o.dst=true/\aB5 b o.guard=some a.grd/\a.dst=o.dst/\a.mask=m/\(vF P o.op=some a.op\/a.op= .x .bad):=by
 unfold aKY at h;rw[Bq] at h;split at h
 .rename_i d;split at h
  .rename_i g e;split at h
   .rename_i op c;cases h;exact⟨d,e,rfl,rfl,.inl c⟩
   .cases h;exact⟨d,e,rfl,rfl,.inr rfl⟩
  .cases h
 .cases h
def aJO(y:aAn P)(z:oO P){call:gD}(k:kD P call){f:AO}{o:Oper}(b:vF P o.op=some f.op\/f.op= .x .bad){F':Fr}{a:Act}(d:f.dst=o.dst)(u:aAf a.tmps.size o.dst=true)
  (n:qR P σ F a.tmps) (i:mR P σ S w) {S':St} (h:oOp f.op f.dst call F S=some (F',S')):
  (∀c,o.op≠ .defer c)/\sC P (fun V w'=>∃g,qR P g F' (a.put o.dst V).tmps/\jJ P σ S w g S' w') ((execOp a.eval o).run P w):=by
 rcases b with b|b
 .refine⟨tJ b,?_⟩;cases l:f.op with
  | q A=>
   rw[l] at h b;have⟨v,m,p⟩:=aO (show(bD (iC A F S.h) fun v=>some (cT f.dst F v,S))=some (F',S') from h);cases p;have⟨V,s,t⟩:=aGo y b n i m;rw[s];exact⟨σ,by rw[d];exact n.put u t,jJ.refl i⟩
  | a al=>
   rw[l] at h b;have⟨⟨v,bl⟩,m,p⟩:=aO (show(bD (uI al F S.nx) fun r=>some (cT f.dst F r.1,(⟨S.h.set S.nx (some r.2),Nat.succ S.nx⟩:St)))=some (F',S') from h);cases p;have⟨V,w',s,ob,e,m1,B,C,D,E,G,H⟩:=aFP b n i S.nx (i.fresh _ (Af _)) m;rw[s];have j:=jJ.alloc i m1 B C D E G;exact⟨_,by rw[d];exact(n.mono (j.mono i)).put u H,j⟩
  | x I=>
   rw[l] at h b;have⟨⟨v,S1⟩,m,p⟩:=aO (show(bD (evX I call F S) fun r=>some (cT f.dst F r.1,r.2))=some (F',S') from h);cases p;refine(aF3 y z k b n i m).mono ?_;rintro V w' ⟨g,s,t⟩;exact⟨g,by rw[d];exact(n.mono (t.mono i)).put u s,t⟩
 .rw[b] at h;have⟨r,m,_⟩:=aO (show(bD (evX .bad call F S) fun r=>some (cT f.dst F r.1,r.2))=some (F',S') from h);cases m
def iW(o:AO)(os:List AO)(call:gD)(F:Fr)(S:St):wR (o::os) call F S=bD (aFe o call F S) fun r=>wR os call r.1 r.2:=rfl
def xV(C:aAn P)(D:oO P){call:gD}(b:kD P call){ro:Option Nat}{n nt:Nat}{d:Array Oper}{Q:Exit->Act->World->Prop}:
  ∀ (l:List Oper) (k:Nat) (r:cd) (e:List AO) (σ:Env) (F F':Fr) (S S':St) (a:Act) (w:World),(∀j,j<l.length->l[j]? =d[k+j]?)->vW P nt d l r=some e->a.tmps.size=nt->qR P σ F a.tmps->mR P σ S w->
   wR e call F S=some (F',S')->(∀c a' w',qR P c F' a'.tmps->a'.tmps.size=nt->a'.defers=a.defers->jJ P σ S w c S' w'->Q .normal a' w')->
   wpOpsIn (Fw ro) n P d Q (List.range' k l.length) a w
 | [],k,r,e,σ,F,F',S,S',a,w,E,m,s,t,A,h,B=>by
  simp only[vW,Ay] at m;subst m;cases h;exact B σ a w t s rfl (jJ.refl A)
 | o::l,k,r,e,σ,F,F',S,S',a,w,E,m,s,t,A,h,B=>by
  simp only[vW] at m;split at m
  .rename_i Z f G g;cases m;have⟨U,W,i,_,H⟩:=aAt G;rw[iW] at h;have⟨⟨X,S1⟩,u,T⟩:=aO h;have Y:d[k]? =some o:=by have:=E 0 (by simp);simpa using this.symm
   have v:∀j,j<l.length->l[j]? =d[(k+1)+j]? :=fun j hj=>by have:=E (j+1) (by simp;omega);simpa [Da,Nat.add_comm 1 j] using this
   simp only[Aw,List.range'_succ,wpOpsIn,Y];rw[aCV W t];unfold aFe at u;rw[cS] at u;have x:aAf a.tmps.size o.dst=true:=by rw[s];exact U
   split at u
   .rename_i I;rw[if_pos I];have⟨J,p⟩:=aJO C D b H i x t A u;refine⟨fun _ _=>trivial,?_⟩;rw[semAt_eq J];refine aBx p ?_;rintro V w' ⟨K,L,y⟩;exact xV C D b l (k+1) r.tail f K X F' S1 S' _ w' v g (by rw[aDR];exact s) L y.rep T (fun c a' q M N O R=>B c a' q M N (by rw[O,put_defers]) (y.trans R))
   .rename_i I;rw[if_neg I];cases u;refine⟨fun _ _=>trivial,?_⟩;have z:Rv P σ .undef undef:=by simp only[AV.undef,undef,Rv];exact⟨[],rfl,dS.2 rfl⟩
    exact xV C D b l (k+1) r.tail f σ _ F' S S' _ w v g (by rw[aDR];exact s) (by rw[i];exact t.put x z) A T (fun c a' q M N O R=>B c a' q M N (by rw[O,put_defers]) R)
  .cases m
end Go.Ev
