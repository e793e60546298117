import Derived.Test.YtbmodoaceepfoaaEv6
import Derived.ChangeKeysEq
import Derived.ChangeSame
import Derived.Lib.LaidTab
set_option linter.all false
namespace Go.Ev
variable {P:Program}
variable {D:Nat->Prop}{σ0 σ:Env}{S0:St}{w0 w w':World}{r:Fr}{tmps:Array Value}
def unl:List Bool->Nat
  | []=>0
  | true::l=>unl l
  | false::l=>unl l+1
def aKC:∀ {l:List Bool} {k:Nat},l[k]? =some false->unl (l.set k true)+1=unl l
  | [],k,h=>by simp at h
  | b::l,0,h=>by simp at h;subst h;rfl
  | b::l,k+1,h=>by
    have:=aKC (l:=l) (k:=k) (by simpa using h);cases b<;>simp only[List.set_cons_succ,unl]<;>omega
def aH2:∀ {l:List Bool},unl l=0->∀k,k<l.length->l[k]? =some true
  | [],_,k,a=>by simp at a
  | true::l,h,0,_=>rfl
  | true::l,h,k+1,a=>by simpa using aH2 (l:=l) h k (by simpa using a)
  | false::l,h,k,a=>by simp [unl] at h
section
variable {aos:List AO}{base:Nat}{call:gD}{Ds:Nat->DS}{ops:Array Oper}{nt:Nat}
structure Reg(P:Program)(nt:Nat)(ops:Array Oper)(aos:List AO)(base:Nat)(call:gD)(Ds:Nat->DS):Prop where
  tr:Tr aos base call Ds
  len:aos.length=ops.size
  op:∀ (j:Nat) (o:Oper),ops[j]? =some o->∃ao:AO,aos[j]? =some ao/\aAf nt o.dst=true/\aB5 ops o.guard=some ao.grd/\ao.dst=o.dst/\(vF P o.op=some ao.op\/ao.op= .x .bad)
  back:∀ (j:Nat) (o:Oper),ops[j]? =some o->∀e∈o.after,Region.binds .any e=true->e.on<j
  bits:∀D:Nat->Prop,(∀ (j:Nat) (o:Oper),ops[j]? =some o->D j->∀e∈o.after,Region.binds .any e=true->D e.on)->∀ (j:Nat) (o:Oper) (ao:AO),ops[j]? =some o->aos[j]? =some ao->(∀e∈o.after,Region.binds .any e=true->D e.on)->∀i,Nat.testBit ao.mask i=true->D i
  touch:∀ (i j:Nat) (a b:AO),i<j->aos[i]? =some a->aos[j]? =some b->(meets a.dst b.touch || meets b.dst a.touch)=true->Nat.testBit b.mask i=true
  hs0:(Ds 0).hs= []
  ps0:(Ds 0).ps= []
  loads:iF (Ds 0).S.h (Ds aos.length).hs.reverse (Ds aos.length).ls=true
def Closed(ops:Array Oper)(D:Nat->Prop):Prop:=∀ (j:Nat) (o:Oper),ops[j]? =some o->D j->∀e∈o.after,Region.binds .any e=true->D e.on
structure Inv(P:Program)(aos:List AO)(base:Nat)(Ds:Nat->DS)(σ0:Env)(S0:St)(w0:World)(D:Nat->Prop)(s:Nat)(σ:Env)(w:World)(Fh:Fr)(tmps:Array Value):Prop where
  sle:s<=aos.length
  chain:∀c,jW aos Ds c->(D c↔c<s)
  ext:jJ P σ0 S0 w0 σ (Ds s).S w
  nx:base+aos.length<=(Ds s).S.nx
  free:∀i,i<aos.length->¬D i->σ (base+i)=none
  pend:∀i b,Made aos base Ds i b->D i->¬Laid aos Ds i s->∃L,tY P w0.heap.size σ (Ds s).S w (base+i) b L
  dist:∀i j b b',i≠j->Made aos base Ds i b->D i->¬Laid aos Ds i s->Made aos base Ds j b'->D j->¬Laid aos Ds j s->∀L L',σ (base+i)=some L->σ (base+j)=some L'->L.r≠L'.r
  frame:qR P σ Fh tmps
  slots:∀t,∃i,i<=aos.length/\aA t Fh=aA t (Ds i).F/\∀ (j:Nat) (o:AO),aos[j]? =some o->o.dst=some t->(D j↔j<i)
def Reg.mask(h:Reg P nt ops aos base call Ds)(c:Closed ops D){j:Nat}{a:AO}(f:D j)(d:aos[j]? =some a):∀i,Nat.testBit a.mask i=true->D i:=by
  have b:j<aos.length:=(Aj.1 d).1;have e:ops[j]? =some (ops[j]'(by rw[<-h.len];exact b)):=El _;exact h.bits D c j _ a e d (c j _ e f)
def Reg.maskLt(h:Reg P nt ops aos base call Ds):∀ (k:Nat) (o:AO) (i:Nat),aos[k]? =some o->Nat.testBit o.mask i=true->i<k:=by
  intro k g i d b;have a:k<aos.length:=(Aj.1 d).1;have f:ops[k]? =some (ops[k]'(by rw[<-h.len];exact a)):=El _;exact h.bits (fun i=>i<k) (fun j o l a e c b=>by have:=h.back j o l e c b;exact Nat.lt_trans this a) k _ g f d (fun e c b=>h.back k _ f e c b) i b
def Inv.agree{s:Nat}(a:Reg P nt ops aos base call Ds)(h:Inv P aos base Ds σ0 S0 w0 D s σ w r tmps)(A:Closed ops D){k:Nat}{b:AO}(f:aos[k]? =some b)(u:¬D k)
    (B:∀i,Nat.testBit b.mask i=true->D i) {t:Nat} (v:t∈b.touch):aA t r=aA t (Ds k).F/\(∀ (j:Nat) (o:AO),aos[j]? =some o->o.dst=some t->(j<k->D j)/\(k<=j->¬D j)):=by
  have C:k<aos.length:=(Aj.1 f).1;have g:∀ (j:Nat) (o:AO),aos[j]? =some o->o.dst=some t->(j<k->D j)/\(k<=j->¬D j):=by
    intro j o l x;refine⟨fun m=>?_,fun E=>?_⟩
    · exact B j (a.touch j k o b m l f (by rw[Ff];exact .inl (aJg x v)))
    · rcases Cx k j with e|e
      · intro n
        exact u (a.mask A n l k (a.touch k j b o e f l (by rw[Ff];exact .inr (aJg x v))))
      · rw[show j=k by omega];exact u
  refine⟨?_,g⟩;have⟨i,hi,e,y⟩:=h.slots t;rw[e];rcases Nat.le_total i k with p|p
  · refine(a.tr.slot_keep p au ?_).symm
    intro j o z q c d;have:=(y j o c d).1 ((g j o c d).1 q);omega
  · refine a.tr.slot_keep p hi ?_
    intro j o z q c d;exact(g j o c d).2 z ((y j o c d).2 q)
def aGA(D:Nat->Prop)(k:Nat):Nat->Prop:=fun i=>D i\/i=k
def Inv.slots'{s:Nat}(u:Reg P nt ops aos base call Ds)(h:Inv P aos base Ds σ0 S0 w0 D s σ w r tmps)(x:Closed ops D){k:Nat}{f:AO}(n:aos[k]? =some f)(y:¬D k)
    (z:∀i,Nat.testBit f.mask i=true->D i) {v:AV} (A:∀d,f.dst=some d->aA d (Ds (k+1)).F=v):
    ∀t,∃i,i<=aos.length/\aA t (cT f.dst r v)=aA t (Ds i).F/\∀ (j:Nat) (o:AO),aos[j]? =some o->o.dst=some t->(aGA D k j↔j<i):=by
  intro t;have B:k<aos.length:=(Aj.1 n).1;by_cases g:f.dst=some t
  · refine⟨k+1,au,?_,?_⟩
    · rw[g,uK,A t g]
    · intro j o c a
      have⟨p,m⟩:=(h.agree u x n y z (t:=t) (by simp [AO.touch,g])).2 j o c a;constructor
      · rintro(b|b)
        · rcases Cx j k with l|l
          · omega
          · exact absurd b (m l)
        · omega
      · intro b
        rcases Cx j k with l|l
        · exact .inl (p l)
        · exact .inr au
  · have⟨i,hi,p,m⟩:=h.slots t
    refine⟨i,hi,by rw[sE g];exact p,fun j o c a=>?_⟩;have q:j≠k:=fun e=>by rw[e,n] at c;cases c;exact g a
    constructor
    · rintro(b|b)
      · exact(m j o c a).1 b
      · exact absurd b q
    · exact fun b=>.inl ((m j o c a).2 b)
def aEz{k:Nat}{c:AO}(f:aos[k]? =some c)(h:∀a,c.op= .a a->fX c.grd (Ds k).F=false):∀b,¬Made aos base Ds k b:=by
  rintro b ⟨o,a,v,d,g,e,_⟩;rw[f] at d;cases d;rw[h a g] at e;cases e
def aCl{k:Nat}{a:AO}(d:aos[k]? =some a)(h:∀x,a.op= .x x->fX a.grd (Ds k).F=false):¬jW aos Ds k:=by
  rintro⟨o,x,b,e,c⟩;rw[d] at b;cases b;rw[h x e] at c;cases c
def Inv.quiet{s:Nat}{x:Fr}{a:Act}(A:Reg P nt ops aos base call Ds)(h:Inv P aos base Ds σ0 S0 w0 D s σ w x a.tmps)(B:Closed ops D){k:Nat}{l:AO}(C:aos[k]? =some l)(E:¬D k)
    (F:∀i,Nat.testBit l.mask i=true->D i) (f:∀b,¬Made aos base Ds k b) (o:¬jW aos Ds k) {v:AV} {V:Value} (G:∀d,l.dst=some d->aA d (Ds (k+1)).F=v) (H:aAf a.tmps.size l.dst=true) (I:Rv P σ v V):
    Inv P aos base Ds σ0 S0 w0 (aGA D k) s σ w (cT l.dst x v) (a.put l.dst V).tmps where
  sle:=h.sle
  chain:=fun c y=>by
    rw[<-h.chain c y];exact⟨fun p=>p.elim id (fun e=>by subst e;exact absurd y o),.inl⟩
  ext:=h.ext
  nx:=h.nx
  free:=fun i hi J=>h.free i hi (fun p=>J (.inl p))
  pend:=fun i b m g q=>h.pend i b m (g.elim id (fun e=>by subst e;exact absurd m (f b))) q
  dist:=fun i j b z r m g q n t u=>h.dist i j b z r m (g.elim id (fun e=>by subst e;exact absurd m (f b))) q n (t.elim id (fun e=>by subst e;exact absurd n (f z))) u
  frame:=h.frame.put H I
  slots:=h.slots' A B C E F G
def Inv.alloc{s:Nat}{K:Fr}{a:Act}(W:Reg P nt ops aos base call Ds)(X:S0.nx<=base)(h:Inv P aos base Ds σ0 S0 w0 D s σ w K a.tmps)(Y:Closed ops D){k:Nat}{u:AO}(N:aos[k]? =some u)(O:¬D k)
    (Z:∀i,Nat.testBit u.mask i=true->D i) (F:¬jW aos Ds k) {v:AV} {bl:AB} {V:Value} (G:∀b,Made aos base Ds k b->b=bl) (hv:∀d,u.dst=some d->aA d (Ds (k+1)).F=v) (hd:aAf a.tmps.size u.dst=true) (hM:aFb P σ w (base+k) v bl V w'):
    ∃H,Inv P aos base Ds σ0 S0 w0 (aGA D k) s H w' (cT u.dst K v) (a.put u.dst V).tmps:=by
  have⟨ob,e,m1,m2,m3,m4,m5,m6,m7⟩:=hM;have I:k<aos.length:=(Aj.1 N).1;have t:=h.free k I O;have Q:=h.ext.rep;have aa:=h.nx;have f:=iI (L:=⟨w.heap.size,0,e⟩) t;have o:∀i b,Made aos base Ds i b->aGA D k i->i≠k->D i:=fun i b _ l C=>l.elim id (fun e=>absurd e C);refine⟨upd σ (base+k) ⟨w.heap.size,0,e⟩,⟨h.sle,fun c R=>?_,h.ext.grow t au au  m1 m2 m3 m4,h.nx,fun i hi T=>?_,fun i b g p r=>?_,?_,?_,h.slots' W Y N O Z hv⟩⟩
  · rw[<-h.chain c R]
    exact⟨fun l=>l.elim id (fun e=>by subst e;exact absurd R F),.inl⟩
  · rw[fJ _ (fun e=>T (.inr au))]
    exact h.free i hi (fun l=>T (.inl l))
  · by_cases m:i=k
    · subst m
      have:=G b g;subst this;refine⟨_,upd_same _ _,h.ext.size,?_,m5,m6,?_⟩
      · rw[m1];simp
      · intro c J M l C
        have⟨U,h3,h4,_⟩:=Q.blk c J l;rw[f _ _ h3] at C;cases C;simp only;omega
    · have⟨L,l⟩:=h.pend i b g (o i b g p m) r
      exact⟨L,l.grow Q t m1⟩
  · intro i j b E x g p y q z A L U r n
    by_cases m:i=k
    · subst m
      rw[upd_same] at r;cases r;have⟨M,l⟩:=h.pend j E q (o j E q z (Ch x)) A;rw[f _ _ l.at_] at n;cases n;have:=l.lt;simp only;omega
    · by_cases B:j=k
      · subst B
        rw[upd_same] at n;cases n;have⟨M,l⟩:=h.pend i b g (o i b g p m) y;rw[f _ _ l.at_] at r;cases r;have:=l.lt;simp only;omega
      · rw[fJ _ au] at r n
        exact h.dist i j b E x g (o i b g p m) y q (o j E q z B) A L U r n
  · exact(h.frame.mono f).put hd m7
def Inv.jo{s:Nat}{l:Fr}(h:Inv P aos base Ds σ0 S0 w0 D s σ w l tmps)(g:Reg P nt ops aos base call Ds){k:Nat}(m:k<=aos.length)(n:∀c,jW aos Ds c->(c<k↔D c)):
    (Ds k).S=(Ds s).S/\∀i,Laid aos Ds i k↔Laid aos Ds i s:=by
  have b:∀c,jW aos Ds c->(c<k↔c<s):=fun c a=>(n c a).trans (h.chain c a);constructor
  · rcases Nat.le_total k s with a|a
    · exact(g.tr.heap_keep a h.sle (fun j d e f=>by have:=(b j f).2 e;omega)).1.symm
    · exact(g.tr.heap_keep a m (fun j d e f=>by have:=(b j f).1 e;omega)).1
  · intro i
    constructor
    · rintro⟨c,o,a,d,e⟩;exact⟨c,o,(b c d).1 a,d,e⟩
    · rintro⟨c,o,a,d,e⟩;exact⟨c,o,(b c d).2 a,d,e⟩
def Inv.laid{s:Nat}{Q:Fr}(h:Inv P aos base Ds σ0 S0 w0 D s σ w Q tmps)(y:Reg P nt ops aos base call Ds){k m:Nat}(K:k<=aos.length)(R:∀c,jW aos Ds c->(c<k↔D c))(T:∀i,i<k->Nat.testBit m i=true->D i):
    jJ P σ0 S0 w0 σ ⟨(cN m (Ds k).ps (Ds k).S.h).2,(Ds k).S.nx⟩ w/\
    ∀i b L,Made aos base Ds i b->D i->¬Laid aos Ds i s->Nat.testBit m i=false->tY P w0.heap.size σ (Ds s).S w (base+i) b L->tY P w0.heap.size σ ⟨(cN m (Ds k).ps (Ds k).S.h).2,(Ds k).S.nx⟩ w (base+i) b L:=by
  have⟨U,V⟩:=h.jo y K R;rw[U];have n:=y.tr.pend y.ps0 y.maskLt k K;have d:∀p∈(Ds k).ps,Nat.testBit m p.i=true->D p.i/\¬Laid aos Ds p.i s/\p.i<aos.length:=fun p a f=>by
    have⟨z,l,a3,A⟩:=n p a;exact⟨T _ z f,fun o=>A ((V _).2 o),au⟩
  have W:=h.nx;constructor
  · refine h.ext.lay (Af _) (fun p a f=>?_) (fun p a q r f B g L X N t=>?_)
    · have⟨z,l,a3,A⟩:=n p a
      have⟨u,v,O⟩:=d p a f;rw[l];exact⟨au,h.pend _ _ a3 u v⟩
    · have⟨z,l,a3,A⟩:=n p a
      have⟨u,v,O⟩:=d p a f;have⟨Y,C,E,Z⟩:=n q r;have⟨F,G,aa⟩:=d q r B;rw[l] at N g;rw[C] at t g;exact h.dist p.i q.i _ _ (fun e=>g (by rw[e])) a3 u v E F G L X N t
  · intro i b L hM H I x j
    refine⟨j.at_,j.ge,j.lt,j.rep,j.own,?_⟩;intro c bl M o J;rcases mO o with⟨p,a,f,rfl,rfl⟩|o
    · have⟨z,l,a3,A⟩:=n p a
      have⟨u,v,O⟩:=d p a f;rw[l] at J;refine h.dist p.i i _ _ (fun e=>?_) a3 u v hM H I M L J j.at_;rw[e,x] at f;cases f
    · exact j.sep c bl M o J
def Inv.act{s:Nat}{q:Env}{Z:Fr}{a:Act}(O:Reg P nt ops aos base call Ds)(h:Inv P aos base Ds σ0 S0 w0 D s σ w Z a.tmps)(hD:Closed ops D){k:Nat}{g:AO}(C:aos[k]? =some g)(hk:¬D k)
    (hm:∀i,Nat.testBit g.mask i=true->D i) (E:jW aos Ds k) (J:∀c,jW aos Ds c->(c<k↔D c)) {v:AV} {V:Value} (hv:∀d,g.dst=some d->aA d (Ds (k+1)).F=v) (hd:aAf a.tmps.size g.dst=true)
    (F:jJ P σ ⟨(cN g.mask (Ds k).ps (Ds k).S.h).2,(Ds k).S.nx⟩ w q (Ds (k+1)).S w') (hV:Rv P q v V):
    Inv P aos base Ds σ0 S0 w0 (aGA D k) (k+1) q w' (cT g.dst Z v) (a.put g.dst V).tmps:=by
  have aa:k<aos.length:=(Aj.1 C).1;have⟨e1,e2⟩:=h.jo O au J;have⟨l,r⟩:=h.laid O (m:=g.mask) (au:k<=aos.length) J (fun i _ Q=>hm i Q);have ab:=h.nx;have R:∀b,¬Made aos base Ds k b:=aEz C (fun x hx=>by
    have⟨o,y,f,u,K⟩:=E;rw[C] at f;cases f;rw[hx] at u;cases u)
  have t:∀i b,Made aos base Ds i b->aGA D k i->D i:=fun i b n f=>f.elim id (fun e=>by subst e;exact absurd n (R b));have z:∀i,¬Laid aos Ds i (k+1)->¬Laid aos Ds i s/\Nat.testBit g.mask i=false:=fun i M=>by
    refine⟨fun f=>?_,?_⟩
    · have⟨c,o,u,K⟩:=(e2 i).2 f
      exact M ⟨c,o,au,K⟩
    · cases Q:Nat.testBit g.mask i with
      | false=>rfl
      | true=>exact absurd ⟨k,g,Dm _,E,C,Q⟩ M
  have ac:(Ds k).S.nx=(Ds s).S.nx:=by rw[e1]
  have p:∀i,i<aos.length->q (base+i)=σ (base+i):=fun i hi=>F.low _ (by simp only;omega);have A:∀i b,Made aos base Ds i b->i<aos.length:=fun i b ⟨o,_,_,f,_⟩=>(Aj.1 f).1;refine⟨au,fun c G=>?_,l.trans F,?_,fun i hi M=>?_,fun i b n N T=>?_,fun i j b U W n N T B X Y L L' H I=>?_,(h.frame.mono (F.mono l.rep)).put hd hV,h.slots' O hD C hk hm hv⟩
  · constructor
    · rintro(f|f)
      · have:=(J c G).2 f;omega
      · omega
    · intro f
      rcases Cx c k with u|u
      · exact .inl ((J c G).1 u)
      · exact .inr au
  · have:=F.nx
    simp only at this;omega
  · rw[p i hi]
    exact h.free i hi (fun f=>M (.inl f))
  · have⟨f,u⟩:=z i T
    have⟨L,K⟩:=h.pend i b n (t i b n N) f;have an:=A i b n;exact⟨L,(r i b L n (t i b n N) f u K).act l.rep F (by simp only;omega)⟩
  · rw[p i (A i b n)] at H
    rw[p j (A j U B)] at I;exact h.dist i j b U W n (t i b n N) (z i T).1 B (t j U B X) (z j Y).1 L L' H I
end
end Go.Ev
namespace Go.Ev
variable {P:Program}{aos:List AO}{base:Nat}{call:gD}{Ds:Nat->DS}{ops:Array Oper}{nt:Nat}
variable {σ0 σ:Env}{S0:St}{w0 w:World}{D:Nat->Prop}{tmps:Array Value}
def In(a:Array Bool)(i:Nat):Prop:=a.getD i false=true
def aBC{a:Array Bool}{i:Nat}(h:a.getD i true=false):a[i]? =some false:=by
  rw[Bp] at h;cases hi:a[i]? with
  | none=>rw[hi] at h;cases h
  | some b=>rw[hi] at h;simp at h;rw[h]
def aOF{a:Array Bool}{k:Nat}(b:k<a.size)(i:Nat):In (a.setIfInBounds k true) i↔aGA (In a) k i:=by
  unfold In aGA;simp only[];show(a.setIfInBounds k true).getD i false=true↔(a.getD i false=true\/i=k);rw[Bp,Array.getElem?_setIfInBounds,Bp];by_cases h:k=i
  · subst h;simp [b]
  · rw[if_neg h]
    exact⟨.inl,fun c=>c.elim id (fun e=>absurd e.symm h)⟩
def Inv.congr{a:Nat->Prop}{s:Nat}{b:Fr}(h:Inv P aos base Ds σ0 S0 w0 D s σ w b tmps)(c:∀i,a i↔D i):Inv P aos base Ds σ0 S0 w0 a s σ w b tmps:=by
  have:a=D:=funext fun i=>propext (c i);rw[this];exact h
def Inv.done{s:Nat}{e:Fr}(d:Reg P nt ops aos base call Ds)(h:Inv P aos base Ds σ0 S0 w0 D s σ w e tmps)(a:∀i,i<aos.length->D i):
    qR P σ (Ds aos.length).F tmps/\jJ P σ0 S0 w0 σ ⟨(cN (2 ^ aos.length - 1) (Ds aos.length).ps (Ds aos.length).S.h).2,(Ds aos.length).S.nx⟩ w:=by
  constructor
  · refine⟨fun t=>?_⟩
    have:=h.frame.get t;have⟨i,hi,b,f⟩:=h.slots t;rw[b] at this;rw[d.tr.slot_keep hi (Af _) (fun j o n g k l=>by have:=(f j o k l).1 (a j g);omega)];exact this
  · refine(h.laid d (Af _) (fun c m=>⟨fun b=>a c b,fun _=>?_⟩) (fun i hi _=>a i hi)).1
    have⟨o,_,b,_⟩:=m;exact(Aj.1 b).1
def aKg(c:Reg P nt ops aos base call Ds){listed:Array Bool}(f:listed.size=ops.size)(g:Region.ready .any ops listed= []):∀i,i<aos.length->In listed i:=by
  intro i
  induction i using Nat.strongRecOn with
  | _ i h=>
    intro hi;have j:i<ops.size:=by rw[<-c.len];exact hi
    cases a:listed.getD i true with
    | true=>
      unfold In;rw[Bp,El au] at a ⊢;simpa using a
    | false=>
      have d:ops[i]? =some ops[i]:=El _;have:i∈Region.ready .any ops listed:=mem_ready.2 ⟨a,_,d,fun e k b=>by
        have:=c.back i _ d e k b;exact h e.on this au⟩
      rw[g] at this;cases this
def aO8(hA:aAn P)(hB:oO P)(ac:kD P call)(n:Reg P nt ops aos base call Ds)(bj:S0.nx<=base){ro:Option Nat}{m:Nat}{Q:Exit->Act->World->Prop}{ds:List Deferred}
    (hQ:∀p a' w',qR P p (Ds aos.length).F a'.tmps->a'.tmps.size=nt->a'.defers=ds->jJ P σ0 S0 w0 p ⟨(cN (2 ^ aos.length - 1) (Ds aos.length).ps (Ds aos.length).S.h).2,(Ds aos.length).S.nx⟩ w'->Q .normal a' w'):
    ∀ (fuel:Nat) (listed:Array Bool) (s:Nat) (σ:Env) (L:Fr) (a:Act) (w:World),listed.size=ops.size->unl listed.toList<=fuel->Closed ops (In listed)->a.tmps.size=nt->a.defers=ds->
      Inv P aos base Ds σ0 S0 w0 (In listed) s σ w L a.tmps->wpAnyIn (Fw ro) m P .any ops Q fuel listed a w:=by
  intro fuel
  induction fuel with
  | zero=>
    intro listed s σ L a w O a0 u I R A;have X:∀i,i<aos.length->In listed i:=fun i hi=>by
      have:=aH2 (Nat.le_zero.1 a0) i (by rw[Et,O,<-n.len];exact hi);unfold In;rw[Bp,<-Dk,this];rfl
    have⟨F,Y⟩:=A.done n X;refine⟨?_,hQ σ a w F I R Y⟩;cases hr:Region.ready .any ops listed with
    | nil=>rfl
    | cons j r=>
      have hj:j∈Region.ready .any ops listed:=by rw[hr];simp
      have⟨an,o,ho,_⟩:=mem_ready.1 hj;have J:=X j (by rw[n.len];exact(Fb.1 ho).1);have T:=aBC an;unfold In at J;rw[Bp,T] at J;cases J
  | succ fuel ih=>
    intro listed s σ L a w O a0 u I R A;refine⟨fun hr=>?_,fun k hk=>?_⟩
    · have⟨F,Y⟩:=A.done n (aKg n O hr)
      exact hQ σ a w F I R Y
    · have⟨an,o,ho,Z⟩:=mem_ready.1 hk
      have C:=aBC an;have bk:k<ops.size:=(Fb.1 ho).1;have z:¬In listed k:=fun h=>by
        unfold In at h;rw[Bp,C] at h;cases h
      have⟨G,g,U,bm,aa,f⟩:=n.op k o ho;have hm:∀i,Nat.testBit G.mask i=true->In listed i:=n.bits _ u k o G ho g Z;have E:∀t∈G.touch,aA t L=aA t (Ds k).F:=fun t ht=>(A.agree n u g z hm ht).1;have a1:Agree (G.grd.map (·.1)).toList L (Ds k).F:=fun t ht=>E t (by unfold AO.touch;exact Cq _ (Dc _ ht));have y:Agree G.op.rd L (Ds k).F:=fun t ht=>E t (by unfold AO.touch;exact Cq _ (Cq _ ht));have W:aAf a.tmps.size G.dst=true:=by rw[I,aa];exact U
      have a2:(listed.setIfInBounds k true).size=ops.size:=by simp [O]
      have a4:unl (listed.setIfInBounds k true).toList<=fuel:=by
        have:=aKC (l:=listed.toList) (k:=k) (by rw[Dk];exact C);simp only[Array.toList_setIfInBounds];omega
      have a5:Closed ops (In (listed.setIfInBounds k true)):=by
        intro j oj B H e he hb;rw[aOF au] at H ⊢;rcases H with F|F
        · exact .inl (u j oj B F e he hb)
        · subst F;rw[ho] at B;cases B;exact .inl (Z e he hb)
      have next:∀ (s':Nat) (p:Env) (w':World) (v:AV) (V:Value),Inv P aos base Ds σ0 S0 w0 (aGA (In listed) k) s' p w' (cT G.dst L v) (a.put G.dst V).tmps->wpAnyIn (Fw ro) m P .any ops Q fuel (listed.setIfInBounds k true) (a.put o.dst V) w':=by
        intro s' p w' v V aw;rw[<-aa];exact ih _ s' p _ _ w' a2 a4 a5 (by rw[aDR];exact I) (by rw[put_defers];exact R) (aw.congr (fun i=>aOF au i))
      unfold wpOpIn;simp only[ho];rw[aCV bm A.frame,aIJ a1];have ba:∀σ,Rv P σ .undef undef:=fun σ=>by simp only[AV.undef,undef,Rv];exact⟨[],rfl,dS.2 rfl⟩
      have ab:k<aos.length:=by rw[n.len];exact bk
      cases n.tr.kind g with
      | no M e=>
        rw[M,if_neg (by simp)];refine⟨fun _ _=>trivial,next s σ w .undef undef ?_⟩;exact A.quiet n u g z hm (aEz g fun _ _=>M) (aCl g fun _ _=>M) (fun d U=>by rw[e,U];exact uK) W (ba σ)
      | q q v M N hv e=>
        rw[M,if_pos rfl];rw[N] at f y;have f:vF P o.op=some (.q q):=f.resolve_right (by simp);have K:iC q L (Ds s).S.h=some v:=by
          rw[aMw y];cases hl:dU q with
          | false=>rw[aLH hl _ _ (Ds k).S.h];exact hv
          | true=>
            have bb:(⟨q,(Ds k).F,v,k,G.mask⟩:mC)∈(Ds aos.length).ls:=n.tr.loads_mono (au:k+1<=aos.length) (Af _) _ (by rw[e,hl];simp [cS]);exact aNJ (n.tr.load n.hs0 n.loads bb (D:=In listed) (fun j oj H B=>n.mask u H B) hm z A.sle A.chain)
        have⟨V,J,T⟩:=aGo hA f A.frame A.ext.rep K;refine⟨fun _ _=>trivial,?_⟩;rw[semAt_eq (tJ f),J];exact next s σ w v V (A.quiet n u g z hm (aEz g fun x hx=>by rw[N] at hx;cases hx) (aCl g fun x hx=>by rw[N] at hx;cases hx) (fun d U=>by rw[e,U];exact uK) W T)
      | a al v bl M N hv e=>
        rw[M,if_pos rfl];rw[N] at f y;have f:vF P o.op=some (.a al):=f.resolve_right (by simp);have K:uI al L (base+k)=some (v,bl):=by rw[aL0 y];exact hv
        have⟨V,w',J,T⟩:=aFP f A.frame A.ext.rep (base+k) (A.free k ab z) K;refine⟨fun _ _=>trivial,?_⟩;rw[semAt_eq (tJ f),J];have⟨p,aw⟩:=A.alloc n bj u g z hm (aCl g fun x hx=>by rw[N] at hx;cases hx) (fun b bp=>by
          have⟨o',a',v',h5,h6,h7,h8⟩:=bp;rw[g] at h5;cases h5;rw[N] at h6;cases h6;rw[hv] at h8;cases h8;rfl) (fun d U=>by rw[e,U];exact uK) W T
        exact next s p w' v V aw
      | x x v S M N hl hv e=>
        rw[M,if_pos rfl];rw[N] at f y;have aI:jW aos Ds k:=⟨G,x,g,N,M⟩;have aV:∀ (j:Nat) (oj:AO),In listed j->aos[j]? =some oj->∀i,Nat.testBit oj.mask i=true->In listed i:=fun j oj H B=>n.mask u H B;have hc:∀c,jW aos Ds c->(c<k↔In listed c):=fun c bd=>by
          refine⟨fun bq=>n.tr.before n.hs0 aV k ab G g aI hm c bq bd,fun aZ=>?_⟩;rcases Ei c k with F|F|F
          · exact F
          · rw[F] at aZ;exact absurd aZ z
          · have⟨oc,xc,Y,J,T⟩:=bd
            exact absurd (n.tr.before n.hs0 aV c (Aj.1 Y).1 oc Y ⟨oc,xc,Y,J,T⟩ (aV c oc aZ Y) k F aI) z
        have⟨be,_⟩:=A.laid n (m:=G.mask) (au:k<=aos.length) hc (fun i _ hb=>hm i hb);rcases f with f|f
        · have K:evX x call L ⟨(cN G.mask (Ds k).ps (Ds k).S.h).2,(Ds k).S.nx⟩=some (v,S):=by rw[aMD y];exact hv
          refine⟨fun _ _=>trivial,?_⟩;rw[semAt_eq (tJ f)];refine aBx (aF3 hA hB ac f A.frame be.rep K) ?_;rintro V w' ⟨p,J,T⟩;exact next (k+1) p w' v V (A.act n u g z hm aI hc (fun d U=>by rw[e,U];exact uK) W (by rw[e];exact T) J)
        · cases f
          cases hv
def aC0(X:aAn P)(Y:oO P)(B:P.follows .mixedOrders=true)(call:gD)(r:kD P call):aF8 P call:=by
  intro ro n nt id ops aos s σ F F' S S' a w Q I Z T J hQ;unfold aDG at s;split at s
  · rename_i U C
    rw[Bq] at s;split at s
    · rename_i f
      cases s;rw[Cy] at f;have⟨u,E⟩:=f;have⟨m,p⟩:=aDN C;rw[Et] at m;have⟨Df,h1,V⟩:=aO (show(bD (wY aos 0 S.nx call ⟨F,⟨S.h,S.nx+mF aos⟩,[],[],[]⟩) fun D=>aBi S.h (mF aos) D)=some (F',S') from J);have⟨Ds,v,g,G⟩:=aDP h1;simp only[An] at g G;rw[gJ] at V v;have⟨K,h3⟩:=cH (show bX (iF S.h Df.hs.reverse Df.ls) (some (Df.F,(⟨(cN (2 ^ aos.length - 1) Df.ps Df.S.h).2,Df.S.nx⟩:St))) none=some (F',S') from V);cases h3;have hg:Reg P nt ops aos S.nx call Ds:=by
        refine⟨⟨g⟩,m,fun j o A=>?_,fun j o A e he z=>?_,fun D hD j o W A L hp i q=>?_,fun i j x y M hx hy hm=>?_,by rw[v],by rw[v],?_⟩
        · have⟨W,H,d⟩:=p j o (by rw[Dk];exact A)
          have⟨b1,b2,b3,b4,b5⟩:=aAt d;exact⟨W,H,b1,b2,b3,b5⟩
        · have:=aCX u (by rw[Dk];exact A) e he z
          omega
        · have z:=(aBv (D:=D) ops.toList 0 [] rfl (fun i hi=>au) (fun k o' N O=>hD k o' (by rw[<-Dk];exact N) (by simpa using O))).2 j o (by rw[Dk];exact A) hp i
          have⟨aa,H,d⟩:=p j o (by rw[Dk];exact A);rw[L] at H;cases H;have⟨_,_,_,b4,_⟩:=aAt d;rw[b4] at q;exact z (by rw[An];exact q)
        · have:=aFX E M hx hy hm
          rwa [An] at this
        · rw[G,v];exact K
      refine wpIn_region_any B ?_;have hE:jJ P σ S w σ ⟨S.h,S.nx+aos.length⟩ {w with drawn:=w.drawn+1}:=by
        have d:=jJ.heap (w':={w with drawn:=w.drawn+1}) T rfl rfl rfl rfl;refine⟨⟨d.rep.blk,fun b bl z=>by have:=d.rep.lt b bl z;simp only;omega,fun b z=>d.rep.fresh b (by simp only at z;omega),d.rep.glob,d.rep.inj⟩,d.low,by simp only;omega,d.keep,d.own,d.size,d.os,d.tape,d.output,d.ro⟩
      have l:∀i,¬In (Array.replicate ops.size false) i:=fun i h=>by
        unfold In at h;rw[Bp,Array.getElem?_replicate] at h;split at h<;>cases h
      refine aO8 X Y r hg (Af _) (σ0:=σ) (S0:=S) (w0:=w) (ds:=a.defers) (fun R a' w' q1 q2 q3 q4=>hQ R a' w' (by rw[<-G];exact q1) q2 q3 (by rw[<-G];exact q4)) ops.size _ 0 σ F a _ (by simp) ?_ (fun j o _ h=>absurd h (l j)) I rfl ?_
      · simp only[Array.toList_replicate]
        have:∀k,unl (List.replicate k false)=k:=fun k=>by induction k with
          | zero=>rfl
          | succ k ih=>rw[List.replicate_succ];simp only[unl];rw[ih]
        rw[this];exact Af _
      · refine⟨Ct _,fun c _=>⟨fun h=>absurd h (l c),fun h=>au⟩,?_,?_,fun i hi _=>?_,fun i b _ h=>absurd h (l i),fun i j b b' _ _ h=>absurd h (l i),?_,?_⟩
        · rw[v];exact hE
        · rw[v];exact Af _
        · exact T.fresh _ au
        · exact Z
        · intro t
          exact⟨0,Ct _,by rw[v],fun j o _ _=>⟨fun h=>absurd h (l j),fun h=>au⟩⟩
    · cases s
  · cases s
end Go.Ev
namespace Go.Ev
variable {P:Program}{σ:Env}{S:St}{w:World}
variable {t:TypeId}{x y:AV}{b:Bool}
def aGa(h:xZ (eqP P t) x y=some b):(isAgg t).run P w= .ok false w:=by
  rcases aHJ (P:=P) t with⟨d,c,e⟩|a
  · simp only[isAgg,Sem.run_bind,run_underlying c,Result.andThen_ok]
    cases d<;>first | rfl | (exfalso;unfold eqP at h;rw[c] at h;simp [xZ] at h)
  · rw[a] at h;simp [xZ] at h
def rN{a:List Value}{off:Nat}{V:Value}(c:(isAgg t).run P w= .ok false w)(d:a[off]? =some V):(part t ⟨a⟩ off).run P w= .ok V w:=by
  have b:(⟨a⟩:Array Value)[off]? =some V:=by simpa using d
  simp [part,c,b]
def aFj{off:Nat}{e:EqP}{g:List (Nat×EqP)}{a c:bu}(h:eqs ((off,e)::g) a c=some b):
    ∃x y r,a[off]? =some x/\c[off]? =some y/\xZ e x y=some r/\((r=true/\eqs g a c=some b)\/(r=false/\b=false)):=by
  simp only[eqs] at h;split at h
  · rename_i x y d f
    rw[qU] at d f;split at h
    · exact⟨x,y,true,d,f, ‹_›,.inl ⟨rfl,h⟩⟩
    · cases h;exact⟨x,y,false,d,f, ‹_›,.inr ⟨rfl,rfl⟩⟩
    · cases h
  · cases h
theorem vJ{xs ys:bu}{Xs Ys:List Value}(hX:jG P σ xs Xs)(hY:jG P σ ys Ys)(n:Nat):∀ (fs:List Field) (b:Bool),eqs (eqFields P fs) xs ys=some b->
    (Op.eqFields (n+1) ⟨Xs⟩ ⟨Ys⟩ fs).run P w= .ok b w
  | [],b,h=>by simp only[eqFields,eqs,Ay] at h;subst h;simp [Op.eqFields]
  | f::fs,b,h=>by
    simp only[eqFields,Bq] at h;by_cases hn:f.name= "_"
    · rw[if_pos (by simpa using hn)] at h
      simp only[Op.eqFields,hn,ne_eq,Dd,Eh];exact vJ hX hY n fs b h
    · rw[if_neg (by simpa using hn)] at h
      have⟨x,y,r,hx,hy,hr,hc⟩:=aFj h;have⟨V,hV,hv⟩:=hX.get hx;have⟨W,hW,hw⟩:=hY.get hy;have ha:=aGa (w:=w) hr;have hq:=aCk (w:=w) hv hw hr n;simp only[Op.eqFields,hn,ne_eq,Ap,Fc,Sem.run_bind,rN ha hV,rN ha hW,hq,Result.andThen_ok];rcases hc with⟨rfl,hc⟩ | ⟨rfl,rfl⟩
      · simpa using vJ hX hY n fs b hc
      · simp
def aC2{e:TypeId}{c d:bu}{f Ys:List Value}(g:jG P σ c f)(j:jG P σ d Ys)(n:Nat):∀ (is:cd) (b:Bool),eqs (is.map fun i=>(i,eqP P e)) c d=some b->
    (Op.eqItems (n+1) e 1 ⟨f⟩ ⟨Ys⟩ is).run P w= .ok b w
  | [],b,h=>by simp only[List.map_nil,eqs,Ay] at h;subst h;simp [Op.eqItems]
  | i::is,b,h=>by
    rw[Dh] at h;have⟨x,y,r,m,o,k,a⟩:=aFj h;have⟨V,p,q⟩:=g.get m;have⟨W,s,t⟩:=j.get o;have l:=aGa (w:=w) k;have u:=aCk (w:=w) q t k n;simp only[Op.eqItems,Ec,Sem.run_bind,rN l p,rN l s,u,Result.andThen_ok];rcases a with⟨rfl,a⟩|⟨rfl,rfl⟩
    · simpa using aC2 g j n is b a
    · simp
def aAq{e:TypeId}(h:P.cellsOf e=1):∃i,P.info? e=some i:=by
  unfold Program.cellsOf at h;cases hi:P.info? e with
  | none=>simp [hi] at h
  | some i=>exact⟨i,rfl⟩
def aOR(P:Program):vP P:=by
  intro σ w t q r s X Y b a k l h;simp only[Rv] at k l;obtain⟨u,rfl,o,_⟩:=k;obtain⟨Ys,rfl,p,_⟩:=l;unfold eqT at a;split at a
  · rename_i Fs f
    rw[Bq] at a;split at a
    · cases a
    · rename_i c
      cases a;simp only[Ff,not_or,Bool.not_eq_true] at c;refine⟨fun op g j=>run_eqGuard_agg w op t g j _ _ c.2,fun n=>?_⟩;have d:P.fieldsOf t=Fs:=by simp [Program.fieldsOf,f]
      rw[run_equalIn_struct w (n+1) t _ _ (by rw[d];exact f) c.1,d];exact vJ o p n _ b h
  · rename_i m e f
    rw[Bq] at a;split at a
    · cases a
    · rename_i c
      cases a;simp only[Ff,not_or,Bool.not_eq_true,bne_eq_false_iff_eq] at c;refine⟨fun op g j=>run_eqGuard_agg w op t g j _ _ c.1.1,fun n=>?_⟩;have⟨i,hi⟩:=aAq c.2;rw[run_equalIn_array w (n+1) _ _ f hi,c.2];exact aC2 o p n _ b h
  · cases a
def aDH(h:plainKey (eqP P t)=true):∃d,P.underlying t=some d/\(d= .bool\/(∃k,d= .int k)\/d= .string):=by
  unfold eqP at h;split at h<;>first | (simp [plainKey] at h;done) | skip
  · exact⟨_, ‹_›,.inl rfl⟩
  · exact⟨_, ‹_›,.inr (.inl ⟨_,rfl⟩)⟩
  · exact⟨_, ‹_›,.inr (.inr rfl)⟩
def aAj(h:plainKey (eqP P t)=true)(V:Value)(em:Bool)(n:Nat):(Instr.checkKey em (n+1) t V).run P w= .ok () w:=by
  have⟨d,a,b⟩:=aDH h;rcases b with rfl|⟨k,rfl⟩|rfl<;>simp [Instr.checkKey,run_underlying a]
def aDV(h:plainKey (eqP P t)=true):(isAgg t).run P w= .ok false w:=by
  have⟨d,a,b⟩:=aDH h;rcases b with rfl|⟨k,rfl⟩|rfl<;>simp [isAgg,run_underlying a]
def aAw:∀ {l:List (Nat×EqP)} {i j:Nat} {p:Nat×EqP},aCy i l=true->l[j]? =some p->p.1=i+j/\plainKey p.2=true
  | [],i,j,p,_,h=>by simp at h
  | (o,e)::l,i,j,p,a,h=>by
    simp only[aCy,Cy,Bn] at a;cases j with
    | zero=>simp at h;subst h;exact⟨by simp [a.1],a.2.1⟩
    | succ j=>
      simp at h;have⟨c,b⟩:=aAw a.2.2 h;exact⟨au,b⟩
theorem vR:∀ {fs:List Field} {f:Field},f∈fs->f.name≠ "_" ->(f.offset,eqP P f.type)∈eqFields P fs
  | g::fs,f,h,hn=>by
    simp only[eqFields,Bq];rcases Bm.1 h with rfl | h
    · rw[if_neg (by simpa using hn)];simp
    · split
      · exact vR h hn
      · exact Az _ (vR h hn)
theorem aMO(P:Program):aEU P:=by
  intro σ w kt e k K em hkt hk hs;rcases aAr hkt with⟨hu,rfl⟩ | ⟨⟨j,hu⟩,rfl⟩ | ⟨rfl,hu⟩
  · exact xR (.inl hu) K em
  · exact xR (.inr ⟨j,hu⟩) K em
  · cases hq:eqT P kt with
    | p q=>
      exfalso
      unfold aCh at hkt;rcases hu with⟨fs,hu,_⟩ | ⟨n,el,hu,_⟩<;>rw[hu] at hkt<;>simp only[hq] at hkt<;>cases hkt
    | struct l=>
      rw[hq] at hs hkt;have hcov:=aCO hkt;cases k<;>simp only[eqv,Option.isSome_none,Bf] at hs;rename_i xs;rw[cS] at hs;split at hs
      · rename_i hlen
        rw[Bn,gJ,gJ] at hlen;simp only[Rv] at hk;obtain⟨Xs,rfl,hX,_⟩:=hk;show(Instr.checkKey em (9998+1+1) kt _).run P w= .ok () w;generalize 9998=m;rcases hu with⟨fs,hu,hall⟩ | ⟨n,el,hu,hpl⟩
        · rw[Instr.checkKey]
          simp only[Sem.run_bind,run_underlying hu,Result.andThen_ok];have hl:l=eqFields P fs.toList:=by
            unfold eqT at hq;rw[hu] at hq;simp only[Bq] at hq;split at hq
            · cases hq
            · cases hq;rfl
          rw[<-Array.forIn_toList];have deep:∀f∈fs.toList,f.name≠ "_" ->plainKey (eqP P f.type)=true/\∃V,Xs[f.offset]? =some V:=fun f hf hn=>by
            refine⟨Array.all_eq_true_iff_forall_mem.1 hall f (Array.mem_toList_iff.1 hf),?_⟩;have⟨j,hj,e⟩:=Ce (vR (P:=P) hf hn);rw[<-hl] at hj;have:=aAw (j:=j) hcov (p:=(f.offset,eqP P f.type)) (by rw[Ab hj];subst hl;rw[e]);have hlt:f.offset<Xs.length:=by rw[hX.length,hlen];simp only at this;omega
            exact⟨_,Ab hlt⟩
          clear hall hl;generalize fs.toList=L at deep
          induction L with
          | nil=>simp
          | cons f L ih=>
            by_cases hn:f.name= "_"
            · simp only[List.forIn_cons,Sem.run_bind,hn,ne_eq,Dd,Eh,Sem.run_pure,Result.andThen_ok]
              exact ih (fun y hy=>deep y (by simp [hy]))
            · have⟨hp,V,hV⟩:=deep f (by simp) hn
              simp only[List.forIn_cons,Sem.run_bind,hn,ne_eq,Ap,Fc,Result.andThen_ok,rN (aDV hp) hV,aAj hp,Sem.run_pure];exact ih (fun y hy=>deep y (by simp [hy]))
        · rw[Instr.checkKey]
          simp only[Sem.run_bind,run_underlying hu,Result.andThen_ok];unfold eqT at hq;rw[hu] at hq;simp only[Bq] at hq;split at hq
          · cases hq
          · rename_i hc
            cases hq;simp only[Ff,not_or,Bool.not_eq_true,bne_eq_false_iff_eq] at hc;have⟨i,hi⟩:=aAq hc.2;have deep:∀j∈List.range' 0 n,∃V,Xs[j]? =some V:=fun j hj=>by
              have hj:j<n:=by simpa using hj
              exact⟨_,Ab (by rw[hX.length,hlen];simpa using hj)⟩
            simp only[Std.Legacy.Range.forIn_eq_forIn_range',Std.Legacy.Range.size,Ew,Nat.add_one_sub_one,Nat.div_one];clear hlen hcov hs hkt;generalize List.range' 0 n=is at deep
            induction is with
            | nil=>simp
            | cons j is ih=>
              have⟨V,hV⟩:=deep j (by simp);simp only[List.forIn_cons,Sem.run_bind,run_sizeOf w hi,hc.2,Ec,Result.andThen_ok,rN (aDV hpl) hV,aAj hpl,Sem.run_pure];exact ih (fun y hy=>deep y (by simp [hy]))
      · cases hs
def aCA{e:EqP}(k:plainKey e=true){X Y:Value}(c:Rv P σ x X)(d:Rv P σ y Y)(h:xZ e x y=some true)(n:Nat):Instr.sameBits n Y X=true:=by
  cases e<;>simp only[plainKey,Bf] at k<;>cases x<;>simp only[xZ,reduceCtorEq] at h<;>cases y<;>simp only[reduceCtorEq] at h
  · simp only[Rv] at c d
    subst c;subst d;simp only[Ay,vZ,beq_iff_eq] at h;cases n<;>simp [Instr.sameBits,h]
  · simp only[Rv] at c d
    subst c;subst d;have⟨g,f⟩:=cH h;have:=aAx g;subst this;simp only[Ay,jA,beq_iff_eq] at f;cases n<;>simp [Instr.sameBits,f]
  · simp only[Rv] at c d
    obtain⟨rfl,i⟩:=c;obtain⟨rfl,j⟩:=d;rename_i a b;simp only[Ay] at h;have g:iP b=iP a:=by
      have:=aDw i j;rw[h,<-beq_toListBytes] at this;have f:=(aHF i j).1 h;exact f.symm
    cases n<;>simp only[Instr.sameBits,g]<;>rw[beq_toListBytes]<;>simp
def aK9:∀ {l:List (Nat×EqP)} {b c:bu},eqs l b c=some true->∀p∈l,∃x y,b[p.1]? =some x/\c[p.1]? =some y/\xZ p.2 x y=some true
  | [],b,c,_,p,a=>by cases a
  | (o,e)::l,b,c,h,p,a=>by
    have⟨x,y,r,f,g,i,d⟩:=aFj h;rcases d with⟨rfl,d⟩|⟨rfl,j⟩
    · rcases Bm.1 a with rfl|a
      · exact⟨x,y,f,g,i⟩
      · exact aK9 d p a
    · cases j
def wE(P:Program):oO P:=by
  intro σ B e k k' K O a g b h;rcases aAr a with⟨c,rfl⟩|⟨⟨j,c⟩,rfl⟩|⟨rfl,c⟩
  · exact aCA (e:=.str) rfl g b h _
  · exact aCA (e:=.int) rfl g b h _
  · cases o:eqT P B with
    | p q=>
      exfalso
      unfold aCh at a;rcases c with⟨Q,c,_⟩|⟨n,el,c,_⟩<;>rw[c] at a<;>simp only[o] at a<;>cases a
    | struct l=>
      rw[o] at h a;have d:=aCO a;cases k<;>simp only[eqv,reduceCtorEq] at h;cases k'<;>simp only[reduceCtorEq] at h;rename_i R T;have⟨C,h⟩:=cH h;have⟨D,h⟩:=cH h;rw[Bn,gJ,gJ] at C D;simp only[Rv] at g b;obtain⟨r,rfl,s,_⟩:=g;obtain⟨Ys,rfl,t,_⟩:=b;have U:=s.length;have X:=t.length;show Instr.sameBits (9999+1) _ _=true;generalize 9999=m;simp only[Instr.sameBits,Cy,beq_iff_eq,Dq,List.size_toArray];refine⟨au,fun p E=>?_⟩;have⟨j,F,e⟩:=Ce E;rw[List.getElem_zip] at e;rw[List.length_zip] at F;have f:j<l.length:=by omega
      have⟨G,H⟩:=aAw d (Ab f);have⟨x,y,u,v,I⟩:=aK9 h _ (Bl f);rw[G,An] at u v;have⟨V,z,J⟩:=s.get u;have⟨W,A,L⟩:=t.get v;have:=aCA H J L I m;have M:r[j]' au =V:=by
        have:=Ab (l:=r) (i:=j) au;rw[this] at z;exact Bk z
      have N:Ys[j]' au =W:=by
        have:=Ab (l:=Ys) (i:=j) au;rw[this] at A;exact Bk A
      rw[<-e];simp only[M,N];exact this
end Go.Ev
namespace Go.Ev
variable {P:Program}{σ:Env}{S:St}{w:World}
variable {w':World}
def aLI(P:Program):aHU P:=trivial
def asked(P:Program):aAn P:=⟨aOR P,aMO P,aLI P⟩
def known{fns:T fD}(b:P.follows .mixedOrders=true)(c:∀id fn,fns.get id=some fn->∃Fn,P.funcs[id]? =some Fn/\cFn P Fn=some fn):qW P fns:=
  ⟨asked P,wE P,fun id fn h=>.inl (c id fn h),fun call a=>aC0 (asked P) (wE P) b call a⟩
noncomputable def table:List (Nat×fD)->T fD
  | []=>.e
  | (i,f)::l=>(table l).set i (some f)
def aCn:∀ {l:List (Nat×fD)} {id:Nat} {fn:fD},(table l).get id=some fn->(id,fn)∈l
  | [],id,fn,h=>by simp [table,T.get_e] at h
  | (i,f)::l,id,fn,h=>by
    simp only[table] at h;rw[dx] at h;split at h
    · rename_i a
      subst a;cases h;simp
    · exact Az _ (aCn h)
def Row(P:Program)(p:Nat×fD):Prop:=∃Fn,P.funcs[p.1]? =some Fn/\cFn P Fn=some p.2
def aI1{l:List (Nat×fD)}(a:P.follows .mixedOrders=true)(b:∀p∈l,Row P p):qW P (table l):=
  known a fun _ _ h=>b _ (aCn h)
structure Kept(w w':World):Prop where
  os:w'.os=w.os
  output:w'.output=w.output
  heap:∀r,r<w.heap.size->w'.heap[r]? =w.heap[r]?
  size:w.heap.size<=w'.heap.size
def Kept.but{w:World}(h:Kept w w')(may:MemPlace->Prop):w.keptBut w' may:=by
  refine⟨h.os,h.output,fun i hi=>?_⟩;rw[h.heap i hi];rw[El hi];cases w.heap[i]<;>simp
def jJ.kept{a:Env}{S':St}(h:jJ P σ S w a S' w')(b:∀r,¬Own σ S r):Kept w w':=
  ⟨h.os,h.output,fun r c=>h.keep r c (b r),h.size⟩
def aEL(P:Program):Env:=fun b=>if b<P.globals.size then some ⟨b,0,0⟩ else none
def okB(r:Option (AV×St)):Bool:=
  match r with
  | some (.bool b,_)=>b
  | _=>false
def aLZ{H:Type}{enc:TypeId×Value->H}{f:Func}{s:ChangeSpec}{a fresh c l:Bool}{W W':World}{args:Array Value}{v:Value}{ds n:List (DataW H)}{before pa pv:List MemPlace}
    (q:DataW.Whole enc P f.params.toList s.vars a W args.toList ds n before)
    (i:∀ (b:Nat) (m:Nat->Bool) (z:Bool),DataW.TrodAll enc P W' b m z f.resultTypes.toList (v.resultList f.resultTypes.size) (s.fn H (ds++n)).results [])
    (d:∀m:Nat->Bool,(∀p∈before,m p.block=true)->DataW.TrodAll enc P W' 0 m true f.params.toList args.toList (s.fn H (ds++n)).args pa)
    (e:∀m:Nat->Bool,(∀p∈before,m p.block=true)->DataW.TrodVars enc P W' m s.vars (s.fn H (ds++n)).vars pv)
    (g:before=pa++pv) (y:Kept W W')
    (u:∀ (j:Nat) (t:TypeId) (r:Value),f.resultTypes[j]? =some t->(v.resultList f.resultTypes.size)[j]? =some r->Value.okWide P W' .any 0 t r):
    s.post enc P f a fresh c l W args v W':=by
  have k:∀p∈before,(fun b=>decide (b<W.heap.size)) p.block=true:=fun p h=>by simpa using q.lt p h
  refine⟨ds,n,before,[],pa,pv,q,i _ _ _,d _ k,e _ k,World.keptBut_mono (fun p h=>⟨h,?_⟩) (y.but (· ∈before)),fun _=>?_⟩
  · rw[g,Bi] at h
    exact Or.inr h
  · have x:=q.lt
    have⟨_,_,_,_,_,A,B⟩:=q;refine⟨u,_,_,([]++pa)++pv,⟨[]++pa,pv,Go.ChangeShapes.trodAll_append (d _ (fun _ _=>rfl)) (i _ _ _),e _ (fun _ _=>rfl),rfl,?_,?_⟩,?_⟩
    · intro b off h
      have o:MemPlace.cell b off∈before:=by rw[g];simpa using h
      have C:=x _ o;have:=A b off o;unfold World.frozen? at this ⊢;rw[show W'.heap[({block:=b,off:=off}:Addr).block]? =W.heap[({block:=b,off:=off}:Addr).block]? from y.heap b C];exact this
    · intro D
      have:=B D;rw[g] at this;simpa using this
    · intro p h _
      rw[g];simpa using h
end Go.Ev
namespace Go.Ev
variable {P:Program}{σ:Env}{S:St}{w:World}
variable {h':T AB}{fns:T fD}{n:Nat}{c x y:AC}{A:bO}{R:Out->bO->St->Prop}{b:Bool}{l:List (Nat×bu)}
noncomputable def aFc:cd->T AB->T AB
  | [],_=>.e
  | i::l,h=>(aFc l h).set i (h.get i)
def aDZ:∀ {l:cd} {h:T AB} {b:Nat} {bl:AB},(aFc l h).get b=some bl->h.get b=some bl
  | [],h,b,bl,a=>by simp [aFc,T.get_e] at a
  | i::l,h,b,bl,a=>by
    simp only[aFc] at a;rw[dx] at a;split at a
    · rename_i e;subst e;exact a
    · exact aDZ a
def jJ.sub(h:mR P σ S w)(key:∀c bl,h'.get c=some bl->S.h.get c=some bl):jJ P σ S w σ ⟨h',S.nx⟩ w:=
  ⟨⟨fun c bl a=>h.blk c bl (key c bl a),fun c bl a=>h.lt c bl (key c bl a),h.fresh,h.glob,fun c g b d i j e f=>h.inj c g b d i j (key _ _ e) (key _ _ f)⟩,
    fun _ _=>rfl,Af _,fun _ _ _=>rfl,fun r ⟨c,bl,L,e,f⟩=>.inl ⟨c,bl,L,key _ _ e,f⟩,Af _,rfl,rfl,rfl,fun c cs a=>key _ _ a⟩
def Good(P:Program)(c:AC)(A:bO)(S:St)(R:Out->bO->St->Prop):Prop:=
  ∀ (ro:Option Nat) (n nt:Nat) (C:Code),jU P nt C=some c->(A.inr=false->ro=none)->
    ∀ (lo:Nat) (σ:Env) (a:Act) (w:World) (Q:Exit->Act->World->Prop),a.tmps.size=nt->Df [] lo A.inr σ S w a.defers->lo<=w.heap.size->qR P σ A.F a.tmps->mR P σ S w->
      (∀o d S' b a' w',R o d S'->d.inr=A.inr->a'.tmps.size=nt->Df [] lo A.inr b S' w' a'.defers->qR P b d.F a'.tmps->jJ P σ S w b S' w'->Q (aGZ o) a' w')->C.wpIn (Fw ro) n P Q a w
def aQo(k:qW P fns){d:bO}{S S':St}{o:Out}(h:(ev fns n).code c A S=some (o,d,S'))(l:R o d S'):Good P c A S R:=
  fun ro m nt C p e lo σ a w Q f g i q b r=>aEo k n ro m nt C c p A S o d S' e h [] lo σ a w Q f g i q b (fun j a' w' s t u _ v x=>r o d S' j a' w' l s t u v x)
def aMx{nt:Nat}{C:Code}(h:jU P nt C=some (.seq x y)):∃X Y,C= .seq X Y/\jU P nt X=some x/\jU P nt Y=some y:=by
  cases C<;>simp only[jU] at h
  case seq X Y=>
    split at h
    · rename_i a b c d
      cases h;exact⟨X,Y,rfl,c,d⟩
    · cases h
  all_goals
    exfalso
    (repeat' split at h)<;>first
      | (cases h;done)
      | (simp only[Bq] at h
         (repeat' split at h)<;>first
          | (cases h;done)
          | (have⟨_,_,h⟩:=Bc.1 h;cases h;done)
          | (unfold aDG at h;split at h<;>(try rw[Bq] at h)<;>(try split at h)<;>cases h;done))
      | (have⟨_,_,h⟩:=Bc.1 h;cases h;done)
def aOQ{S:St}(h:Good P x A S fun o e S1=>o= .normal/\e.inr=A.inr/\Good P y e S1 R):Good P (.seq x y) A S R:=by
  intro ro m nt C p b lo σ a w Q f g c q d s;obtain⟨X,Y,rfl,t,u⟩:=aMx p;refine wpIn_seq (h ro m nt X t b lo σ a w _ f g c q d ?_);rintro o e S1 i v z ⟨rfl,I,B⟩ l s1 d1 f1 j;have⟨J,n⟩:=e;simp only at l;subst l;exact B ro m nt Y u b lo i v z Q s1 d1 (Aq c j.size) f1 j.rep (fun o D S' k a' w' r n E F G H=>s o D S' k a' w' r n E F G (j.trans H))
def aIk(o:Out):Bool:=
  match o with
  | .normal=>true
  | _=>false
noncomputable def aPG(e:Evs):List AC->bO->St->Option (bO×St)
  | [],A,S=>some (A,S)
  | c::cs,A,S=>bD (e.code c A S) fun r=>bX (aIk r.1) (aPG e cs r.2.1 r.2.2) none
def aRK:List AC->AC->AC
  | [],r=>r
  | c::cs,r=>.seq c (aRK cs r)
noncomputable def stage(fns:T fD)(n:Nat)(cs:List AC)(keep:cd)(A:bO)(S:St):Option (bO×St):=bD (aPG (ev fns n) cs A S) fun r=>some (r.1,⟨aFc keep r.2.h,r.2.nx⟩)
def aOs{S:St}(key:∀b bl,h'.get b=some bl->S.h.get b=some bl)(h:Good P c A ⟨h',S.nx⟩ R):Good P c A S R:=by
  intro ro m nt C l f lo σ a w Q g i j n d p;have e:=jJ.sub d key;exact h ro m nt C l f lo σ a w Q g (i.ext d e) j n e.rep (fun o q S' k a' w' r s t u v x=>p o q S' k a' w' r s t u v (e.trans x))
def aFL{fns:T fD}(q:qW P fns){n:Nat}{y:AC}{R:Out->bO->St->Prop}:∀ {cs:List AC} {A b:bO} {S S1:St},aPG (ev fns n) cs A S=some (b,S1)->(b.inr=A.inr->Good P y b S1 R)->Good P (aRK cs y) A S R
  | [],A,b,S,S1,h,f=>by cases h;exact f rfl
  | c::cs,A,b,S,S1,h,f=>by
    simp only[aPG] at h;have⟨⟨o,G,S'⟩,r,s⟩:=aO h;have⟨t,u⟩:=cH s;cases o<;>simp only[aIk,Bf] at t;apply aOQ;intro ro m nt C v g lo σ a w Q i j k x d z;refine aEo q n ro m nt C c v A S _ _ _ g r [] lo σ a w Q i j k x d (fun l a' w' p B D _ E F=>?_);exact z _ _ _ l a' w' ⟨rfl,p,aFL q u (fun e=>f (e.trans p))⟩ p B D E F
def aE0(b:qW P fns){cs:List AC}{keep:cd}{a:bO}{S S1:St}(h:stage fns n cs keep A S=some (a,S1))(c:Good P y a S1 R):Good P (aRK cs y) A S R:=by
  have⟨⟨g,S'⟩,d,e⟩:=aO h;cases e;exact aFL b d fun _=>aOs (fun _ _ f=>aDZ f) c
noncomputable def aMF(a:List RV)(o:Out)(A:bO)(S:St):Option Bool:=
  match o with
  | .exit _=>none
  | _=>match results a A.F S.h with
    | some [.bool b]=>some b
    | _=>none
def aML{a:List RV}{o:Out}{S:St}(h:aMF a o A S=some b):(o= .normal\/o= .ret)/\results a A.F S.h=some [.bool b]:=by
  unfold aMF at h;split at h
  · cases h
  · rename_i c
    refine⟨?_,?_⟩
    · cases o with
      | normal=>exact .inl rfl
      | ret=>exact .inr rfl
      | exit i=>exact absurd rfl (c i)
    · split at h
      · rename_i e d;cases h;exact d
      · cases h
noncomputable def aJl:List (Nat×bu)->T AB
  | []=>.e
  | (g,cs)::l=>(aJl l).set g (some (.ro cs))
noncomputable def stL(P:Program)(l:List (Nat×bu)):St:=⟨aJl l,P.globals.size⟩
def aM3(P:Program)(l:List (Nat×bu))(w:World):Prop:=
  ∀t∈l,t.1<P.globals.size/\t.1<w.heap.size/\∃a,jG P (aEL P) t.2 a/\(∀u∈a,u.oneCell'=true)/\w.rangeAt t.1 0 a
def pX:∀ {l:List (Nat×bu)} {b:Nat} {bl:AB},(aJl l).get b=some bl->∃cs,(b,cs)∈l/\bl= .ro cs
  | [],b,bl,h=>by simp [aJl,T.get_e] at h
  | (g,cs)::l,b,bl,h=>by
    simp only[aJl] at h;rw[dx] at h;split at h
    · rename_i e;subst e;cases h;exact⟨cs,by simp,rfl⟩
    · have⟨cs',a,c⟩:=pX h
      exact⟨cs',Az _ a,c⟩
def aTp{w:World}(c:aM3 P l w):mR P (aEL P) (stL P l) w where
  blk:=fun b bl h=>by
    obtain⟨cs,a,rfl⟩:=pX h;have⟨d,e,f,i,j,k⟩:=c _ a;exact⟨⟨b,0,0⟩,by simp only[aEL];rw[if_pos d],e,f,i,j,k⟩
  lt:=fun b bl h=>by
    obtain⟨cs,a,rfl⟩:=pX h;exact(c _ a).1
  fresh:=fun b h=>by simp only[stL] at h;simp only[aEL];rw[if_neg au]
  glob:=fun g h=>by simp only[aEL];rw[if_pos h]
  inj:=fun b o bl m L p h _ n=>by
    obtain⟨cs,_,rfl⟩:=pX h;exact n.elim
def aU3(r:Nat):¬Own (aEL P) (stL P l) r:=fun⟨b,bl,L,h,a,_⟩=>by
  obtain⟨cs,_,rfl⟩:=pX h;exact a.elim
def aOw{w:World}:aM3 P [] w:=fun t h=>by cases h
noncomputable def aQ1(a:List RV)(r:Out×bO×St):Option Bool:=aMF a r.1 r.2.1 r.2.2
def aMf(e:qW P fns){a:List RV}{S:St}(h:bD ((ev fns n).code c A S) (aQ1 a)=some b):Good P c A S fun o d S'=>aMF a o d S'=some b:=by
  have⟨⟨o,d,S'⟩,f,g⟩:=aO h;exact aQo e f g
end Go.Ev
