import Derived.Test.YtiiplmagnlcpbaaGreatDoorEv6
import Derived.ChangeKeysEq
import Derived.ChangeSame
import Derived.Lib.LaidTab
set_option linter.unusedSimpArgs false
set_option linter.unusedVariables false
namespace Go.Ev
variable {P:Program}
def unl:List Bool->Nat
  | []=>0
  | true::l=>unl l
  | false::l=>unl l+1
theorem aKn:∀ {l:List Bool} {k:Nat},l[k]? =some false->unl (l.set k true)+1=unl l
  | [],k,h=>by simp at h
  | b::l,0,h=>by simp at h;subst h;rfl
  | b::l,k+1,h=>by
    have:=aKn (l:=l) (k:=k) (by simpa using h);cases b<;>simp only[List.set_cons_succ,unl]<;>omega
theorem aHB:∀ {l:List Bool},unl l=0->∀k,k<l.length->l[k]? =some true
  | [],_,k,hk=>by simp at hk
  | true::l,h,0,_=>rfl
  | true::l,h,k+1,hk=>by simpa using aHB (l:=l) h k (by simpa using hk)
  | false::l,h,k,hk=>by simp [unl] at h
section
variable {aos:List AO}{base:Nat}{call:dR}{Ds:Nat->DS}{ops:Array Oper}{nt:Nat}
structure Reg(P:Program)(nt:Nat)(ops:Array Oper)(aos:List AO)(base:Nat)(call:dR)(Ds:Nat->DS):Prop where
  tr:Tr aos base call Ds
  len:aos.length=ops.size
  op:∀ (j:Nat) (o:Oper),ops[j]? =some o->∃ao:AO,aos[j]? =some ao/\zK nt o.dst=true/\aBS ops o.guard=some ao.grd/\ao.dst=o.dst/\(qK P o.op=some ao.op\/ao.op= .x .bad)
  back:∀ (j:Nat) (o:Oper),ops[j]? =some o->∀e∈o.after,Region.binds .any e=true->e.on<j
  bits:∀D:Nat->Prop,(∀ (j:Nat) (o:Oper),ops[j]? =some o->D j->∀e∈o.after,Region.binds .any e=true->D e.on)->∀ (j:Nat) (o:Oper) (ao:AO),ops[j]? =some o->aos[j]? =some ao->(∀e∈o.after,Region.binds .any e=true->D e.on)->∀i,Nat.testBit ao.mask i=true->D i
  touch:∀ (i j:Nat) (a b:AO),i<j->aos[i]? =some a->aos[j]? =some b->(meets a.dst b.touch || meets b.dst a.touch)=true->Nat.testBit b.mask i=true
  hs0:(Ds 0).hs= []
  ps0:(Ds 0).ps= []
  loads:fT (Ds 0).S.h (Ds aos.length).hs.reverse (Ds aos.length).ls=true
def Closed(ops:Array Oper)(D:Nat->Prop):Prop:=∀ (j:Nat) (o:Oper),ops[j]? =some o->D j->∀e∈o.after,Region.binds .any e=true->D e.on
structure Inv(P:Program)(aos:List AO)(base:Nat)(Ds:Nat->DS)(σ0:Env)(S0:St)(w0:World)(D:Nat->Prop)(s:Nat)(σ:Env)(w:World)(Fh:Fr)(tmps:Array Value):Prop where
  sle:s<=aos.length
  chain:∀c,jL aos Ds c->(D c↔c<s)
  ext:gM P σ0 S0 w0 σ (Ds s).S w
  nx:base+aos.length<=(Ds s).S.nx
  free:∀i,i<aos.length->¬D i->σ (base+i)=none
  pend:∀i b,Made aos base Ds i b->D i->¬Laid aos Ds i s->∃L,tE P w0.heap.size σ (Ds s).S w (base+i) b L
  dist:∀i j b b',i≠j->Made aos base Ds i b->D i->¬Laid aos Ds i s->Made aos base Ds j b'->D j->¬Laid aos Ds j s->∀L L',σ (base+i)=some L->σ (base+j)=some L'->L.r≠L'.r
  frame:pV P σ Fh tmps
  slots:∀t,∃i,i<=aos.length/\aB t Fh=aB t (Ds i).F/\∀ (j:Nat) (o:AO),aos[j]? =some o->o.dst=some t->(D j↔j<i)
theorem Reg.mask(h:Reg P nt ops aos base call Ds){D:Nat->Prop}(hD:Closed ops D){j:Nat}{ao:AO}(hj:D j)(ha:aos[j]? =some ao):∀i,Nat.testBit ao.mask i=true->D i:=by
  have hlt:j<aos.length:=(Ai.1 ha).1;have ho:ops[j]? =some (ops[j]'(by rw[<-h.len];exact hlt)):=Ff _;exact h.bits D hD j _ ao ho ha (hD j _ ho hj)
theorem Reg.maskLt(h:Reg P nt ops aos base call Ds):∀ (k:Nat) (o:AO) (i:Nat),aos[k]? =some o->Nat.testBit o.mask i=true->i<k:=by
  intro k ao i ha hb;have hlt:k<aos.length:=(Ai.1 ha).1;have ho:ops[k]? =some (ops[k]'(by rw[<-h.len];exact hlt)):=Ff _;exact h.bits (fun i=>i<k) (fun j o hj hlt e he hb=>by have:=h.back j o hj e he hb;exact Nat.lt_trans this hlt) k _ ao ho ha (fun e he hb=>h.back k _ ho e he hb) i hb
theorem Inv.agree{σ0:Env}{S0:St}{w0:World}{D:Nat->Prop}{s:Nat}{σ:Env}{w:World}{Fh:Fr}{tmps:Array Value}(hg:Reg P nt ops aos base call Ds)(h:Inv P aos base Ds σ0 S0 w0 D s σ w Fh tmps)(hD:Closed ops D){k:Nat}{ao:AO}(ha:aos[k]? =some ao)(hk:¬D k)
    (hm:∀i,Nat.testBit ao.mask i=true->D i) {t:Nat} (ht:t∈ao.touch):aB t Fh=aB t (Ds k).F/\(∀ (j:Nat) (o:AO),aos[j]? =some o->o.dst=some t->(j<k->D j)/\(k<=j->¬D j)):=by
  have hkl:k<aos.length:=(Ai.1 ha).1;have hw:∀ (j:Nat) (o:AO),aos[j]? =some o->o.dst=some t->(j<k->D j)/\(k<=j->¬D j):=by
    intro j o hj hd;refine⟨fun hlt=>?_,fun hle=>?_⟩
    · exact hm j (hg.touch j k o ao hlt hj ha (by rw[Gr];exact .inl (aIH hd ht)))
    · rcases Bj k j with h1 | h1
      · intro hDj
        exact hk (hg.mask hD hDj hj k (hg.touch k j ao o h1 ha hj (by rw[Gr];exact .inr (aIH hd ht))))
      · rw[show j=k by omega];exact hk
  refine⟨?_,hw⟩;have⟨i,hi,h1,h2⟩:=h.slots t;rw[h1];rcases Nat.le_total i k with h3 | h3
  · refine(hg.tr.slot_keep h3 au ?_).symm
    intro j o h4 h5 h6 h7;have:=(h2 j o h6 h7).1 ((hw j o h6 h7).1 h5);omega
  · refine hg.tr.slot_keep h3 hi ?_
    intro j o h4 h5 h6 h7;exact(hw j o h6 h7).2 h4 ((h2 j o h6 h7).2 h5)
def aF5(D:Nat->Prop)(k:Nat):Nat->Prop:=fun i=>D i\/i=k
theorem Inv.slots'{σ0:Env}{S0:St}{w0:World}{D:Nat->Prop}{s:Nat}{σ:Env}{w:World}{Fh:Fr}{tmps:Array Value}(hg:Reg P nt ops aos base call Ds)(h:Inv P aos base Ds σ0 S0 w0 D s σ w Fh tmps)(hD:Closed ops D){k:Nat}{ao:AO}(ha:aos[k]? =some ao)(hk:¬D k)
    (hm:∀i,Nat.testBit ao.mask i=true->D i) {v:AV} (hv:∀d,ao.dst=some d->aB d (Ds (k+1)).F=v):
    ∀t,∃i,i<=aos.length/\aB t (cJ ao.dst Fh v)=aB t (Ds i).F/\∀ (j:Nat) (o:AO),aos[j]? =some o->o.dst=some t->(aF5 D k j↔j<i):=by
  intro t;have hkl:k<aos.length:=(Ai.1 ha).1;by_cases hd:ao.dst=some t
  · refine⟨k+1,au,?_,?_⟩
    · rw[hd,tO,hv t hd]
    · intro j o hj hjd
      have⟨h1,h2⟩:=(h.agree hg hD ha hk hm (t:=t) (by simp [AO.touch,hd])).2 j o hj hjd;constructor
      · rintro(h3 | h3)
        · rcases Bj j k with h4 | h4
          · omega
          · exact absurd h3 (h2 h4)
        · omega
      · intro h3
        rcases Bj j k with h4 | h4
        · exact .inl (h1 h4)
        · exact .inr au
  · have⟨i,hi,h1,h2⟩:=h.slots t
    refine⟨i,hi,by rw[rC hd];exact h1,fun j o hj hjd=>?_⟩;have hne:j≠k:=fun e=>by rw[e,ha] at hj;cases hj;exact hd hjd
    constructor
    · rintro(h3 | h3)
      · exact(h2 j o hj hjd).1 h3
      · exact absurd h3 hne
    · exact fun h3=>.inl ((h2 j o hj hjd).2 h3)
theorem aDZ{k:Nat}{ao:AO}(ha:aos[k]? =some ao)(h:∀a,ao.op= .a a->fI ao.grd (Ds k).F=false):∀b,¬Made aos base Ds k b:=by
  rintro b ⟨o,a,v,h1,h2,h3,_⟩;rw[ha] at h1;cases h1;rw[h a h2] at h3;cases h3
theorem aB4{k:Nat}{ao:AO}(ha:aos[k]? =some ao)(h:∀x,ao.op= .x x->fI ao.grd (Ds k).F=false):¬jL aos Ds k:=by
  rintro⟨o,x,h1,h2,h3⟩;rw[ha] at h1;cases h1;rw[h x h2] at h3;cases h3
theorem Inv.quiet{σ0:Env}{S0:St}{w0:World}{D:Nat->Prop}{s:Nat}{σ:Env}{w:World}{Fh:Fr}{a:Act}(hg:Reg P nt ops aos base call Ds)(h:Inv P aos base Ds σ0 S0 w0 D s σ w Fh a.tmps)(hD:Closed ops D){k:Nat}{ao:AO}(ha:aos[k]? =some ao)(hk:¬D k)
    (hm:∀i,Nat.testBit ao.mask i=true->D i) (hnm:∀b,¬Made aos base Ds k b) (hnc:¬jL aos Ds k) {v:AV} {V:Value} (hv:∀d,ao.dst=some d->aB d (Ds (k+1)).F=v) (hd:zK a.tmps.size ao.dst=true) (hV:Rv P σ v V):
    Inv P aos base Ds σ0 S0 w0 (aF5 D k) s σ w (cJ ao.dst Fh v) (a.put ao.dst V).tmps where
  sle:=h.sle
  chain:=fun c hc=>by
    rw[<-h.chain c hc];exact⟨fun h1=>h1.elim id (fun e=>by subst e;exact absurd hc hnc),.inl⟩
  ext:=h.ext
  nx:=h.nx
  free:=fun i hi hn=>h.free i hi (fun h1=>hn (.inl h1))
  pend:=fun i b hM hDi hL=>h.pend i b hM (hDi.elim id (fun e=>by subst e;exact absurd hM (hnm b))) hL
  dist:=fun i j b b' hne hM hDi hL hM' hDj hL'=>h.dist i j b b' hne hM (hDi.elim id (fun e=>by subst e;exact absurd hM (hnm b))) hL hM' (hDj.elim id (fun e=>by subst e;exact absurd hM' (hnm b'))) hL'
  frame:=h.frame.put hd hV
  slots:=h.slots' hg hD ha hk hm hv
theorem Inv.alloc{σ0:Env}{S0:St}{w0 w':World}{D:Nat->Prop}{s:Nat}{σ:Env}{w:World}{Fh:Fr}{a:Act}(hg:Reg P nt ops aos base call Ds)(hb0:S0.nx<=base)(h:Inv P aos base Ds σ0 S0 w0 D s σ w Fh a.tmps)(hD:Closed ops D){k:Nat}{ao:AO}(ha:aos[k]? =some ao)(hk:¬D k)
    (hm:∀i,Nat.testBit ao.mask i=true->D i) (hnc:¬jL aos Ds k) {v:AV} {bl:AB} {V:Value} (hmk:∀b,Made aos base Ds k b->b=bl) (hv:∀d,ao.dst=some d->aB d (Ds (k+1)).F=v) (hd:zK a.tmps.size ao.dst=true) (hM:aCE P σ w (base+k) v bl V w'):
    ∃σ',Inv P aos base Ds σ0 S0 w0 (aF5 D k) s σ' w' (cJ ao.dst Fh v) (a.put ao.dst V).tmps:=by
  have⟨ob,e,m1,m2,m3,m4,m5,m6,m7⟩:=hM;have hkl:k<aos.length:=(Ai.1 ha).1;have hid:=h.free k hkl hk;have hR:=h.ext.rep;have hnx:=h.nx;have hmono:=gF (L:=⟨w.heap.size,0,e⟩) hid;have hkk:∀i b,Made aos base Ds i b->aF5 D k i->i≠k->D i:=fun i b _ h1 h2=>h1.elim id (fun e=>absurd e h2);refine⟨upd σ (base+k) ⟨w.heap.size,0,e⟩,⟨h.sle,fun c hc=>?_,h.ext.grow hid au au  m1 m2 m3 m4,h.nx,fun i hi hn=>?_,fun i b hMi hDi hL=>?_,?_,?_,h.slots' hg hD ha hk hm hv⟩⟩
  · rw[<-h.chain c hc]
    exact⟨fun h1=>h1.elim id (fun e=>by subst e;exact absurd hc hnc),.inl⟩
  · rw[eJ _ (fun e=>hn (.inr au))]
    exact h.free i hi (fun h1=>hn (.inl h1))
  · by_cases hik:i=k
    · subst hik
      have:=hmk b hMi;subst this;refine⟨_,upd_same _ _,h.ext.size,?_,m5,m6,?_⟩
      · rw[m1];simp
      · intro c bl' M h1 h2
        have⟨L',h3,h4,_⟩:=hR.blk c bl' h1;rw[hmono _ _ h3] at h2;cases h2;simp only;omega
    · have⟨L,h1⟩:=h.pend i b hMi (hkk i b hMi hDi hik) hL
      exact⟨L,h1.grow hR hid m1⟩
  · intro i j b b' hne hMi hDi hLi hMj hDj hLj L L' hL hL'
    by_cases hik:i=k
    · subst hik
      rw[upd_same] at hL;cases hL;have⟨M,h1⟩:=h.pend j b' hMj (hkk j b' hMj hDj (Dy hne)) hLj;rw[hmono _ _ h1.at_] at hL';cases hL';have:=h1.lt;simp only;omega
    · by_cases hjk:j=k
      · subst hjk
        rw[upd_same] at hL';cases hL';have⟨M,h1⟩:=h.pend i b hMi (hkk i b hMi hDi hik) hLi;rw[hmono _ _ h1.at_] at hL;cases hL;have:=h1.lt;simp only;omega
      · rw[eJ _ au] at hL hL'
        exact h.dist i j b b' hne hMi (hkk i b hMi hDi hik) hLi hMj (hkk j b' hMj hDj hjk) hLj L L' hL hL'
  · exact(h.frame.mono hmono).put hd m7
theorem Inv.same{σ0:Env}{S0:St}{w0:World}{D:Nat->Prop}{s:Nat}{σ:Env}{w:World}{Fh:Fr}{tmps:Array Value}(h:Inv P aos base Ds σ0 S0 w0 D s σ w Fh tmps)(hg:Reg P nt ops aos base call Ds){k:Nat}(hk:k<=aos.length)(hc:∀c,jL aos Ds c->(c<k↔D c)):
    (Ds k).S=(Ds s).S/\∀i,Laid aos Ds i k↔Laid aos Ds i s:=by
  have hck:∀c,jL aos Ds c->(c<k↔c<s):=fun c h1=>(hc c h1).trans (h.chain c h1);constructor
  · rcases Nat.le_total k s with h1 | h1
    · exact(hg.tr.heap_keep h1 h.sle (fun j h2 h3 h4=>by have:=(hck j h4).2 h3;omega)).1.symm
    · exact(hg.tr.heap_keep h1 hk (fun j h2 h3 h4=>by have:=(hck j h4).1 h3;omega)).1
  · intro i
    constructor
    · rintro⟨c,o,h1,h2,h3⟩;exact⟨c,o,(hck c h2).1 h1,h2,h3⟩
    · rintro⟨c,o,h1,h2,h3⟩;exact⟨c,o,(hck c h2).2 h1,h2,h3⟩
theorem Inv.laid{σ0:Env}{S0:St}{w0:World}{D:Nat->Prop}{s:Nat}{σ:Env}{w:World}{Fh:Fr}{tmps:Array Value}(h:Inv P aos base Ds σ0 S0 w0 D s σ w Fh tmps)(hg:Reg P nt ops aos base call Ds){k m:Nat}(hk:k<=aos.length)(hc:∀c,jL aos Ds c->(c<k↔D c))(hm:∀i,i<k->Nat.testBit m i=true->D i):
    gM P σ0 S0 w0 σ ⟨(cG m (Ds k).ps (Ds k).S.h).2,(Ds k).S.nx⟩ w/\
    ∀i b L,Made aos base Ds i b->D i->¬Laid aos Ds i s->Nat.testBit m i=false->tE P w0.heap.size σ (Ds s).S w (base+i) b L->tE P w0.heap.size σ ⟨(cG m (Ds k).ps (Ds k).S.h).2,(Ds k).S.nx⟩ w (base+i) b L:=by
  have⟨e1,e2⟩:=h.same hg hk hc;rw[e1];have hp:=hg.tr.pend hg.ps0 hg.maskLt k hk;have hst:∀p∈(Ds k).ps,Nat.testBit m p.i=true->D p.i/\¬Laid aos Ds p.i s/\p.i<aos.length:=fun p hpm hb=>by
    have⟨a1,a2,a3,a4⟩:=hp p hpm;exact⟨hm _ a1 hb,fun h1=>a4 ((e2 _).2 h1),au⟩
  have hnx:=h.nx;constructor
  · refine h.ext.lay (Af _) (fun p hpm hb=>?_) (fun p hpm q hqm hb hb' hne L L' hL hL'=>?_)
    · have⟨a1,a2,a3,a4⟩:=hp p hpm
      have⟨b1,b2,b3⟩:=hst p hpm hb;rw[a2];exact⟨au,h.pend _ _ a3 b1 b2⟩
    · have⟨a1,a2,a3,a4⟩:=hp p hpm
      have⟨b1,b2,b3⟩:=hst p hpm hb;have⟨a1',a2',a3',a4'⟩:=hp q hqm;have⟨b1',b2',b3'⟩:=hst q hqm hb';rw[a2] at hL hne;rw[a2'] at hL' hne;exact h.dist p.i q.i _ _ (fun e=>hne (by rw[e])) a3 b1 b2 a3' b1' b2' L L' hL hL'
  · intro i b L hM hDi hLi hbit hS
    refine⟨hS.at_,hS.ge,hS.lt,hS.rep,hS.own,?_⟩;intro c bl M h1 h2;rcases mM h1 with⟨p,hpm,hb,rfl,rfl⟩ | h1
    · have⟨a1,a2,a3,a4⟩:=hp p hpm
      have⟨b1,b2,b3⟩:=hst p hpm hb;rw[a2] at h2;refine h.dist p.i i _ _ (fun e=>?_) a3 b1 b2 hM hDi hLi M L h2 hS.at_;rw[e,hbit] at hb;cases hb
    · exact hS.sep c bl M h1 h2
theorem Inv.act{σ0:Env}{S0:St}{w0 w':World}{D:Nat->Prop}{s:Nat}{σ σ':Env}{w:World}{Fh:Fr}{a:Act}(hg:Reg P nt ops aos base call Ds)(h:Inv P aos base Ds σ0 S0 w0 D s σ w Fh a.tmps)(hD:Closed ops D){k:Nat}{ao:AO}(ha:aos[k]? =some ao)(hk:¬D k)
    (hm:∀i,Nat.testBit ao.mask i=true->D i) (hch:jL aos Ds k) (hc:∀c,jL aos Ds c->(c<k↔D c)) {v:AV} {V:Value} (hv:∀d,ao.dst=some d->aB d (Ds (k+1)).F=v) (hd:zK a.tmps.size ao.dst=true)
    (hE:gM P σ ⟨(cG ao.mask (Ds k).ps (Ds k).S.h).2,(Ds k).S.nx⟩ w σ' (Ds (k+1)).S w') (hV:Rv P σ' v V):
    Inv P aos base Ds σ0 S0 w0 (aF5 D k) (k+1) σ' w' (cJ ao.dst Fh v) (a.put ao.dst V).tmps:=by
  have hkl:k<aos.length:=(Ai.1 ha).1;have⟨e1,e2⟩:=h.same hg au hc;have⟨hlay,hstand⟩:=h.laid hg (m:=ao.mask) (show k<=aos.length by omega) hc (fun i _ hb=>hm i hb);have hnx:=h.nx;have hnm:∀b,¬Made aos base Ds k b:=aDZ ha (fun x hx=>by
    have⟨o,y,h1,h2,h3⟩:=hch;rw[ha] at h1;cases h1;rw[hx] at h2;cases h2)
  have hDi:∀i b,Made aos base Ds i b->aF5 D k i->D i:=fun i b hM h1=>h1.elim id (fun e=>by subst e;exact absurd hM (hnm b));have hLd:∀i,¬Laid aos Ds i (k+1)->¬Laid aos Ds i s/\Nat.testBit ao.mask i=false:=fun i hn=>by
    refine⟨fun h1=>?_,?_⟩
    · have⟨c,o,h2,h3⟩:=(e2 i).2 h1
      exact hn ⟨c,o,au,h3⟩
    · cases hb:Nat.testBit ao.mask i with
      | false=>rfl
      | true=>exact absurd ⟨k,ao,Fj _,hch,ha,hb⟩ hn
  have hS':(Ds k).S.nx=(Ds s).S.nx:=by rw[e1]
  have hlow:∀i,i<aos.length->σ' (base+i)=σ (base+i):=fun i hi=>hE.low _ (by simp only;omega);have hlt:∀i b,Made aos base Ds i b->i<aos.length:=fun i b ⟨o,_,_,h1,_⟩=>(Ai.1 h1).1;refine⟨au,fun c hc'=>?_,hlay.trans hE,?_,fun i hi hn=>?_,fun i b hM hw hL=>?_,fun i j b b' hne hM hw hL hM' hw' hL' L L' hLi hLj=>?_,(h.frame.mono (hE.mono hlay.rep)).put hd hV,h.slots' hg hD ha hk hm hv⟩
  · constructor
    · rintro(h1 | h1)
      · have:=(hc c hc').2 h1;omega
      · omega
    · intro h1
      rcases Bj c k with h2 | h2
      · exact .inl ((hc c hc').1 h2)
      · exact .inr au
  · have:=hE.nx
    simp only at this;omega
  · rw[hlow i hi]
    exact h.free i hi (fun h1=>hn (.inl h1))
  · have⟨h1,h2⟩:=hLd i hL
    have⟨L,h3⟩:=h.pend i b hM (hDi i b hM hw) h1;have hli:=hlt i b hM;exact⟨L,(hstand i b L hM (hDi i b hM hw) h1 h2 h3).act hlay.rep hE (by simp only;omega)⟩
  · rw[hlow i (hlt i b hM)] at hLi
    rw[hlow j (hlt j b' hM')] at hLj;exact h.dist i j b b' hne hM (hDi i b hM hw) (hLd i hL).1 hM' (hDi j b' hM' hw') (hLd j hL').1 L L' hLi hLj
end
end Go.Ev
namespace Go.Ev
variable {P:Program}{aos:List AO}{base:Nat}{call:dR}{Ds:Nat->DS}{ops:Array Oper}{nt:Nat}
def In(listed:Array Bool)(i:Nat):Prop:=listed.getD i false=true
theorem aBl{listed:Array Bool}{i:Nat}(h:listed.getD i true=false):listed[i]? =some false:=by
  rw[Bg] at h;cases hi:listed[i]? with
  | none=>rw[hi] at h;cases h
  | some b=>rw[hi] at h;simp at h;rw[h]
theorem aOL{listed:Array Bool}{k:Nat}(hk:k<listed.size)(i:Nat):In (listed.setIfInBounds k true) i↔aF5 (In listed) k i:=by
  unfold In aF5;simp only[];show(listed.setIfInBounds k true).getD i false=true↔(listed.getD i false=true\/i=k);rw[Bg,Array.getElem?_setIfInBounds,Bg];by_cases h:k=i
  · subst h;simp [hk]
  · rw[if_neg h]
    exact⟨.inl,fun h1=>h1.elim id (fun e=>absurd e.symm h)⟩
theorem Inv.congr{σ0:Env}{S0:St}{w0:World}{D D':Nat->Prop}{s:Nat}{σ:Env}{w:World}{Fh:Fr}{tmps:Array Value}(h:Inv P aos base Ds σ0 S0 w0 D s σ w Fh tmps)(hD:∀i,D' i↔D i):Inv P aos base Ds σ0 S0 w0 D' s σ w Fh tmps:=by
  have:D'=D:=funext fun i=>propext (hD i);rw[this];exact h
theorem Inv.done{σ0:Env}{S0:St}{w0:World}{D:Nat->Prop}{s:Nat}{σ:Env}{w:World}{Fh:Fr}{tmps:Array Value}(hg:Reg P nt ops aos base call Ds)(h:Inv P aos base Ds σ0 S0 w0 D s σ w Fh tmps)(hall:∀i,i<aos.length->D i):
    pV P σ (Ds aos.length).F tmps/\gM P σ0 S0 w0 σ ⟨(cG (2 ^ aos.length - 1) (Ds aos.length).ps (Ds aos.length).S.h).2,(Ds aos.length).S.nx⟩ w:=by
  constructor
  · refine⟨fun t=>?_⟩
    have:=h.frame.get t;have⟨i,hi,h1,h2⟩:=h.slots t;rw[h1] at this;rw[hg.tr.slot_keep hi (Af _) (fun j o h3 h4 h5 h6=>by have:=(h2 j o h5 h6).1 (hall j h4);omega)];exact this
  · refine(h.laid hg (Af _) (fun c hc=>⟨fun h1=>hall c h1,fun _=>?_⟩) (fun i hi _=>hall i hi)).1
    have⟨o,_,h1,_⟩:=hc;exact(Ai.1 h1).1
theorem aJU(hg:Reg P nt ops aos base call Ds){listed:Array Bool}(hsz:listed.size=ops.size)(hr:Region.ready .any ops listed= []):∀i,i<aos.length->In listed i:=by
  intro i
  induction i using Nat.strongRecOn with
  | _ i ih=>
    intro hi;have hi':i<ops.size:=by rw[<-hg.len];exact hi
    cases hb:listed.getD i true with
    | true=>
      unfold In;rw[Bg,Ff au] at hb ⊢;simpa using hb
    | false=>
      have ho:ops[i]? =some ops[i]:=Ff _;have:i∈Region.ready .any ops listed:=mem_ready.2 ⟨hb,_,ho,fun e he hbi=>by
        have:=hg.back i _ ho e he hbi;exact ih e.on this au⟩
      rw[hr] at this;cases this
theorem aPb(hA:tZ P)(hB:jX P)(hcall:iY P call)(hg:Reg P nt ops aos base call Ds){σ0:Env}{S0:St}{w0:World}(hb0:S0.nx<=base){ro:Option Nat}{m:Nat}{Q:Exit->Act->World->Prop}{ds:List Deferred}
    (hQ:∀σ' a' w',pV P σ' (Ds aos.length).F a'.tmps->a'.tmps.size=nt->a'.defers=ds->gM P σ0 S0 w0 σ' ⟨(cG (2 ^ aos.length - 1) (Ds aos.length).ps (Ds aos.length).S.h).2,(Ds aos.length).S.nx⟩ w'->Q .normal a' w'):
    ∀ (fuel:Nat) (listed:Array Bool) (s:Nat) (σ:Env) (Fh:Fr) (a:Act) (w:World),listed.size=ops.size->unl listed.toList<=fuel->Closed ops (In listed)->a.tmps.size=nt->a.defers=ds->
      Inv P aos base Ds σ0 S0 w0 (In listed) s σ w Fh a.tmps->wpAnyIn (Fw ro) m P .any ops Q fuel listed a w:=by
  intro fuel
  induction fuel with
  | zero=>
    intro listed s σ Fh a w hsz hun hcl hnt hds hI;have hall:∀i,i<aos.length->In listed i:=fun i hi=>by
      have:=aHB (Nat.le_zero.1 hun) i (by rw[Eo,hsz,<-hg.len];exact hi);unfold In;rw[Bg,<-Da,this];rfl
    have⟨h1,h2⟩:=hI.done hg hall;refine⟨?_,hQ σ a w h1 hnt hds h2⟩;cases hr:Region.ready .any ops listed with
    | nil=>rfl
    | cons j r=>
      have hj:j∈Region.ready .any ops listed:=by rw[hr];simp
      have⟨hj1,o,ho,_⟩:=mem_ready.1 hj;have h3:=hall j (by rw[hg.len];exact(Fc.1 ho).1);have h4:=aBl hj1;unfold In at h3;rw[Bg,h4] at h3;cases h3
  | succ fuel ih=>
    intro listed s σ Fh a w hsz hun hcl hnt hds hI;refine⟨fun hr=>?_,fun k hk=>?_⟩
    · have⟨h1,h2⟩:=hI.done hg (aJU hg hsz hr)
      exact hQ σ a w h1 hnt hds h2
    · have⟨hj1,o,ho,hpre⟩:=mem_ready.1 hk
      have hfalse:=aBl hj1;have hkl:k<ops.size:=(Fc.1 ho).1;have hkD:¬In listed k:=fun h=>by
        unfold In at h;rw[Bg,hfalse] at h;cases h
      have⟨ao,hao,hd,hgd,hdst,hop⟩:=hg.op k o ho;have hm:∀i,Nat.testBit ao.mask i=true->In listed i:=hg.bits _ hcl k o ao ho hao hpre;have hagree:∀t∈ao.touch,aB t Fh=aB t (Ds k).F:=fun t ht=>(hI.agree hg hcl hao hkD hm ht).1;have hagW:Agree (ao.grd.map (·.1)).toList Fh (Ds k).F:=fun t ht=>hagree t (by unfold AO.touch;exact Dr _ (Ei _ ht));have hagO:Agree ao.op.rd Fh (Ds k).F:=fun t ht=>hagree t (by unfold AO.touch;exact Dr _ (Dr _ ht));have hd':zK a.tmps.size ao.dst=true:=by rw[hnt,hdst];exact hd
      have hsz':(listed.setIfInBounds k true).size=ops.size:=by simp [hsz]
      have hun':unl (listed.setIfInBounds k true).toList<=fuel:=by
        have:=aKn (l:=listed.toList) (k:=k) (by rw[Da];exact hfalse);simp only[Array.toList_setIfInBounds];omega
      have hcl':Closed ops (In (listed.setIfInBounds k true)):=by
        intro j oj hoj hDj e he hb;rw[aOL au] at hDj ⊢;rcases hDj with h1 | h1
        · exact .inl (hcl j oj hoj h1 e he hb)
        · subst h1;rw[ho] at hoj;cases hoj;exact .inl (hpre e he hb)
      have next:∀ (s':Nat) (σ':Env) (w':World) (v:AV) (V:Value),Inv P aos base Ds σ0 S0 w0 (aF5 (In listed) k) s' σ' w' (cJ ao.dst Fh v) (a.put ao.dst V).tmps->wpAnyIn (Fw ro) m P .any ops Q fuel (listed.setIfInBounds k true) (a.put o.dst V) w':=by
        intro s' σ' w' v V hI';rw[<-hdst];exact ih _ s' σ' _ _ w' hsz' hun' hcl' (by rw[aDi];exact hnt) (by rw[put_defers];exact hds) (hI'.congr (fun i=>aOL au i))
      unfold wpOpIn;simp only[ho];rw[aCs hgd hI.frame,aId hagW];have hund:∀σ,Rv P σ .undef undef:=fun σ=>by simp only[AV.undef,undef,Rv];exact⟨[],rfl,cT.2 rfl⟩
      have hkl':k<aos.length:=by rw[hg.len];exact hkl
      cases hg.tr.kind hao with
      | no hw e=>
        rw[hw,if_neg (by simp)];refine⟨fun _ _=>trivial,next s σ w .undef undef ?_⟩;exact hI.quiet hg hcl hao hkD hm (aDZ hao fun _ _=>hw) (aB4 hao fun _ _=>hw) (fun d hd=>by rw[e,hd];exact tO) hd' (hund σ)
      | q q v hw hq hv e=>
        rw[hw,if_pos rfl];rw[hq] at hop hagO;have hop:qK P o.op=some (.q q):=hop.resolve_right (by simp);have hev:iT q Fh (Ds s).S.h=some v:=by
          rw[aMp hagO];cases hl:dK q with
          | false=>rw[aLr hl _ _ (Ds k).S.h];exact hv
          | true=>
            have hmem:(⟨q,(Ds k).F,v,k,ao.mask⟩:nL)∈(Ds aos.length).ls:=hg.tr.loads_mono (show k+1<=aos.length by omega) (Af _) _ (by rw[e,hl];simp [bQ]);exact aNI (hg.tr.load hg.hs0 hg.loads hmem (D:=In listed) (fun j oj hDj hoj=>hg.mask hcl hDj hoj) hm hkD hI.sle hI.chain)
        have⟨V,h3,h4⟩:=aFO hA hop hI.frame hI.ext.rep hev;refine⟨fun _ _=>trivial,?_⟩;rw[semAt_eq (sB hop),h3];exact next s σ w v V (hI.quiet hg hcl hao hkD hm (aDZ hao fun x hx=>by rw[hq] at hx;cases hx) (aB4 hao fun x hx=>by rw[hq] at hx;cases hx) (fun d hd=>by rw[e,hd];exact tO) hd' h4)
      | a al v bl hw hq hv e=>
        rw[hw,if_pos rfl];rw[hq] at hop hagO;have hop:qK P o.op=some (.a al):=hop.resolve_right (by simp);have hev:tA al Fh (base+k)=some (v,bl):=by rw[aLO hagO];exact hv
        have⟨V,w',h3,h4⟩:=aFc hop hI.frame hI.ext.rep (base+k) (hI.free k hkl' hkD) hev;refine⟨fun _ _=>trivial,?_⟩;rw[semAt_eq (sB hop),h3];have⟨σ',hI'⟩:=hI.alloc hg hb0 hcl hao hkD hm (aB4 hao fun x hx=>by rw[hq] at hx;cases hx) (fun b hMb=>by
          have⟨o',a',v',h5,h6,h7,h8⟩:=hMb;rw[hao] at h5;cases h5;rw[hq] at h6;cases h6;rw[hv] at h8;cases h8;rfl) (fun d hd=>by rw[e,hd];exact tO) hd' h4
        exact next s σ' w' v V hI'
      | x x v S hw hq hl hv e=>
        rw[hw,if_pos rfl];rw[hq] at hop hagO;have hch:jL aos Ds k:=⟨ao,x,hao,hq,hw⟩;have hmk:∀ (j:Nat) (oj:AO),In listed j->aos[j]? =some oj->∀i,Nat.testBit oj.mask i=true->In listed i:=fun j oj hDj hoj=>hg.mask hcl hDj hoj;have hc:∀c,jL aos Ds c->(c<k↔In listed c):=fun c hcc=>by
          refine⟨fun hlt=>hg.tr.before hg.hs0 hmk k hkl' ao hao hch hm c hlt hcc,fun hDc=>?_⟩;rcases Gv c k with h1 | h1 | h1
          · exact h1
          · rw[h1] at hDc;exact absurd hDc hkD
          · have⟨oc,xc,h2,h3,h4⟩:=hcc
            exact absurd (hg.tr.before hg.hs0 hmk c (Ai.1 h2).1 oc h2 ⟨oc,xc,h2,h3,h4⟩ (hmk c oc hDc h2) k h1 hch) hkD
        have⟨hlay,_⟩:=hI.laid hg (m:=ao.mask) (show k<=aos.length by omega) hc (fun i _ hb=>hm i hb);rcases hop with hop | hop
        · have hev:xN x call Fh ⟨(cG ao.mask (Ds k).ps (Ds k).S.h).2,(Ds k).S.nx⟩=some (v,S):=by rw[aMz hagO];exact hv
          refine⟨fun _ _=>trivial,?_⟩;rw[semAt_eq (sB hop)];refine aBe (aFp hA hB hcall hop hI.frame hlay.rep hev) ?_;rintro V w' ⟨σ',h3,h4⟩;exact next (k+1) σ' w' v V (hI.act hg hcl hao hkD hm hch hc (fun d hd=>by rw[e,hd];exact tO) hd' (by rw[e];exact h4) h3)
        · cases hop
          cases hv
theorem aCz(hA:tZ P)(hB:jX P)(hmix:P.follows .mixedOrders=true)(call:dR)(hcall:iY P call):aFt P call:=by
  intro ro n nt id ops aos hc σ F F' S S' a w Q hnt hF hR hev hQ;unfold aC4 at hc;split at hc
  · rename_i aos' hops
    rw[Ba] at hc;split at hc
    · rename_i hcond
      cases hc;rw[Ct] at hcond;have⟨hedge,hdrw⟩:=hcond;have⟨hlen,hget⟩:=aDe hops;rw[Eo] at hlen;have⟨Df,h1,h2⟩:=aA (show(aU (rG aos 0 S.nx call ⟨F,⟨S.h,S.nx+kL aos⟩,[],[],[]⟩) fun D=>tL S.h (kL aos) D)=some (F',S') from hev);have⟨Ds,e0,hstep,eN⟩:=aDg h1;simp only[Ao] at hstep eN;rw[eR] at h2 e0;have⟨hlo,h3⟩:=bJ (show bO (fT S.h Df.hs.reverse Df.ls) (some (Df.F,(⟨(cG (2 ^ aos.length - 1) Df.ps Df.S.h).2,Df.S.nx⟩:St))) none=some (F',S') from h2);cases h3;have hg:Reg P nt ops aos S.nx call Ds:=by
        refine⟨⟨hstep⟩,hlen,fun j o ho=>?_,fun j o ho e he hb=>?_,fun D hD j o ao ho hao hp i hbit=>?_,fun i j x y hij hx hy hm=>?_,by rw[e0],by rw[e0],?_⟩
        · have⟨ao,h4,h5⟩:=hget j o (by rw[Da];exact ho)
          have⟨b1,b2,b3,b4,b5⟩:=zX h5;exact⟨ao,h4,b1,b2,b3,b5⟩
        · have:=aCv hedge (by rw[Da];exact ho) e he hb
          omega
        · have hb:=(aBb (D:=D) ops.toList 0 [] rfl (fun i hi=>au) (fun k o' ho' hDk=>hD k o' (by rw[<-Da];exact ho') (by simpa using hDk))).2 j o (by rw[Da];exact ho) hp i
          have⟨ao',h4,h5⟩:=hget j o (by rw[Da];exact ho);rw[hao] at h4;cases h4;have⟨_,_,_,b4,_⟩:=zX h5;rw[b4] at hbit;exact hb (by rw[Ao];exact hbit)
        · have:=aFi hdrw hij hx hy hm
          rwa [Ao] at this
        · rw[eN,e0];exact hlo
      refine wpIn_region_any hmix ?_;have hE:gM P σ S w σ ⟨S.h,S.nx+aos.length⟩ {w with drawn:=w.drawn+1}:=by
        have h5:=gM.heap (w':={w with drawn:=w.drawn+1}) hR rfl rfl rfl rfl;refine⟨⟨h5.rep.blk,fun b bl hb=>by have:=h5.rep.lt b bl hb;simp only;omega,fun b hb=>h5.rep.fresh b (by simp only at hb;omega),h5.rep.glob,h5.rep.inj⟩,h5.low,by simp only;omega,h5.keep,h5.own,h5.size,h5.os,h5.tape,h5.output,h5.ro⟩
      have hno:∀i,¬In (Array.replicate ops.size false) i:=fun i h=>by
        unfold In at h;rw[Bg,Array.getElem?_replicate] at h;split at h<;>cases h
      refine aPb hA hB hcall hg (Af _) (σ0:=σ) (S0:=S) (w0:=w) (ds:=a.defers) (fun σ' a' w' q1 q2 q3 q4=>hQ σ' a' w' (by rw[<-eN];exact q1) q2 q3 (by rw[<-eN];exact q4)) ops.size _ 0 σ F a _ (by simp) ?_ (fun j o _ h=>absurd h (hno j)) hnt rfl ?_
      · simp only[Array.toList_replicate]
        have:∀k,unl (List.replicate k false)=k:=fun k=>by induction k with
          | zero=>rfl
          | succ k ih=>rw[List.replicate_succ];simp only[unl];rw[ih]
        rw[this];exact Af _
      · refine⟨Dt _,fun c _=>⟨fun h=>absurd h (hno c),fun h=>au⟩,?_,?_,fun i hi _=>?_,fun i b _ h=>absurd h (hno i),fun i j b b' _ _ h=>absurd h (hno i),?_,?_⟩
        · rw[e0];exact hE
        · rw[e0];exact Af _
        · exact hR.fresh _ au
        · exact hF
        · intro t
          exact⟨0,Dt _,by rw[e0],fun j o _ _=>⟨fun h=>absurd h (hno j),fun h=>au⟩⟩
    · cases hc
  · cases hc
end Go.Ev
namespace Go.Ev
variable {P:Program}{σ:Env}{S:St}{w:World}
theorem aFv{t:TypeId}{x y:AV}{b:Bool}(h:eqp (eqP P t) x y=some b):(isAgg t).run P w= .ok false w:=by
  rcases aHi (P:=P) t with⟨d,hu,hd⟩ | hno
  · simp only[isAgg,Sem.run_bind,run_underlying hu,Result.andThen_ok]
    cases d<;>first | rfl | (exfalso;unfold eqP at h;rw[hu] at h;simp [eqp] at h)
  · rw[hno] at h;simp [eqp] at h
theorem qP{t:TypeId}{Xs:List Value}{off:Nat}{V:Value}(ha:(isAgg t).run P w= .ok false w)(hv:Xs[off]? =some V):(part t ⟨Xs⟩ off).run P w= .ok V w:=by
  have hv':(⟨Xs⟩:Array Value)[off]? =some V:=by simpa using hv
  simp [part,ha,hv']
theorem aEI{off:Nat}{e:EqP}{fs:List (Nat×EqP)}{xs ys:bo}{b:Bool}(h:eqs ((off,e)::fs) xs ys=some b):
    ∃x y r,xs[off]? =some x/\ys[off]? =some y/\eqp e x y=some r/\((r=true/\eqs fs xs ys=some b)\/(r=false/\b=false)):=by
  simp only[eqs] at h;split at h
  · rename_i x y hx hy
    rw[jY] at hx hy;split at h
    · exact⟨x,y,true,hx,hy, ‹_›,.inl ⟨rfl,h⟩⟩
    · cases h;exact⟨x,y,false,hx,hy, ‹_›,.inr ⟨rfl,rfl⟩⟩
    · cases h
  · cases h
theorem uS{xs ys:bo}{Xs Ys:List Value}(hX:iD P σ xs Xs)(hY:iD P σ ys Ys)(n:Nat):∀ (fs:List Field) (b:Bool),eqs (eqFields P fs) xs ys=some b->
    (Op.eqFields (n+1) ⟨Xs⟩ ⟨Ys⟩ fs).run P w= .ok b w
  | [],b,h=>by simp only[eqFields,eqs,Al] at h;subst h;simp [Op.eqFields]
  | f::fs,b,h=>by
    simp only[eqFields,Ba] at h;by_cases hn:f.name= "_"
    · rw[if_pos (by simpa using hn)] at h
      simp only[Op.eqFields,hn,ne_eq,Cr,Bx];exact uS hX hY n fs b h
    · rw[if_neg (by simpa using hn)] at h
      have⟨x,y,r,hx,hy,hr,hc⟩:=aEI h;have⟨V,hV,hv⟩:=hX.get hx;have⟨W,hW,hw⟩:=hY.get hy;have ha:=aFv (w:=w) hr;have hq:=aB2 (w:=w) hv hw hr n;simp only[Op.eqFields,hn,ne_eq,Am,Cq,Sem.run_bind,qP ha hV,qP ha hW,hq,Result.andThen_ok];rcases hc with⟨rfl,hc⟩ | ⟨rfl,rfl⟩
      · simpa using uS hX hY n fs b hc
      · simp
theorem aCB{e:TypeId}{xs ys:bo}{Xs Ys:List Value}(hX:iD P σ xs Xs)(hY:iD P σ ys Ys)(n:Nat):∀ (is:bt) (b:Bool),eqs (is.map fun i=>(i,eqP P e)) xs ys=some b->
    (Op.eqItems (n+1) e 1 ⟨Xs⟩ ⟨Ys⟩ is).run P w= .ok b w
  | [],b,h=>by simp only[List.map_nil,eqs,Al] at h;subst h;simp [Op.eqItems]
  | i::is,b,h=>by
    rw[Fa] at h;have⟨x,y,r,hx,hy,hr,hc⟩:=aEI h;have⟨V,hV,hv⟩:=hX.get hx;have⟨W,hW,hw⟩:=hY.get hy;have ha:=aFv (w:=w) hr;have hq:=aB2 (w:=w) hv hw hr n;simp only[Op.eqItems,Bt,Sem.run_bind,qP ha hV,qP ha hW,hq,Result.andThen_ok];rcases hc with⟨rfl,hc⟩ | ⟨rfl,rfl⟩
    · simpa using aCB hX hY n is b hc
    · simp
theorem zS{e:TypeId}(h:P.cellsOf e=1):∃i,P.info? e=some i:=by
  unfold Program.cellsOf at h;cases hi:P.info? e with
  | none=>simp [hi] at h
  | some i=>exact⟨i,rfl⟩
theorem aOW(P:Program):vD P:=by
  intro σ w t fs xs ys X Y b he hx hy h;simp only[Rv] at hx hy;obtain⟨Xs,rfl,hX,_⟩:=hx;obtain⟨Ys,rfl,hY,_⟩:=hy;unfold eqT at he;split at he
  · rename_i Fs hu
    rw[Ba] at he;split at he
    · cases he
    · rename_i hc
      cases he;simp only[Gr,not_or,Bool.not_eq_true] at hc;refine⟨fun op xo yo=>run_eqGuard_agg w op t xo yo _ _ hc.2,fun n=>?_⟩;have hfo:P.fieldsOf t=Fs:=by simp [Program.fieldsOf,hu]
      rw[run_equalIn_struct w (n+1) t _ _ (by rw[hfo];exact hu) hc.1,hfo];exact uS hX hY n _ b h
  · rename_i m e hu
    rw[Ba] at he;split at he
    · cases he
    · rename_i hc
      cases he;simp only[Gr,not_or,Bool.not_eq_true,bne_eq_false_iff_eq] at hc;refine⟨fun op xo yo=>run_eqGuard_agg w op t xo yo _ _ hc.1.1,fun n=>?_⟩;have⟨i,hi⟩:=zS hc.2;rw[run_equalIn_array w (n+1) _ _ hu hi,hc.2];exact aCB hX hY n _ b h
  · cases he
theorem aC6{t:TypeId}(h:plainKey (eqP P t)=true):∃d,P.underlying t=some d/\(d= .bool\/(∃k,d= .int k)\/d= .string):=by
  unfold eqP at h;split at h<;>first | (simp [plainKey] at h;done) | skip
  · exact⟨_, ‹_›,.inl rfl⟩
  · exact⟨_, ‹_›,.inr (.inl ⟨_,rfl⟩)⟩
  · exact⟨_, ‹_›,.inr (.inr rfl)⟩
theorem zN{t:TypeId}(h:plainKey (eqP P t)=true)(V:Value)(em:Bool)(n:Nat):(Instr.checkKey em (n+1) t V).run P w= .ok () w:=by
  have⟨d,hu,hd⟩:=aC6 h;rcases hd with rfl | ⟨k,rfl⟩ | rfl<;>simp [Instr.checkKey,run_underlying hu]
theorem aDl{t:TypeId}(h:plainKey (eqP P t)=true):(isAgg t).run P w= .ok false w:=by
  have⟨d,hu,hd⟩:=aC6 h;rcases hd with rfl | ⟨k,rfl⟩ | rfl<;>simp [isAgg,run_underlying hu]
theorem zY:∀ {l:List (Nat×EqP)} {i j:Nat} {p:Nat×EqP},aCb i l=true->l[j]? =some p->p.1=i+j/\plainKey p.2=true
  | [],i,j,p,_,h=>by simp at h
  | (o,e)::l,i,j,p,hc,h=>by
    simp only[aCb,Ct,Az] at hc;cases j with
    | zero=>simp at h;subst h;exact⟨by simp [hc.1],hc.2.1⟩
    | succ j=>
      simp at h;have⟨h1,h2⟩:=zY hc.2.2 h;exact⟨au,h2⟩
theorem vI:∀ {fs:List Field} {f:Field},f∈fs->f.name≠ "_" ->(f.offset,eqP P f.type)∈eqFields P fs
  | g::fs,f,h,hn=>by
    simp only[eqFields,Ba];rcases Br.1 h with rfl | h
    · rw[if_neg (by simpa using hn)];simp
    · split
      · exact vI h hn
      · exact Bf _ (vI h hn)
theorem aMN(P:Program):aEm P:=by
  intro σ w kt e k K em hkt hk hs;rcases zV hkt with⟨hu,rfl⟩ | ⟨⟨j,hu⟩,rfl⟩ | ⟨rfl,hu⟩
  · exact xD (.inl hu) K em
  · exact xD (.inr ⟨j,hu⟩) K em
  · cases hq:eqT P kt with
    | p q=>
      exfalso
      unfold aBZ at hkt;rcases hu with⟨fs,hu,_⟩ | ⟨n,el,hu,_⟩<;>rw[hu] at hkt<;>simp only[hq] at hkt<;>cases hkt
    | struct l=>
      rw[hq] at hs hkt;have hcov:=aCo hkt;cases k<;>simp only[eqv,Option.isSome_none,Aw] at hs;rename_i xs;rw[bQ] at hs;split at hs
      · rename_i hlen
        rw[Az,eR,eR] at hlen;simp only[Rv] at hk;obtain⟨Xs,rfl,hX,_⟩:=hk;show(Instr.checkKey em (9998+1+1) kt _).run P w= .ok () w;generalize 9998=m;rcases hu with⟨fs,hu,hall⟩ | ⟨n,el,hu,hpl⟩
        · rw[Instr.checkKey]
          simp only[Sem.run_bind,run_underlying hu,Result.andThen_ok];have hl:l=eqFields P fs.toList:=by
            unfold eqT at hq;rw[hu] at hq;simp only[Ba] at hq;split at hq
            · cases hq
            · cases hq;rfl
          rw[<-Array.forIn_toList];have deep:∀f∈fs.toList,f.name≠ "_" ->plainKey (eqP P f.type)=true/\∃V,Xs[f.offset]? =some V:=fun f hf hn=>by
            refine⟨Array.all_eq_true_iff_forall_mem.1 hall f (Array.mem_toList_iff.1 hf),?_⟩;have⟨j,hj,e⟩:=List.getElem_of_mem (vI (P:=P) hf hn);rw[<-hl] at hj;have:=zY (j:=j) hcov (p:=(f.offset,eqP P f.type)) (by rw[Ad hj];subst hl;rw[e]);have hlt:f.offset<Xs.length:=by rw[hX.length,hlen];simp only at this;omega
            exact⟨_,Ad hlt⟩
          clear hall hl;generalize fs.toList=L at deep
          induction L with
          | nil=>simp
          | cons f L ih=>
            by_cases hn:f.name= "_"
            · simp only[List.forIn_cons,Sem.run_bind,hn,ne_eq,Cr,Bx,Sem.run_pure,Result.andThen_ok]
              exact ih (fun y hy=>deep y (by simp [hy]))
            · have⟨hp,V,hV⟩:=deep f (by simp) hn
              simp only[List.forIn_cons,Sem.run_bind,hn,ne_eq,Am,Cq,Result.andThen_ok,qP (aDl hp) hV,zN hp,Sem.run_pure];exact ih (fun y hy=>deep y (by simp [hy]))
        · rw[Instr.checkKey]
          simp only[Sem.run_bind,run_underlying hu,Result.andThen_ok];unfold eqT at hq;rw[hu] at hq;simp only[Ba] at hq;split at hq
          · cases hq
          · rename_i hc
            cases hq;simp only[Gr,not_or,Bool.not_eq_true,bne_eq_false_iff_eq] at hc;have⟨i,hi⟩:=zS hc.2;have deep:∀j∈List.range' 0 n,∃V,Xs[j]? =some V:=fun j hj=>by
              have hj:j<n:=by simpa using hj
              exact⟨_,Ad (by rw[hX.length,hlen];simpa using hj)⟩
            simp only[Std.Legacy.Range.forIn_eq_forIn_range',Std.Legacy.Range.size,Gu,Nat.add_one_sub_one,Hb];clear hlen hcov hs hkt;generalize List.range' 0 n=is at deep
            induction is with
            | nil=>simp
            | cons j is ih=>
              have⟨V,hV⟩:=deep j (by simp);simp only[List.forIn_cons,Sem.run_bind,run_sizeOf w hi,hc.2,Bt,Result.andThen_ok,qP (aDl hpl) hV,zN hpl,Sem.run_pure];exact ih (fun y hy=>deep y (by simp [hy]))
      · cases hs
theorem aCd{e:EqP}(hp:plainKey e=true){x y:AV}{X Y:Value}(hx:Rv P σ x X)(hy:Rv P σ y Y)(h:eqp e x y=some true)(n:Nat):Instr.sameBits n Y X=true:=by
  cases e<;>simp only[plainKey,Aw] at hp<;>cases x<;>simp only[eqp,reduceCtorEq] at h<;>cases y<;>simp only[reduceCtorEq] at h
  · simp only[Rv] at hx hy
    subst hx;subst hy;simp only[Al,vS,beq_iff_eq] at h;cases n<;>simp [Instr.sameBits,h]
  · simp only[Rv] at hx hy
    subst hx;subst hy;have⟨h1,h2⟩:=bJ h;have:=zZ h1;subst this;simp only[Al,nJ,beq_iff_eq] at h2;cases n<;>simp [Instr.sameBits,h2]
  · simp only[Rv] at hx hy
    obtain⟨rfl,ha⟩:=hx;obtain⟨rfl,hb⟩:=hy;rename_i a b;simp only[Al] at h;have h1:dM b=dM a:=by
      have:=aCQ ha hb;rw[h,<-beq_toListBytes] at this;have h2:=(aHf ha hb).1 h;exact h2.symm
    cases n<;>simp only[Instr.sameBits,h1]<;>rw[beq_toListBytes]<;>simp
theorem aKX:∀ {l:List (Nat×EqP)} {xs ys:bo},eqs l xs ys=some true->∀p∈l,∃x y,xs[p.1]? =some x/\ys[p.1]? =some y/\eqp p.2 x y=some true
  | [],xs,ys,_,p,hp=>by cases hp
  | (o,e)::l,xs,ys,h,p,hp=>by
    have⟨x,y,r,hx,hy,hr,hc⟩:=aEI h;rcases hc with⟨rfl,hc⟩ | ⟨rfl,hb⟩
    · rcases Br.1 hp with rfl | hp
      · exact⟨x,y,hx,hy,hr⟩
      · exact aKX hc p hp
    · cases hb
theorem rQ(P:Program):jX P:=by
  intro σ kt e k k' K K' hkt hk hk' h;rcases zV hkt with⟨hu,rfl⟩ | ⟨⟨j,hu⟩,rfl⟩ | ⟨rfl,hu⟩
  · exact aCd (e:=.str) rfl hk hk' h _
  · exact aCd (e:=.int) rfl hk hk' h _
  · cases hq:eqT P kt with
    | p q=>
      exfalso
      unfold aBZ at hkt;rcases hu with⟨fs,hu,_⟩ | ⟨n,el,hu,_⟩<;>rw[hu] at hkt<;>simp only[hq] at hkt<;>cases hkt
    | struct l=>
      rw[hq] at h hkt;have hcov:=aCo hkt;cases k<;>simp only[eqv,reduceCtorEq] at h;cases k'<;>simp only[reduceCtorEq] at h;rename_i xs ys;have⟨l1,h⟩:=bJ h;have⟨l2,h⟩:=bJ h;rw[Az,eR,eR] at l1 l2;simp only[Rv] at hk hk';obtain⟨Xs,rfl,hX,_⟩:=hk;obtain⟨Ys,rfl,hY,_⟩:=hk';have e1:=hX.length;have e2:=hY.length;show Instr.sameBits (9999+1) _ _=true;generalize 9999=m;simp only[Instr.sameBits,Ct,beq_iff_eq,Et,List.size_toArray];refine⟨au,fun p hp=>?_⟩;have⟨j,hj,e⟩:=List.getElem_of_mem hp;rw[List.getElem_zip] at e;rw[List.length_zip] at hj;have hj1:j<l.length:=by omega
      have⟨h1,h2⟩:=zY hcov (Ad hj1);have⟨x,y,hx,hy,hr⟩:=aKX h _ (Cv hj1);rw[h1,Ao] at hx hy;have⟨V,hV,hv⟩:=hX.get hx;have⟨W,hW,hw⟩:=hY.get hy;have:=aCd h2 hv hw hr m;have eV:Xs[j]' au =V:=by
        have:=Ad (l:=Xs) (i:=j) au;rw[this] at hV;exact Cd hV
      have eW:Ys[j]' au =W:=by
        have:=Ad (l:=Ys) (i:=j) au;rw[this] at hW;exact Cd hW
      rw[<-e];simp only[eV,eW];exact this
end Go.Ev
namespace Go.Ev
variable {P:Program}{σ:Env}{S:St}{w:World}
theorem aLs(P:Program):aHr P:=by
  intro σ w n tbl v v' t V htbl hv h;subst htbl;cases v<;>simp only[aHR,reduceCtorEq] at h;rename_i t' x;simp only[Rv] at hv;have⟨W,hW,hx⟩:=hv;cases hW;have⟨r,hr,h⟩:=aA h;have⟨_,i,hi,hrow⟩:=oP hr;have hlt:t<P.types.size:=by
    have:=(Ai.1 hi).1;simpa using this
  have hinfo:P.info? t=some i:=by
    unfold Tables.info?;rw[if_pos hlt];simpa using hi
  have hdep:P.types.size+Made.depth=(P.types.size+99)+1:=rfl;rw[hdep];generalize P.types.size+99=fuel;unfold pE at hrow;split at hrow
  · rename_i m hm
    rw[Ba] at hrow;split at hrow
    · cases hrow
    · rename_i hp
      have hp:m.path.toList= []:=by simpa using hp
      split at hrow
      · cases hrow
      · rename_i f ptr hf
        simp only[nilAhead,Sem.run_bind,run_typeInfo w hinfo,Result.andThen_ok,hm,hp,followBlind,Sem.run_pure,hf];cases ptr with
        | true=>simp
        | false=>
          split at hrow
          · contradiction
          · rename_i e hu _
            have⟨a,ha,hra⟩:=Ax.1 hrow;cases hra;simp only[Sem.run_bind,run_underlying hu,Result.andThen_ok];simp only at h;cases x<;>simp only[reduceCtorEq] at h;simp only[Rv] at hx;obtain⟨L,_,rfl⟩:=hx;rfl
          · cases hrow
          · rename_i d hnp hni hu _
            simp only[Sem.run_bind,run_underlying hu,Result.andThen_ok];cases d<;>first | rfl | exact(hnp _ rfl).elim
          · cases hrow
  · cases hrow
theorem asked(P:Program):tZ P:=⟨aOW P,aMN P,aLs P⟩
theorem known{fns:T dD}(hmix:P.follows .mixedOrders=true)(hfn:∀id fn,fns.get id=some fn->∃Fn,P.funcs[id]? =some Fn/\cFn P Fn=some fn):qD P fns:=
  ⟨asked P,rQ P,fun id fn h=>.inl (hfn id fn h),fun call hcall=>aCz (asked P) (rQ P) hmix call hcall⟩
noncomputable def table:List (Nat×dD)->T dD
  | []=>.e
  | (i,f)::l=>(table l).set i (some f)
theorem aB5:∀ {l:List (Nat×dD)} {id:Nat} {fn:dD},(table l).get id=some fn->(id,fn)∈l
  | [],id,fn,h=>by simp [table,T.get_e] at h
  | (i,f)::l,id,fn,h=>by
    simp only[table] at h;rw[dq] at h;split at h
    · rename_i he
      subst he;cases h;simp
    · exact Bf _ (aB5 h)
def Row(P:Program)(p:Nat×dD):Prop:=∃Fn,P.funcs[p.1]? =some Fn/\cFn P Fn=some p.2
theorem aIs{l:List (Nat×dD)}(hmix:P.follows .mixedOrders=true)(hl:∀p∈l,Row P p):qD P (table l):=
  known hmix fun _ _ h=>hl _ (aB5 h)
structure Kept(w w':World):Prop where
  os:w'.os=w.os
  output:w'.output=w.output
  heap:∀r,r<w.heap.size->w'.heap[r]? =w.heap[r]?
  size:w.heap.size<=w'.heap.size
theorem Kept.but{w w':World}(h:Kept w w')(may:MemPlace->Prop):w.keptBut w' may:=by
  refine⟨h.os,h.output,fun i hi=>?_⟩;rw[h.heap i hi];rw[Ff hi];cases w.heap[i]<;>simp
theorem gM.kept{σ':Env}{S':St}{w':World}(h:gM P σ S w σ' S' w')(hno:∀r,¬Own σ S r):Kept w w':=
  ⟨h.os,h.output,fun r hr=>h.keep r hr (hno r),h.size⟩
def aEa(P:Program):Env:=fun b=>if b<P.globals.size then some ⟨b,0,0⟩ else none
def okB(r:Option (AV×St)):Bool:=
  match r with
  | some (.bool b,_)=>b
  | _=>false
theorem aLN{H:Type}{enc:TypeId×Value->H}{f:Func}{s:ChangeSpec}{apart fresh handsOn again:Bool}{W W':World}{args:Array Value}{v:Value}{ds gs:List (DataW H)}{before pa pv:List MemPlace}
    (hW:DataW.Whole enc P f.params.toList s.vars apart W args.toList ds gs before)
    (hres:∀ (b:Nat) (sp:Nat->Bool) (hd:Bool),DataW.TrodAll enc P W' b sp hd f.resultTypes.toList (v.resultList f.resultTypes.size) (s.fn H (ds++gs)).results [])
    (hargs:∀sp:Nat->Bool,(∀p∈before,sp p.block=true)->DataW.TrodAll enc P W' 0 sp true f.params.toList args.toList (s.fn H (ds++gs)).args pa)
    (hvars:∀sp:Nat->Bool,(∀p∈before,sp p.block=true)->DataW.TrodVars enc P W' sp s.vars (s.fn H (ds++gs)).vars pv)
    (hps:before=pa++pv) (hk:Kept W W')
    (hok:∀ (j:Nat) (t:TypeId) (r:Value),f.resultTypes[j]? =some t->(v.resultList f.resultTypes.size)[j]? =some r->Value.okWide P W' .any 0 t r):
    s.post enc P f apart fresh handsOn again W args v W':=by
  have hold:∀p∈before,(fun b=>decide (b<W.heap.size)) p.block=true:=fun p hp=>by simpa using hW.lt p hp
  refine⟨ds,gs,before,[],pa,pv,hW,hres _ _ _,hargs _ hold,hvars _ hold,World.keptBut_mono (fun p hp=>⟨hp,?_⟩) (hk.but (· ∈before)),fun _=>?_⟩
  · rw[hps,Bs] at hp
    exact Or.inr hp
  · have hlt:=hW.lt
    have⟨_,_,_,_,_,hz,hn⟩:=hW;refine⟨hok,_,_,([]++pa)++pv,⟨[]++pa,pv,Go.ChangeShapes.trodAll_append (hargs _ (fun _ _=>rfl)) (hres _ _ _),hvars _ (fun _ _=>rfl),rfl,?_,?_⟩,?_⟩
    · intro b off hp
      have hp':MemPlace.cell b off∈before:=by rw[hps];simpa using hp
      have hb:=hlt _ hp';have:=hz b off hp';unfold World.frozen? at this ⊢;rw[show W'.heap[({block:=b,off:=off}:Addr).block]? =W.heap[({block:=b,off:=off}:Addr).block]? from hk.heap b hb];exact this
    · intro ha
      have:=hn ha;rw[hps] at this;simpa using this
    · intro p hp _
      rw[hps];simpa using hp
end Go.Ev
namespace Go.Ev
variable {P:Program}{σ:Env}{S:St}{w:World}
noncomputable def aEy:bt->T AB->T AB
  | [],_=>.e
  | i::l,h=>(aEy l h).set i (h.get i)
theorem aDo:∀ {l:bt} {h:T AB} {b:Nat} {bl:AB},(aEy l h).get b=some bl->h.get b=some bl
  | [],h,b,bl,hb=>by simp [aEy,T.get_e] at hb
  | i::l,h,b,bl,hb=>by
    simp only[aEy] at hb;rw[dq] at hb;split at hb
    · rename_i e;subst e;exact hb
    · exact aDo hb
theorem gM.sub(h:kT P σ S w){h':T AB}(key:∀c bl,h'.get c=some bl->S.h.get c=some bl):gM P σ S w σ ⟨h',S.nx⟩ w:=
  ⟨⟨fun c bl hc=>h.blk c bl (key c bl hc),fun c bl hc=>h.lt c bl (key c bl hc),h.fresh,h.glob,fun c c' bl1 bl2 L1 L2 h1 h2=>h.inj c c' bl1 bl2 L1 L2 (key _ _ h1) (key _ _ h2)⟩,
    fun _ _=>rfl,Af _,fun _ _ _=>rfl,fun r ⟨c,bl,L,h1,h2⟩=>.inl ⟨c,bl,L,key _ _ h1,h2⟩,Af _,rfl,rfl,rfl,fun c cs hc=>key _ _ hc⟩
def Good(P:Program)(c:AC)(A:bN)(S:St)(R:Out->bN->St->Prop):Prop:=
  ∀ (ro:Option Nat) (n nt:Nat) (C:Code),iN P nt C=some c->(A.inr=false->ro=none)->
    ∀ (lo:Nat) (σ:Env) (a:Act) (w:World) (Q:Exit->Act->World->Prop),a.tmps.size=nt->Df [] lo A.inr σ S w a.defers->lo<=w.heap.size->pV P σ A.F a.tmps->kT P σ S w->
      (∀o A' S' σ' a' w',R o A' S'->A'.inr=A.inr->a'.tmps.size=nt->Df [] lo A.inr σ' S' w' a'.defers->pV P σ' A'.F a'.tmps->gM P σ S w σ' S' w'->Q (aDC o) a' w')->C.wpIn (Fw ro) n P Q a w
theorem aQi{fns:T dD}(hK:qD P fns){n:Nat}{c:AC}{A A':bN}{S S':St}{o:Out}(h:(ev fns n).code c A S=some (o,A',S')){R:Out->bN->St->Prop}(hR:R o A' S'):Good P c A S R:=
  fun ro m nt C hC hro lo σ a w Q hsz hdf hlo hF hRep hQ=>aDQ hK n ro m nt C c hC A S o A' S' hro h [] lo σ a w Q hsz hdf hlo hF hRep (fun σ' a' w' q1 q2 q3 _ q4 q5=>hQ o A' S' σ' a' w' hR q1 q2 q3 q4 q5)
theorem aMq{nt:Nat}{C:Code}{x y:AC}(h:iN P nt C=some (.seq x y)):∃X Y,C= .seq X Y/\iN P nt X=some x/\iN P nt Y=some y:=by
  cases C<;>simp only[iN] at h
  case seq X Y=>
    split at h
    · rename_i a b ha hb
      cases h;exact⟨X,Y,rfl,ha,hb⟩
    · cases h
  all_goals
    exfalso
    (repeat' split at h)<;>first
      | (cases h;done)
      | (simp only[Ba] at h
         (repeat' split at h)<;>first
          | (cases h;done)
          | (have⟨_,_,h⟩:=Ax.1 h;cases h;done)
          | (unfold aC4 at h;split at h<;>(try rw[Ba] at h)<;>(try split at h)<;>cases h;done))
      | (have⟨_,_,h⟩:=Ax.1 h;cases h;done)
theorem aOV{x y:AC}{A:bN}{S:St}{R:Out->bN->St->Prop}(h:Good P x A S fun o A1 S1=>o= .normal/\A1.inr=A.inr/\Good P y A1 S1 R):Good P (.seq x y) A S R:=by
  intro ro m nt C hC hro lo σ a w Q hsz hdf hlo hF hRep hQ;obtain⟨X,Y,rfl,hX,hY⟩:=aMq hC;refine wpIn_seq (h ro m nt X hX hro lo σ a w _ hsz hdf hlo hF hRep ?_);rintro o A1 S1 σ1 a1 w1 ⟨rfl,i0,hy⟩ i1 s1 d1 f1 e1;have⟨F1,q1⟩:=A1;simp only at i1;subst i1;exact hy ro m nt Y hY hro lo σ1 a1 w1 Q s1 d1 (Bb hlo e1.size) f1 e1.rep (fun o A' S' σ' a' w' r q1 q2 q3 q4 q5=>hQ o A' S' σ' a' w' r q1 q2 q3 q4 (e1.trans q5))
def aHT(o:Out):Bool:=
  match o with
  | .normal=>true
  | _=>false
noncomputable def aPE(e:Evs):List AC->bN->St->Option (bN×St)
  | [],A,S=>some (A,S)
  | c::cs,A,S=>aU (e.code c A S) fun r=>bO (aHT r.1) (aPE e cs r.2.1 r.2.2) none
def aRp:List AC->AC->AC
  | [],r=>r
  | c::cs,r=>.seq c (aRp cs r)
noncomputable def stage(fns:T dD)(n:Nat)(cs:List AC)(keep:bt)(A:bN)(S:St):Option (bN×St):=aU (aPE (ev fns n) cs A S) fun r=>some (r.1,⟨aEy keep r.2.h,r.2.nx⟩)
theorem aOo{c:AC}{A:bN}{S:St}{R:Out->bN->St->Prop}{h':T AB}(key:∀b bl,h'.get b=some bl->S.h.get b=some bl)(h:Good P c A ⟨h',S.nx⟩ R):Good P c A S R:=by
  intro ro m nt C hC hro lo σ a w Q hsz hdf hlo hF hRep hQ;have e:=gM.sub hRep key;exact h ro m nt C hC hro lo σ a w Q hsz (hdf.ext hRep e) hlo hF e.rep (fun o A' S' σ' a' w' r q1 q2 q3 q4 q5=>hQ o A' S' σ' a' w' r q1 q2 q3 q4 (e.trans q5))
theorem aE9{fns:T dD}(hK:qD P fns){n:Nat}{y:AC}{R:Out->bN->St->Prop}:∀ {cs:List AC} {A A1:bN} {S S1:St},aPE (ev fns n) cs A S=some (A1,S1)->(A1.inr=A.inr->Good P y A1 S1 R)->Good P (aRp cs y) A S R
  | [],A,A1,S,S1,h,hy=>by cases h;exact hy rfl
  | c::cs,A,A1,S,S1,h,hy=>by
    simp only[aPE] at h;have⟨⟨o,A',S'⟩,h1,h2⟩:=aA h;have⟨h3,h4⟩:=bJ h2;cases o<;>simp only[aHT,Aw] at h3;refine aOV ?_;intro ro m nt C hC hro lo σ a w Q hsz hdf hlo hF hRep hQ;refine aDQ hK n ro m nt C c hC A S _ _ _ hro h1 [] lo σ a w Q hsz hdf hlo hF hRep (fun σ' a' w' q1 q2 q3 _ q4 q5=>?_);exact hQ _ _ _ σ' a' w' ⟨rfl,q1,aE9 hK h4 (fun e=>hy (e.trans q1))⟩ q1 q2 q3 q4 q5
theorem aJY{fns:T dD}(hK:qD P fns){n:Nat}{y:AC}{cs:List AC}{keep:bt}{A A1:bN}{S S1:St}{R:Out->bN->St->Prop}(h:stage fns n cs keep A S=some (A1,S1))(hy:Good P y A1 S1 R):Good P (aRp cs y) A S R:=by
  have⟨⟨A',S'⟩,h1,h2⟩:=aA h;cases h2;exact aE9 hK h1 fun _=>aOo (fun _ _ hc=>aDo hc) hy
noncomputable def aME(res:List RV)(o:Out)(A:bN)(S:St):Option Bool:=
  match o with
  | .exit _=>none
  | _=>match results res A.F S.h with
    | some [.bool b]=>some b
    | _=>none
theorem aMH{res:List RV}{o:Out}{A:bN}{S:St}{b:Bool}(h:aME res o A S=some b):(o= .normal\/o= .ret)/\results res A.F S.h=some [.bool b]:=by
  unfold aME at h;split at h
  · cases h
  · rename_i hne
    refine⟨?_,?_⟩
    · cases o with
      | normal=>exact .inl rfl
      | ret=>exact .inr rfl
      | exit i=>exact absurd rfl (hne i)
    · split at h
      · rename_i b' hb;cases h;exact hb
      · cases h
noncomputable def aIO:List (Nat×bo)->T AB
  | []=>.e
  | (g,cs)::l=>(aIO l).set g (some (.ro cs))
noncomputable def stL(P:Program)(l:List (Nat×bo)):St:=⟨aIO l,P.globals.size⟩
def aIU(P:Program)(l:List (Nat×bo))(w:World):Prop:=
  ∀t∈l,t.1<P.globals.size/\t.1<w.heap.size/\∃Cs,iD P (aEa P) t.2 Cs/\(∀u∈Cs,u.oneCell'=true)/\w.rangeAt t.1 0 Cs
theorem oY:∀ {l:List (Nat×bo)} {b:Nat} {bl:AB},(aIO l).get b=some bl->∃cs,(b,cs)∈l/\bl= .ro cs
  | [],b,bl,h=>by simp [aIO,T.get_e] at h
  | (g,cs)::l,b,bl,h=>by
    simp only[aIO] at h;rw[dq] at h;split at h
    · rename_i e;subst e;cases h;exact⟨cs,by simp,rfl⟩
    · have⟨cs',h1,h2⟩:=oY h
      exact⟨cs',Bf _ h1,h2⟩
theorem aSr{l:List (Nat×bo)}{w:World}(hT:aIU P l w):kT P (aEa P) (stL P l) w where
  blk:=fun b bl h=>by
    obtain⟨cs,h1,rfl⟩:=oY h;have⟨g1,g2,Cs,h2,h3,h4⟩:=hT _ h1;exact⟨⟨b,0,0⟩,by simp only[aEa];rw[if_pos g1],g2,Cs,h2,h3,h4⟩
  lt:=fun b bl h=>by
    obtain⟨cs,h1,rfl⟩:=oY h;exact(hT _ h1).1
  fresh:=fun b h=>by simp only[stL] at h;simp only[aEa];rw[if_neg au]
  glob:=fun g h=>by simp only[aEa];rw[if_pos h]
  inj:=fun b b' bl bl' L L' h _ ho=>by
    obtain⟨cs,_,rfl⟩:=oY h;exact ho.elim
theorem aTv{l:List (Nat×bo)}(r:Nat):¬Own (aEa P) (stL P l) r:=fun⟨b,bl,L,h,ho,_⟩=>by
  obtain⟨cs,_,rfl⟩:=oY h;exact ho.elim
theorem aOv{w:World}:aIU P [] w:=fun t h=>by cases h
theorem aMi{l:List (Nat×bo)}{w:World}{g:Nat}{name:String}{k:IntKind}{zs:bm}{cs:bo}(hg:P.globalNamed name=some g)(hlt:g<P.globals.size)(h:Lib.TabIs P w name k zs)
    (hcs:cs=zs.map (AV.int k)) (hz:0<zs.length) (hl:aIU P l w):aIU P ((g,cs)::l) w:=by
  intro t ht;rcases Br.1 ht with rfl | ht
  · refine⟨hlt,?_,zs.map (Value.int k),?_,fun u hu=>?_,fun j v hv=>?_⟩
    · have:=h.cell hg 0 hz
      unfold World.cell? at this;cases hb:w.heap[g]? with
      | none=>simp only[hb] at this;cases this
      | some o=>exact(Fc.1 hb).1
    · subst hcs
      clear h hz ht
      induction zs with
      | nil=>exact cT.2 rfl
      | cons z zs ih=>exact cS.2 ⟨_,_,rfl,by simp only[Rv],ih⟩
    · obtain⟨z,_,rfl⟩:=He.1 hu
      rfl
    · rw[Ao]
      rw[Bz,Ax] at hv;obtain⟨z,hz',rfl⟩:=hv;have hj:=(Ai.1 hz').1;have:=h.cell hg j hj;rw[Ae,hz'] at this;exact this
  · exact hl t ht
noncomputable def aQS(res:List RV)(r:Out×bN×St):Option Bool:=aME res r.1 r.2.1 r.2.2
theorem aMb{fns:T dD}(hK:qD P fns){n:Nat}{c:AC}{res:List RV}{A:bN}{S:St}{b:Bool}(h:aU ((ev fns n).code c A S) (aQS res)=some b):Good P c A S fun o A' S'=>aME res o A' S'=some b:=by
  have⟨⟨o,A',S'⟩,h1,h2⟩:=aA h;exact aQi hK h1 h2
end Go.Ev
