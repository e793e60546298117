import Derived.Test.YtiiplmagnlcpbaaGreatDoorGl12
set_option linter.unusedSimpArgs false
set_option linter.unusedVariables false
set_option maxHeartbeats 0
namespace Go.Ev.Gl
variable {fns:T cM}
theorem aK1{S:St}{b p sz:Nat}{cs e:bo}{o:Bool}(h:S.h.get b=some (.cells cs o sz))(hp:p+e.length<=cs.length):lN S b p e=some ⟨S.h.set b (some (.cells (cs.take p++e++cs.drop (p+e.length)) o sz)),S.nx⟩:=by
 simp only[lN,h,aL,qA,put_eq,if_pos hp]
theorem aOX{S:St}{b p sz n:Nat}{cs e:bo}{o:Bool}(h:S.h.get b=some (.cells cs o sz))(hp:p+e.length<=cs.length)(hn:e.length=n):oT (.ptr b p) n e S=some (.undef,⟨S.h.set b (some (.cells (cs.take p++e++cs.drop (p+e.length)) o sz)),S.nx⟩):=by
 simp only[oT,eQ,hn,aK1 h hp];rw[show Nat.beq n n=true from Nat.beq_refl n,aP];subst hn;rfl
section
variable {α:Type}{k:Nat}{E E':bo->α->Prop}{S0 X X':St}{v:AV}{l:List α}
end
structure Mk where
 lvl:AV
 va:AV
 na:AV
 ia:AV
 lv:AV
 most:Int
 pend:Int
 ps:Int
 zero:Bool
 small:Bool
 dl:bm
 bw:List fO
 b7:List aG5
 views:List (Int×Int×Int)
section
variable {P:Nat->Prop}{S0 X X':St}{mb db:Nat}{m m':Mk}{LV:List (Int×Int×Int)}
end
def hot(o:AO):Bool:=match o.op with | .q q=>dU q | .a _=>false | .x _=>true
def aL0(I:Nat->Prop)(D:DS):Prop:=(∀e∈D.hs,I e.1)/\∀l∈D.ls,I l.i
theorem aNv{I:Nat->Prop}{call:dK}{o:AO}{i base:Nat}{D D':DS}(h:rT o i base call D=some D')(hi:hot o=true->I i)(hD:aL0 I D):aL0 I D':=by
 unfold rT at h;cases hw:fI o.grd D.F with
 | false=>rw[hw,aS] at h;cases h;exact hD
 | true=>
  rw[hw,aP] at h;have⟨d,op,g,m⟩:=o;cases op with
  | q q=>
   have h:aU (jK q D.F D.S.h) (fun v=>some (⟨cB d D.F v,D.S,D.ps,D.hs,bM (dU q) (⟨q,D.F,v,i,m⟩::D.ls) D.ls⟩:DS))=some D':=h;cases he:jK q D.F D.S.h with
   | none=>rw[he] at h;cases h
   | some v=>
    rw[he,aL] at h;cases h;refine⟨hD.1,fun l hl=>?_⟩;simp only at hl;cases hq:dU q with
    | false=>rw[hq,aS] at hl;exact hD.2 l hl
    | true=>
     rw[hq,aP] at hl;rcases Br.1 hl with rfl | hl
     ·exact hi hq
     ·exact hD.2 l hl
  | a a=>
   have h:aU (vC a D.F (base+i)) (fun r=>some (⟨cB d D.F r.1,D.S,⟨i,base+i,r.2⟩::D.ps,D.hs,D.ls⟩:DS))=some D':=h;cases he:vC a D.F (base+i) with
   | none=>rw[he] at h;cases h
   | some v=>rw[he,aL] at h;cases h;exact hD
  | x x=>
   have h:bM (jB D.hs m) (aU (xX x call D.F ⟨(cA m D.ps D.S.h).2,D.S.nx⟩) fun r=>some (⟨cB d D.F r.1,r.2,(cA m D.ps D.S.h).1,(i,m,r.2.h)::D.hs,D.ls⟩:DS)) none=some D':=h;cases hl:jB D.hs m with
   | false=>rw[hl,aS] at h;cases h
   | true=>
    rw[hl,aP] at h;cases he:xX x call D.F ⟨(cA m D.ps D.S.h).2,D.S.nx⟩ with
    | none=>rw[he] at h;cases h
    | some v=>
     rw[he,aL] at h;cases h;refine⟨fun e he=>?_,hD.2⟩;rcases Br.1 he with rfl | he
     ·exact hi rfl
     ·exact hD.1 e he
theorem aGL{I:Nat->Prop}{call:dK}{base:Nat}:∀ {l:List AO} {i:Nat} {D D':DS},pY l i base call D=some D'->(∀j o,l[j]? =some o->hot o=true->I (i+j))->aL0 I D->aL0 I D'
 | [],i,D,D',h,_,hD=>by cases h;exact hD
 | o::os,i,D,D',h,hI,hD=>by
  have h:aU (rT o i base call D) (fun D'=>pY os (i+1) base call D')=some D':=h;cases he:rT o i base call D with
  | none=>rw[he] at h;cases h
  | some D1=>
   rw[he,aL] at h;exact aGL h (fun j o' hj ho=>by have:=hI (j+1) o' hj ho;rwa [show i+1+j=i+(j+1) by omega]) (aNv he (fun ho=>hI 0 o rfl ho) hD)
theorem aCW{W:Nat->Prop}{h0:T AB}{base K m:Nat}{h':T AB}{r:List (Nat×Nat×T AB)}{l:mW}(h:cC l.v l.v=true/\aHD W base l.q l.F/\jK l.q l.F h0=some l.v)(hl:l.mask<2 ^ K)(hm:Nat.testBit m l.i=true):∀ {hs:List (Nat×Nat×T AB)} {h1:T AB},(∀e∈hs,∀b,b<base->¬W b->e.2.2.get b=h0.get b)->(∀b,b<base->¬W b->h1.get b=h0.get b)->fN l (hs++(K,m,h')::r) h1=true
 | [],h1,_,hh=>by
  have e1:rF l.v (jK l.q l.F h1)=true:=by rw[h.2.1.ev hh,h.2.2];exact h.1
  have e2:Nat.testBit l.mask K=false:=Nat.testBit_lt_two_pow hl;show fN l ((K,m,h')::r) h1=true;unfold fN;rw[e2,aS,e1,aP,hm,aP]
 | (i,mm,h2)::rr,h1,hs,hh=>by
  have e1:rF l.v (jK l.q l.F h1)=true:=by rw[h.2.1.ev hh,h.2.2];exact h.1
  have e2:fN l (rr++(K,m,h')::r) h2=true:=aCW h hl hm (fun e he=>hs e (by simp [he])) (hs (i,mm,h2) (by simp));show fN l ((i,mm,h2)::(rr++(K,m,h')::r)) h1=true;unfold fN;rw[e1,e2];cases Nat.testBit l.mask i<;>cases Nat.testBit mm l.i<;>rfl
theorem xC(m0:Nat){W:Nat->Prop}{ops pre suf:List AO}{K:Nat}{A:bK}{S:St}{Q:Out->bK->St->Prop}{R:Fr->St->List kQ->Prop}(he:ops=pre++suf)(hK:pre.length=K)(hm:(pre.all fun o=>decide (o.mask<2 ^ K))=true)(hI:((List.range K).all fun j=>match pre[j]? with | some o=> !hot o || Nat.testBit m0 j | none=>true)=true)
  (h:∀S1,Same S S1->S1.h=S.h->S1.nx=S.nx+ops.length->iD fns W S.h S.nx pre 0 A.F S1 [] none R)
  (h2:∀F S' ps hs ls,R F S' ps->jB hs m0=true->(∀h' r,gM S.h (hs.reverse++(K,m0,h')::r) ls=true)->wpd fns suf K S.nx ⟨F,S',ps,hs,ls⟩ fun D'=>gM S.h D'.hs.reverse D'.ls=true/\Q .normal ⟨D'.F,A.inr⟩ ⟨(cA (2 ^ ops.length - 1) D'.ps D'.S.h).2,D'.S.nx⟩):oD fns (.drw ops) A S Q:=by
 refine rB ?_;have⟨n,D',e1,e2,e3⟩:=mO (fns:=fns) (i:=0) (D:=⟨A.F,⟨S.h,S.nx+ops.length⟩,[],[],[]⟩) (last:=none) ⟨fun _ _ _=>rfl,Nat.le_add_right _ _,fun e he=>(by cases he),fun l hl=>(by cases hl),fun p hp=>(by cases hp)⟩ rfl (h ⟨S.h,S.nx+ops.length⟩ (Same.nx S _) rfl rfl);have low:Low K D':=aHs e1 au (fun o ho=>by have:=Fc.1 hm o ho;simpa using this) ⟨fun e he=>(by cases he),fun l hl=>(by cases hl)⟩;have idx:aL0 (fun i=>Nat.testBit m0 i=true) D':=aGL e1 (fun j o hj ho=>by
  have hlt:j<K:=by rw[<-hK];exact(Aj.1 hj).1
  have:=Fc.1 hI j (List.mem_range.2 hlt);rw[hj] at this;simp only[ho,Gz,Bool.false_or] at this
  rwa [Au]) ⟨fun e he=>(by cases he),fun l hl=>(by cases hl)⟩
 have⟨F,S',ps,hs,ls⟩:=D';have hh:=h2 F S' ps hs ls e2 (by
  cases hs with
  | nil=>rfl
  | cons e r=>exact idx.1 e (Dy ..)) (fun h' r=>tX fun l hl=>aCW (e3.lds l hl) (low.2 l hl).2 (idx.2 l hl) (fun e he=>e3.chain e (List.mem_reverse.1 he)) (fun _ _ _=>rfl))
 have:wpd fns ops 0 S.nx ⟨A.F,⟨S.h,S.nx+ops.length⟩,[],[],[]⟩ fun D'=>gM S.h D'.hs.reverse D'.ls=true/\Q .normal ⟨D'.F,A.inr⟩ ⟨(cA (2 ^ ops.length - 1) D'.ps D'.S.h).2,D'.S.nx⟩:=by
  subst he;refine aOi ⟨n,_,e1,?_⟩;rw[Au,hK];exact hh
 exact this
end Go.Ev.Gl
