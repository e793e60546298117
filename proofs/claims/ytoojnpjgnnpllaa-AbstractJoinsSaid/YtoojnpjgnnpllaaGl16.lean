import Derived.Test.YtoojnpjgnnpllaaGl15
set_option maxHeartbeats 16000000
set_option linter.unusedSimpArgs false
set_option linter.unusedVariables false
namespace Go.Ev.Gl
variable {fns:T eG}
theorem aPO{S:St}{v:AV}{l:List Int}(h:bK .i64 S v l):mO v=some l.length∧fG v S.h 1 l.length=some (aP l):=by
 rcases h with⟨rfl,rfl | rfl⟩ | ⟨b,off,cap,o,cs,rfl,h2,h3,h4,h5⟩
 ·exact⟨rfl,rfl⟩
 ·exact⟨rfl,rfl⟩
 ·refine⟨rfl,?_⟩;show aZ (cN S.h b) (fun c=>cut c off (l.length * 1))=_;rw[h4];show cut cs off (l.length * 1)=_;have hlen:l.length≤(cs.drop off).length:=by
   rw[Dq];rcases Ei l.length with h0 | hp
   ·omega
   ·have:=h5 (l.length - 1) l[l.length - 1] (Ab (by omega));have:=(Ai.1 this).1;omega
  unfold cut;rw[jE,jZ,Dh,if_pos hlen];congr 1;refine List.ext_getElem? fun i=>?_;by_cases hi:i<l.length
  ·rw[Eo hi,List.getElem?_drop,h5 i l[i] (Ab hi)];unfold aP;rw[Aq,Ab hi];rfl
  ·rw[Ca (by rw[Ce];omega),Ca (by unfold aP;rw[Aj];omega)]
theorem zW{b:Nat}{S:St}{v:AV}{l:List Int}(hb:S.h.get b=some (.cells [] false 0))(h:bK .i64 S v l)(h2:l.length≤100000):
  ∃r S',jK 8 1 (.sl b 0 0 0 false) v S=some (r,S')∧Same S S'∧((l= []∧r= .sl b 0 0 0 false∧S'=S)∨(fP 1 S S' r l.length (aP l)∧l≠ [])):=by
 obtain⟨e1,e2⟩:=aPO h;have hr:l.length≤room:=by unfold room;omega
 have hr2:l.length * 8≤room:=by unfold room;omega
 unfold jK;rw[e1,aK,e2,aK];show ∃r S',qS 8 1 b 0 0 0 false l.length (aP l) S=some (r,S')∧_;unfold qS;rcases Ei l.length with h0 | hp
 ·have hl:l= []:=Bw.1 h0;subst hl;exact⟨.sl b 0 0 0 false,S,rfl,Same.refl S,.inl ⟨rfl,rfl,rfl⟩⟩
 ·have e5:Nat.ble (0+l.length) 0=false:=by
   rw[Ef];intro e;have:=Az e;omega
  rw[e5,aW,Au (by omega),aQ,Au (by rw[Ao];exact hr2),aQ,hb,aK];have e4:cut ([]:List AV) 0 (0 * 1)=some []:=by
   unfold cut;rw[jE,jZ,Nat.zero_mul,if_pos (De _)];rfl
  have hgr:aBh (.cells [] false 0) 1 b 0 0 0 false l.length (aP l) S=some (.sl S.nx 0 (0+l.length) (0+l.length) true,⟨S.h.set S.nx (some (.cells (aP l) true 1)),Nat.succ S.nx⟩):=by
   simp only[aBh,e4,aK,aW,grown,fS,Cc]
  rw[hgr,Ao];exact⟨.sl S.nx 0 l.length l.length true,⟨S.h.set S.nx (some (.cells (aP l) true 1)),S.nx+1⟩,rfl,Same.alloc S _,.inr ⟨.inr ⟨S.nx,rfl,Ah _,by simp,by simp only;rw[T.get_set,if_pos rfl],by simp [aP]⟩,fun e=>by rw[e] at hp;exact absurd hp (Nat.lt_irrefl 0)⟩⟩
end Go.Ev.Gl
