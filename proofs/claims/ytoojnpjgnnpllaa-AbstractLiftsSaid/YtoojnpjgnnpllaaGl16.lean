import Derived.Test.YtoojnpjgnnpllaaGl15
set_option maxHeartbeats 0
set_option linter.unusedSimpArgs false
set_option linter.unusedVariables false
namespace Go.Ev.Gl
variable {fns:T dY}
theorem aR1{S:St}{v:AV}{l:ba}(h:bI .i64 S v l):mL v=some l.length/\eY v S.h 1 l.length=some (aU l):=by
 rcases h with⟨rfl,rfl | rfl⟩ | ⟨b,off,cap,o,cs,rfl,h2,h3,h4,h5⟩
 ·exact⟨rfl,rfl⟩
 ·exact⟨rfl,rfl⟩
 ·refine⟨rfl,?_⟩;show bC (cK S.h b) (fun c=>cut c off (l.length * 1))=_;rw[h4];show cut cs off (l.length * 1)=_;have hlen:l.length<=(cs.drop off).length:=by
   rw[Dr];rcases Dh l.length with h0 | hp
   ·omega
   ·have:=h5 (l.length - 1) l[l.length - 1] (Ab ar);have:=(Ai.1 this).1;omega
  unfold cut;rw[iF,iX,Cr,if_pos hlen];congr 1;refine List.ext_getElem? fun i=>?_;by_cases hi:i<l.length
  ·rw[Em hi,Fd,h5 i l[i] (Ab hi)];unfold aU;rw[Am,Ab hi];rfl
  ·rw[Cd (by rw[Ca];omega),Cd (by unfold aU;rw[Aj];omega)]
theorem aAD{b:Nat}{S:St}{v:AV}{l:ba}(hb:S.h.get b=some (.cells [] false 0))(h:bI .i64 S v l)(h2:l.length<=100000):
  ∃r S',gP 8 1 (.sl b 0 0 0 false) v S=some (r,S')/\Same S S'/\((l= []/\r= .sl b 0 0 0 false/\S'=S)\/(fY 1 S S' r l.length (aU l)/\l≠ [])):=by
 have⟨e1,e2⟩:=aR1 h;have hr:l.length<=room:=by unfold room;omega
 have hr2:l.length * 8<=room:=by unfold room;omega
 unfold gP;rw[e1,aL,e2,aL];show ∃r S',qF 8 1 b 0 0 0 false l.length (aU l) S=some (r,S')/\_;unfold qF;rcases Dh l.length with h0 | hp
 ·have hl:l= []:=Bu.1 h0;subst hl;exact⟨.sl b 0 0 0 false,S,rfl,dk S,.inl ⟨rfl,rfl,rfl⟩⟩
 ·have e5:Nat.ble (0+l.length) 0=false:=by
   rw[Ei];intro e;have:=Bd e;omega
  rw[e5,bB,Av ar,aR,Av (by rw[An];exact hr2),aR,hb,aL];have e4:cut ([]:bf) 0 (0 * 1)=some []:=by
   unfold cut;rw[iF,iX,Ep,if_pos (Du _)];rfl
  have hgr:aCc (.cells [] false 0) 1 b 0 0 0 false l.length (aU l) S=some (.sl S.nx 0 (0+l.length) (0+l.length) true,⟨S.h.set S.nx (some (.cells (aU l) true 1)),Nat.succ S.nx⟩):=by
   simp only[aCc,e4,aL,bB,grown,gE,Cg]
  rw[hgr,An];exact⟨.sl S.nx 0 l.length l.length true,⟨S.h.set S.nx (some (.cells (aU l) true 1)),S.nx+1⟩,rfl,Same.alloc S _,.inr ⟨.inr ⟨S.nx,rfl,Ag _,by simp,fk,by simp [aU]⟩,fun e=>by rw[e] at hp;exact absurd hp (Nat.lt_irrefl 0)⟩⟩
end Go.Ev.Gl
