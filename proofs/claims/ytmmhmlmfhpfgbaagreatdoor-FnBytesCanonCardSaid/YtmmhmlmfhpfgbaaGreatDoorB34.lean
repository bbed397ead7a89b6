/- Texts joined. Conditions: as each theorem names them. -/
import Derived.Test.YtmmhmlmfhpfgbaaGreatDoorB33
set_option maxRecDepth 100000
set_option maxHeartbeats 32000000
set_option linter.unusedVariables false
set_option linter.unusedSimpArgs false
namespace Go.Proofs.YtmmhmlmfhpfgbaaGreatDoor
open Go.RowKit Go.Proofs.Tryz
theorem D8.grown{w w':World}{g p:Nat}{v:Value}{fs:List Fd}(h:D8 w v fs)(hR:E4 w g p)(hg:w.grownBy w' (some g)):D8 w' v fs:=by
 obtain⟨A,c,e,hl,hr⟩:=h;refine⟨A,c,e,hl,hr.grown hg (fun b off e1 hn=>?_)⟩;rintro rfl;obtain⟨b',off',e',_,c0,c1,_,_⟩:=D8.at_ hr (i:=0) aI;rw[e1]at e';injection e' with e';injection e' with e2 e3;subst e2 e3;obtain⟨A2,n2,c2,l2,hh,_⟩:=hR;rcases(show off=0\/off=1\/2<=off by omega)with ho|ho|ho
 ·exact ig
 ·subst ho;simp[World.cell?,hh]at c1
 obtain⟨k,rfl⟩:∃k,off=k+2:=⟨off - 2,by omega⟩
 simp[World.cell?,hh]at c0
theorem Gj.grown{w w':World}{g p:Nat}{v:Value}{xs:List (Ty × Value)}(h:Gj w v xs)(hR:E4 w g p)(hg:w.grownBy w' (some g)):Gj w' v xs:=by
 obtain⟨A,c,e,hl,hr,hf⟩:=h;refine⟨A,c,e,hl,hr.grown hg (fun b off e1 hn=>?_),fun x hx=>(hf x hx).grown hR hg⟩;rintro rfl;obtain⟨b',off',e',_,c0,_,_⟩:=Gj.at_ hr (i:=0) aI;rw[e1]at e';injection e' with e';injection e' with e2 e3;subst e2 e3;obtain⟨A2,n2,c2,l2,hh,_⟩:=hR;rcases(show off=0\/off=1\/2<=off by omega)with ho|ho|ho
 ·exact ig
 ·exact ig
 obtain⟨k,rfl⟩:∃k,off=k+2:=⟨off - 2,by omega⟩
 simp[World.cell?,hh]at c0
end Go.Proofs.YtmmhmlmfhpfgbaaGreatDoor
