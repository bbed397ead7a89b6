/- Texts joined. Conditions: as each theorem names them. -/
import Derived.Deep.DeepAppendRoom
import Derived.Deep.DeepAppendWide
import Derived.Test.YtmmhmlmfhpfgbaaGreatDoorB08
set_option maxRecDepth 100000
set_option maxHeartbeats 32000000
set_option linter.unusedVariables false
set_option linter.unusedSimpArgs false
namespace Go.Proofs.YtmmhmlmfhpfgbaaGreatDoor
open Go.RowKit Go.Proofs.Tryz
theorem Vo{p:List UInt8}:∀{l:List (List UInt8)},p∈l->p.length+1<=Du l
 |x::xs,h=>by
  rw[Ev];rcases aB.1 h with rfl|h
  ·omega
  have:=Vo h;omega
theorem Vj{S:List Ty}(hS:∀t∈S,Ek t):∀(d:Nat) (k:Kd) (v:Vl),Ge S d k v->(Aw v).length<=900000->Bd v:=by
 intro d;induction d with
 |zero=>intro k v h;cases h
 |succ d ih=>
  intro k v h hl;cases h with
  |@n _ _ m hs hb h=>exact .mk aI dl (by simp[Aw,Di,Gl]at hl;omega) aK
  |@t _ _ s hs hb h=>exact .mk aI dl (by simp[Aw,Di,Gl]at hl;omega) aK
  |@f _ _ x hs hb=>exact .mk aI dl (by cases x<;>decide) aK
  |@lst _ _ r ks hs hl2 h=>
   rw[G6]at hl;simp only[List.length_cons,ah,Bs,List.length_nil]at hl;exact .mk aI aI aK fun x hx=>ih _ x (h x hx) (by have:=Vo (aq (f:=Aw) hx);omega)
  |@non _ _ r hs=>exact .mk aI dl aK aK
  |@som _ _ r x hs h=>
   have hx:(Aw x).length<=900000:=by simp[Aw,Di,Gl,Ax]at hl;omega
   exact .mk aI dT aK fun y hy=>f9
  |@enm _ _ t f hs hb ht h9 hf=>exact .mk (by have:=((hS t (Bj ht).1).2.2.1.1 f (Ay hf).2).2.1;omega) dl aK aK
  |@uni _ _ t f x hs hb ht h5 hf h=>
   have hx:(Aw x).length<=900000:=by simp[Aw,Di,Gl,Ax]at hl;omega
   exact .mk (by have:=(Na hS ht dk (Ay hf).2).2;omega) dT aK fun y hy=>f9
  |@rcd _ _ t fs hs hb ht h2 hf h hn hp=>
   rw[Nb]at hl;simp only[List.length_cons,ah,Bs,List.length_nil]at hl;refine .mk aI (by rw[List.map_map];show Du (fs.map fun p=>Aw (Ea p))<=_;omega) aK fun y hy=>?_;obtain⟨p,hp',rfl⟩:=ay.1 hy;have h3:=Vo (aq (f:=fun p=>Aw (Ea p)) hp');simp only[Jo]at h3;have h4:=(Na hS ht cJ (Ay (hf p hp')).2).2;exact .mk aI dT aK fun y hy=>by rw[ar]at hy;subst hy;exact ih _ _ (h p hp') aI
section
variable {α β:Type}
end
section
variable {P:Program}
end
end Go.Proofs.YtmmhmlmfhpfgbaaGreatDoor
