/- Texts joined. Conditions: as each theorem names them. -/
import Derived.Test.YtkigmebejmmikaaGreatDoorU17
set_option maxRecDepth 100000
set_option maxHeartbeats 32000000
set_option linter.unusedVariables false
set_option linter.unusedSimpArgs false
namespace Go.Proofs.YtkigmebejmmikaaGreatDoor
open Go.RowKit Go.Proofs.Tryz
section
open Go.RowKit Go.Sort
attribute [local go_sem] Qo3 Qn2 Qnz Qlq ByteArray.mk_append_mk
def Qof(bo:Option (List Ty × Kd))(x:List UInt8)(w:World)(e:Ending)(w':World):Prop:=
 (∃p k1 k2 k3 v sl,e=.returned (.tuple #[.pointer p,.agg #[.string k1,.string k2,.string k3],Gy v sl,.bool (Ya bo x).isSome])/\Dp (fun c=>w.heap.size<=c) w' sl v.kids /\
  ∀y,Ya bo x=some y->v=y/\∃S k xs,bo=some (S,k)/\Af xs=S/\k1=⟨k.signs.toArray⟩/\k2=⟨k.base.toArray⟩/\k3=⟨k.name.toArray⟩/\Ra w' (.pointer p) xs)/\Below w w w'
theorem Tj{xs:List PT}{n:Da}{t:Ty}(h:B0 (Af xs) n=some t):∃x,Fg xs n=some x/\x.ty=t:=by
 rw[Jn]at h;cases hq:Fg xs n with
 |none=>rw[hq]at h;cases h
 |some x=>rw[hq]at h;injection h with h;exact⟨x,rfl,h⟩
theorem Mr{p:List UInt8}:∀{l:List (List UInt8)},p∈l->p.length+1<=Cp l
 |x::xs,h=>by
  rw[Cu];rcases az.1 h with rfl|h
  ·omega
  have:=Mr h;omega
theorem Qat{S:List Ty}(hS:∀t∈S,Du t):∀(d:Nat) (k:Kd) (v:Vl),Gg S d k v->(Ay v).length<=900000->Bd v:=by
 intro d;induction d with
 |zero=>intro k v h;cases h
 |succ d ih=>
  intro k v h hl;cases h with
  |@n _ _ m hs hb h=>exact .mk aG d7 (by simp[Ay,Dr,Fl]at hl;omega) aK
  |@t _ _ s hs hb h=>exact .mk aG d7 (by simp[Ay,Dr,Fl]at hl;omega) aK
  |@f _ _ x hs hb=>exact .mk aG d7 (by cases x<;>decide) aK
  |@lst _ _ r ks hs hl2 h=>
   rw[Gj]at hl;simp only[List.length_cons,ah,Bf,List.length_nil]at hl;exact .mk aG aG aK fun x hx=>ih _ x (h x hx) (by have:=Mr (ao (f:=Ay) hx);omega)
  |@non _ _ r hs=>exact .mk aG d7 aK aK
  |@som _ _ r x hs h=>
   have hx:(Ay x).length<=900000:=by simp[Ay,Dr,Fl,Am]at hl;omega
   exact .mk aG eF aK fun y hy=>gI
  |@enm _ _ t f hs hb ht h9 hf=>exact .mk (by have:=((hS t (Bj ht).1).2.2.1.1 f (Br hf).2).2.1;omega) d7 aK aK
  |@uni _ _ t f x hs hb ht h5 hf h=>
   have hx:(Ay x).length<=900000:=by simp[Ay,Dr,Fl,Am]at hl;omega
   exact .mk (by have:=(Py hS ht cY (Br hf).2).2;omega) eF aK fun y hy=>gI
  |@rcd _ _ t fs hs hb ht h2 hf h hn hp=>
   rw[Ng]at hl;simp only[List.length_cons,ah,Bf,List.length_nil]at hl;refine .mk aG (by rw[List.map_map];show Cp (fs.map fun p=>Ay (Cz p))<=_;omega) aK fun y hy=>?_;obtain⟨p,hp',rfl⟩:=aw.1 hy;have h3:=Mr (ao (f:=fun p=>Ay (Cz p)) hp');simp only[J6]at h3;have h4:=(Py hS ht cj (Br (hf p hp')).2).2;exact .mk aG eF aK fun y hy=>by rw[ap]at hy;subst hy;exact ih _ _ (h p hp') aG
end
end Go.Proofs.YtkigmebejmmikaaGreatDoor
