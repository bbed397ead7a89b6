/- Texts joined. Conditions: as each theorem names them. -/
import Derived.Test.YtkigmebejmmikaaGreatDoorV17
set_option maxRecDepth 100000
set_option maxHeartbeats 32000000
set_option linter.unusedVariables false
set_option linter.unusedSimpArgs false
namespace Go.Proofs.YtkigmebejmmikaaGreatDoor
open Go.RowKit Go.Proofs.Tryz
section
open Go.RowKit Go.Sort
attribute [local go_sem] Qo1 Qof Qnv Qlx ByteArray.mk_append_mk
def Qoq(bo:Option (List Ty × Kd))(x:List UInt8)(w:World)(e:Ending)(w':World):Prop:=
 (∃p k1 k2 k3 v sl,e=.returned (.tuple #[.pointer p,.agg #[.string k1,.string k2,.string k3],Gy v sl,.bool (Zl bo x).isSome])/\Dt (fun c=>w.heap.size<=c) w' sl v.kids /\
  ∀y,Zl bo x=some y->v=y/\∃S k xs,bo=some (S,k)/\Af xs=S/\k1=⟨k.signs.toArray⟩/\k2=⟨k.base.toArray⟩/\k3=⟨k.name.toArray⟩/\Q7 w' (.pointer p) xs)/\Below w w w'
theorem Ti{xs:List PT}{n:Df}{t:Ty}(h:B6 (Af xs) n=some t):∃x,Fi xs n=some x/\x.ty=t:=by
 rw[Jp]at h;cases hq:Fi xs n with
 |none=>rw[hq]at h;cases h
 |some x=>rw[hq]at h;injection h with h;exact⟨x,rfl,h⟩
theorem Mo{p:List UInt8}:∀{l:List (List UInt8)},p∈l->p.length+1<=Cq l
 |x::xs,h=>by
  rw[Cu];rcases az.1 h with rfl|h
  ·omega
  have:=Mo h;omega
theorem Qa4{S:List Ty}(hS:∀t∈S,Do t):∀(d:Nat) (k:Kd) (v:Vl),Gb S d k v->(Ay v).length<=900000->Bd v:=by
 intro d;induction d with
 |zero=>intro k v h;cases h
 |succ d ih=>
  intro k v h hl;cases h with
  |@n _ _ m hs hb h=>exact .mk aG d7 (by simp[Ay,Di,Fa]at hl;omega) aL
  |@t _ _ s hs hb h=>exact .mk aG d7 (by simp[Ay,Di,Fa]at hl;omega) aL
  |@f _ _ x hs hb=>exact .mk aG d7 (by cases x<;>decide) aL
  |@lst _ _ r ks hs hl2 h=>
   rw[Gr]at hl;simp only[List.length_cons,ah,Bg,List.length_nil]at hl;exact .mk aG aG aL fun x hx=>ih _ x (h x hx) (by have:=Mo (ao (f:=Ay) hx);omega)
  |@non _ _ r hs=>exact .mk aG d7 aL aL
  |@som _ _ r x hs h=>
   have hx:(Ay x).length<=900000:=by simp[Ay,Di,Fa,Am]at hl;omega
   exact .mk aG eG aL fun y hy=>gK
  |@enm _ _ t f hs hb ht h9 hf=>exact .mk (by have:=((hS t (Be ht).1).2.2.1.1 f (Bi hf).2).2.1;omega) d7 aL aL
  |@uni _ _ t f x hs hb ht h5 hf h=>
   have hx:(Ay x).length<=900000:=by simp[Ay,Di,Fa,Am]at hl;omega
   exact .mk (by have:=(Py hS ht cY (Bi hf).2).2;omega) eG aL fun y hy=>gK
  |@rcd _ _ t fs hs hb ht h2 hf h hn hp=>
   rw[No]at hl;simp only[List.length_cons,ah,Bg,List.length_nil]at hl;refine .mk aG (by rw[List.map_map];show Cq (fs.map fun p=>Ay (C5 p))<=_;omega) aL fun y hy=>?_;obtain⟨p,hp',rfl⟩:=aw.1 hy;have h3:=Mo (ao (f:=fun p=>Ay (C5 p)) hp');simp only[J8]at h3;have h4:=(Py hS ht cj (Bi (hf p hp')).2).2;exact .mk aG eG aL fun y hy=>by rw[ap]at hy;subst hy;exact ih _ _ (h p hp') aG
def Z7(o:Option (List Ty × Kd))(x:List UInt8):Option (List UInt8):=if 600<x.length then none else o.bind fun y=>(Ci y.1 12 y.2 x).bind fun z=>if z.2=[]/\(Ay z.1).length<=400 then some (Ay z.1)else none
end
end Go.Proofs.YtkigmebejmmikaaGreatDoor
