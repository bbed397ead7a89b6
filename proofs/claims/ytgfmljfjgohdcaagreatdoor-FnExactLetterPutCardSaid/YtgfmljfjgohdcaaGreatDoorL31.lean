/- Texts joined. Conditions: as each theorem names them. -/
import Derived.Deep.DeepAppendRoom
import Derived.Deep.DeepAppendWide
import Derived.Test.YtgfmljfjgohdcaaGreatDoorL29
set_option maxRecDepth 100000
set_option maxHeartbeats 32000000
set_option linter.unusedVariables false
set_option linter.unusedSimpArgs false
namespace Go.Proofs.YtgfmljfjgohdcaaGreatDoor
open Go.RowKit Go.Proofs.Tryz
section
variable {α β:Type}
end
section
variable {P:Program}
end
section
attribute [local go_sem] Qls Qkr Qj4 Qig ByteArray.mk_append_mk
structure Gw(vo vo':Value)(w w':World):Prop where
 gr:w.grownBy w' vo.ownBlock
 own:vo'.ownBlock=vo.ownBlock\/∃k,vo'.ownBlock=some k/\w.heap.size<=k
theorem Gw.refl(vo:Value)(w:World):Gw vo vo w w:=⟨World.grownBy.refl _ _,.inl rfl⟩
theorem Gw.trans{v1 v2 v3:Value}{a b c:World}(h:Gw v1 v2 a b)(k:Gw v2 v3 b c):Gw v1 v3 a c:=by
 refine⟨⟨k.gr.os.trans h.gr.os,k.gr.tape.trans h.gr.tape,k.gr.output.trans h.gr.output,aa h.gr.size k.gr.size,fun x hx hne=>(k.gr.block x (a8 hx h.gr.size) ?_).trans (h.gr.block x hx hne)⟩,?_⟩
 ·rcases h.own with e|⟨y,e,hy⟩
  ·rw[e];exact hne
  rw[e];intro he;injection he with he;omega
 rcases k.own with e|⟨y,e,hy⟩
 ·rw[e];exact h.own
 exact .inr ⟨y,e,aa h.gr.size hy⟩
theorem Gw.of{v:Value}{a b:World}(hb:Below a a b):Gw v v a b:=⟨⟨hb.os,hb.tape,hb.output,hb.size,fun k hk _=>hb.block k hk⟩,.inl rfl⟩
def S5(o:Option (List Ty × Kd))(x:List UInt8):Option Vl:=match o with
 |some y=>Mr y.1 y.2 x
 |none=>none
theorem Yp{s d x:List UInt8}{v:Vl}(h:S5 (Bn s d) x=some v):∃S k,Bn s d=some (S,k)/\Jv S/\Cs k/\Bq S k/\Be k=d/\Nm S 12 k v/\Bi v=x/\x.length<=400:=by
 cases hb:Bn s d with
 |none=>rw[hb]at h;cases h
 |some y=>
  obtain⟨S,k⟩:=y;rw[hb]at h;obtain⟨g1,_,_,g4,g5,g6⟩:=Fq hb;obtain⟨h1,h2,h3⟩:=(Mj g1.1.1 g4).1 h;exact⟨S,k,rfl,g1,g4,g6,g5,h1,h2,h3⟩
end
end Go.Proofs.YtgfmljfjgohdcaaGreatDoor
