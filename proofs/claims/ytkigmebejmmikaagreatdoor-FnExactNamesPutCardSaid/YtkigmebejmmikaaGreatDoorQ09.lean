/- Texts joined. Conditions: as each theorem names them. -/
import Derived.Test.YtkigmebejmmikaaGreatDoorQ07
import Derived.Test.YtkigmebejmmikaaGreatDoorQ08
set_option maxRecDepth 100000
set_option maxHeartbeats 32000000
set_option linter.unusedVariables false
set_option linter.unusedSimpArgs false
namespace Go.Proofs.YtkigmebejmmikaaGreatDoor
open Go.RowKit Go.Proofs.Tryz
section
attribute [local go_sem] Qja Qit Qib Qgw ByteArray.mk_append_mk
theorem Sh{w:World}{base lo n k:Nat}{e:TypeId}{v:Value}{xs:List Value}(h:w.ownsRow base e k v n xs)(hl:lo<=base):w.ownsRow lo e k v n xs:=by
 rcases h with⟨h1,h2|⟨g,cap,cur,h2,h3,h4⟩⟩
 ·exact⟨h1,.inl h2⟩
 exact⟨h1,.inr ⟨g,cap,cur,h2,Nat.le_trans hl h3,h4⟩⟩
structure Gw(vo vo':Value)(w w':World):Prop where
 gr:w.grownBy w' vo.ownBlock
 own:vo'.ownBlock=vo.ownBlock\/∃k,vo'.ownBlock=some k/\w.heap.size<=k
theorem Gw.refl(vo:Value)(w:World):Gw vo vo w w:=⟨World.grownBy.refl _ _,.inl rfl⟩
theorem Gw.trans{v1 v2 v3:Value}{a b c:World}(h:Gw v1 v2 a b)(k:Gw v2 v3 b c):Gw v1 v3 a c:=by
 refine⟨⟨k.gr.os.trans h.gr.os,k.gr.tape.trans h.gr.tape,k.gr.output.trans h.gr.output,Nat.le_trans h.gr.size k.gr.size,fun x hx hne=>(k.gr.block x (Nat.lt_of_lt_of_le hx h.gr.size) ?_).trans (h.gr.block x hx hne)⟩,?_⟩
 ·rcases h.own with e|⟨y,e,hy⟩
  ·rw[e];exact hne
  rw[e];intro he;injection he with he;omega
 rcases k.own with e|⟨y,e,hy⟩
 ·rw[e];exact h.own
 exact .inr ⟨y,e,Nat.le_trans h.gr.size hy⟩
theorem Gw.of{v:Value}{a b:World}(hb:Below a.heap.size a b):Gw v v a b:=⟨⟨hb.os,hb.tape,hb.output,hb.size,fun k hk _=>hb.block k hk⟩,.inl rfl⟩
end
end Go.Proofs.YtkigmebejmmikaaGreatDoor
