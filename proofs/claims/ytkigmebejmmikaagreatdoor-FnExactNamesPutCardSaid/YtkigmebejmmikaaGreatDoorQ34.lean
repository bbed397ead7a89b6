/- Texts joined. Conditions: as each theorem names them. -/
import Derived.Test.YtkigmebejmmikaaGreatDoorRows
import Derived.ProofKit
import Derived.OpenShut
import Derived.ShutString
import Derived.ChangeOld
import Derived.SliceStrings
import Derived.Test.YtkigmebejmmikaaGreatDoorQ01
import Derived.Test.YtkigmebejmmikaaGreatDoorQ12
import Derived.Test.YtkigmebejmmikaaGreatDoorQ13
import Derived.Test.YtkigmebejmmikaaGreatDoorQ28
import Derived.Test.YtkigmebejmmikaaGreatDoorQ33
set_option maxRecDepth 100000
set_option maxHeartbeats 32000000
set_option linter.unusedVariables false
set_option linter.unusedSimpArgs false
namespace Go.Proofs.YtkigmebejmmikaaGreatDoor
open Go.RowKit Go.Proofs.Tryz
section
attribute [local go_sem] Qja Qit Qib Qgw ByteArray.mk_append_mk
theorem FnExactNamesPut_walk(w:World)(s:List UInt8)(hs:s.length<=maxLen)(d:List UInt8)(hd:d.length<=maxLen)(x:List UInt8)(hx:x.length<=maxLen):
  Calls prog 3 #[.string ⟨s.toArray⟩,.string ⟨d.toArray⟩,.string ⟨x.toArray⟩] w fun e w'=>e=.returned (.bool true)/\Below w.heap.size w w':=by
 by_cases h1:s.length<=1048576
 ·by_cases h2:d.length<=1048576
  ·by_cases h3:x.length<=1048576
   ·have Hs:=Aa (fun W=>Qhk s d x W (Qix s d x W (by omega) (by omega) (by omega)))
    have Hi:=Aa (fun W=>Qhw s d x W ((Qa7 s d x W (by omega) (by omega) (by omega)).mono fun e w' h=>h.r))
    unfold Qbe at Hs Hi
    generalize vlB (C5 s d) x Ti=o at *
    generalize o.isSome=ok at *
    generalize o.getD []=ts at *
    go_enter func3,ntmps3
    go_wp2_with fail
    refine(Hs.o _).mono ?_
    rintro e w1 ⟨rfl,hb0⟩
    have Hb0:=Aa hb0
    clear hb0
    go_wp2_with fail
    refine(Hi.o _).mono ?_
    rintro e w2 ⟨rfl,hb1⟩
    have Hb1:=Aa (Hb0.o.trans (hb1.mono Hb0.o.size))
    clear hb1
    go_wp2_with fail
    go_ret
    exact⟨rfl,Hb1.o⟩
   have t3:1048576<x.length:=by omega
   go_enter func3,ntmps3
   go_wp2_with fail
   go_ret
   exact⟨rfl,As _ _⟩
  have t2:1048576<d.length:=by omega
  go_enter func3,ntmps3
  go_wp2_with fail
  go_ret
  exact⟨rfl,As _ _⟩
 have t1:1048576<s.length:=by omega
 go_enter func3,ntmps3
 go_wp2_with fail
 go_ret
 exact⟨rfl,As _ _⟩
end
section
open Go.ChangeShapes Go.WideShapes Go.ChangeAt Go.RowKit
open Go.ChangeMaps (open_string shut_string)
theorem own:ownKnob prog.godebug=none:=by kernel_rfl
theorem laidOut:laidOutB prog=true:=by kernel_rfl
section
variable {H:Type} {enc:TypeId × Value->H} {W:World} {base:Nat} {v:Value} {d:DataW H} {ps:List MemPlace}
theorem arg_string(hv:Value.okWide prog W .any base 9 v)(h:DataW.Trod enc prog W 0 (fun _=>true) true 9 v d ps):
  ∃l:List UInt8,v=.string ⟨l.toArray⟩/\l.length<=maxLen:=by
 obtain⟨s,rfl,_,_,hs⟩:=open_string underlying9 hv h
 exact⟨s.data.toList,by simp,by simpa using hs⟩
end
end
end Go.Proofs.YtkigmebejmmikaaGreatDoor
