/- Texts joined. Conditions: as each theorem names them. -/
import Derived.Test.YtkigmebejmmikaaGreatDoorRows
import Derived.ProofKit
import Derived.OpenShut
import Derived.ShutString
import Derived.ChangeOld
import Derived.SliceStrings
import Derived.Test.YtkigmebejmmikaaGreatDoorG20
import Derived.Test.YtkigmebejmmikaaGreatDoorG25
set_option maxRecDepth 100000
set_option maxHeartbeats 32000000
set_option linter.unusedVariables false
set_option linter.unusedSimpArgs false
namespace Go.Proofs.YtkigmebejmmikaaGreatDoor
open Go.RowKit Go.Proofs.Tryz
section
attribute [local go_sem] Qjy Qiu Qil Qgp ByteArray.mk_append_mk
theorem FnExactNamesGet_walk(w:World)(s:List UInt8)(hs:s.length<=maxLen)(d:List UInt8)(hd:d.length<=maxLen)(x:List UInt8)(hx:x.length<=maxLen):
  Calls prog 4 #[.string ⟨s.toArray⟩,.string ⟨d.toArray⟩,.string ⟨x.toArray⟩] w fun e w'=>e=.returned (.bool true)/\Below w.heap.size w w':=by
 by_cases h1:s.length<=1048576
 ·by_cases h2:d.length<=1048576
  ·by_cases h3:x.length<=1048576
   ·have Hs:=Aa (fun W=>Qe4 s d x W (by omega) (by omega) (by omega))
    have Hi:=Aa (fun W=>Qgl s d x W (by omega) (by omega) (by omega))
    simp only[Qfl]at Hs
    unfold T7 at Hs Hi
    generalize Qa2 (D3 s d) x=o at *
    generalize o.isSome=ok at *
    generalize o.getD []=ts at *
    go_enter func4,ntmps4
    go_wp2_with fail
    refine(Hs.o _).mono ?_
    rintro e w1 ⟨rfl,hb0⟩
    have Hb0:=Aa hb0
    clear hb0
    go_wp2_with fail
    refine(Hi.o _).mono ?_
    rintro e w2 ⟨rfl,hb1⟩
    have Hb1:=Aa (Hb0.o.trans (hb1.mono Hb0.o.size))
    clear hb1
    go_wp2_with fail
    go_ret
    exact⟨rfl,Hb1.o⟩
   have t3:1048576<x.length:=by omega
   go_enter func4,ntmps4
   go_wp2_with fail
   go_ret
   exact⟨rfl,Ay _ _⟩
  have t2:1048576<d.length:=by omega
  go_enter func4,ntmps4
  go_wp2_with fail
  go_ret
  exact⟨rfl,Ay _ _⟩
 have t1:1048576<s.length:=by omega
 go_enter func4,ntmps4
 go_wp2_with fail
 go_ret
 exact⟨rfl,Ay _ _⟩
end
section
open Go.ChangeShapes Go.WideShapes Go.ChangeAt Go.RowKit
open Go.ChangeMaps (open_string shut_string)
theorem own:ownKnob prog.godebug=none:=aJ
theorem laidOut:laidOutB prog=true:=aJ
section
variable {H:Type} {enc:TypeId × Value->H} {W:World} {base:Nat} {v:Value} {d:DataW H} {ps:List MemPlace}
theorem arg_string(hv:Value.okWide prog W .any base 9 v)(h:DataW.Trod enc prog W 0 (fun _=>true) true 9 v d ps):
  ∃l:List UInt8,v=l/\l.length<=maxLen:=by
 obtain⟨s,rfl,_,_,hs⟩:=open_string underlying9 hv h;exact⟨s.data.toList,by simp,by simpa using hs⟩
end
end
end Go.Proofs.YtkigmebejmmikaaGreatDoor
