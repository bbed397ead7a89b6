/- Texts joined. Conditions: as each theorem names them. -/
import Derived.Test.YtpjijpcemejlnaaGreatDoorRows
import Derived.ProofKit
import Derived.OpenShut
import Derived.ShutString
import Derived.ChangeOld
import Derived.SliceStrings
import Derived.Test.YtpjijpcemejlnaaGreatDoorP25
import Derived.Test.YtpjijpcemejlnaaGreatDoorP31
set_option maxRecDepth 100000
set_option maxHeartbeats 32000000
set_option linter.unusedVariables false
set_option linter.unusedSimpArgs false
namespace Go.Proofs.YtpjijpcemejlnaaGreatDoor
open Go.RowKit Go.Proofs.Tryz
section
attribute [local go_sem] Qhy Qhh Qg3 Qfo ByteArray.mk_append_mk
theorem Qb.q{o:Option (List Ty × Kd)}{x:List UInt8}{w w':World}{e:Ending}(h:Qb o x w e w'):Qhl (Mp o x) w e w':=by
 obtain⟨⟨p,k1,k2,k3,v,sl,he,hs,hy⟩,hb⟩:=h
 exact⟨⟨p,k1,k2,k3,v,sl,he,hs,fun y h=>(hy y h).1⟩,hb⟩
theorem FnExactPathLeaves_walk(w:World)(s:List UInt8)(hs:s.length<=maxLen)(d:List UInt8)(hd:d.length<=maxLen)(x:List UInt8)(hx:x.length<=maxLen):
  Calls prog 5 #[.string ⟨s.toArray⟩,.string ⟨d.toArray⟩,.string ⟨x.toArray⟩] w fun e w'=>e=.returned (.bool true)/\Below w.heap.size w w':=by
 by_cases h1:s.length<=1048576
 ·by_cases h2:d.length<=1048576
  ·by_cases h3:x.length<=1048576
   ·exact M0 w s d x (fun W=>Tb s d x W (Qhm s d x W (by omega) (by omega) (by omega)))
     (fun W=>So s d x W ((Qbf s d x W (by omega) (by omega) (by omega)).mono fun e w' h=>h.q)) h1 h2 h3
   have t3:1048576<x.length:=by omega
   go_enter func5,ntmps5
   go_wp2_with fail
   go_ret
   exact⟨rfl,Au _ _⟩
  have t2:1048576<d.length:=by omega
  go_enter func5,ntmps5
  go_wp2_with fail
  go_ret
  exact⟨rfl,Au _ _⟩
 have t1:1048576<s.length:=by omega
 go_enter func5,ntmps5
 go_wp2_with fail
 go_ret
 exact⟨rfl,Au _ _⟩
end
section
open Go.ChangeShapes Go.WideShapes Go.ChangeAt Go.RowKit
open Go.ChangeMaps (open_string shut_string)
theorem own:ownKnob prog.godebug=none:=aM
theorem laidOut:laidOutB prog=true:=aM
section
variable {H:Type} {enc:TypeId × Value->H} {W:World} {base:Nat} {v:Value} {d:DataW H} {ps:List MemPlace}
theorem arg_string(hv:Value.okWide prog W .any base 9 v)(h:DataW.Trod enc prog W 0 (fun _=>true) true 9 v d ps):
  ∃l:List UInt8,v=l/\l.length<=maxLen:=by
 obtain⟨s,rfl,_,_,hs⟩:=open_string underlying9 hv h;exact⟨s.data.toList,by simp,by simpa using hs⟩
end
end
end Go.Proofs.YtpjijpcemejlnaaGreatDoor
