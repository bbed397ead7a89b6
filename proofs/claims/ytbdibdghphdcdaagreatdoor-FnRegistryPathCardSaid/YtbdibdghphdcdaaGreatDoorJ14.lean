/- Texts joined. Conditions: as each theorem names them. -/
import Derived.BigRegion
import Derived.BigQuiet
import Derived.Test.YtbdibdghphdcdaaGreatDoorJ11
set_option maxRecDepth 100000
set_option maxHeartbeats 32000000
set_option linter.unusedVariables false
set_option linter.unusedSimpArgs false
namespace Go.Proofs.YtbdibdghphdcdaaGreatDoor
open Go.RowKit Go.Proofs.Tryz
section
attribute [local go_sem] Qo7 Qok Qoa Ql9 ByteArray.mk_append_mk
inductive Zk69|z
instance:Coe Zk69 UInt8:=⟨fun _=>69⟩
instance:Coe Zk69 Int:=⟨fun _=>69⟩
namespace F69
def zc:Zk69:=.z
theorem _root_.Go.Proofs.YtbdibdghphdcdaaGreatDoor.sType_full69(s:List UInt8)(nm u:List UInt8)(w:World)(hs:s.length<=1000)(h:s=(69::nm)++61::u)(hp:61∉69::nm)(hnm:Bh nm=true)(hu:u≠[]):
  Calls prog 70 #[s] w (Ec (Dx s) w):=
 stF
end F69
end
end Go.Proofs.YtbdibdghphdcdaaGreatDoor
