/- Texts joined. Conditions: as each theorem names them. -/
import Derived.BigRegion
import Derived.BigQuiet
import Derived.Test.YtmmhmlmfhpfgbaaGreatDoorF09
set_option maxRecDepth 100000
set_option maxHeartbeats 32000000
set_option linter.unusedVariables false
set_option linter.unusedSimpArgs false
namespace Go.Proofs.YtmmhmlmfhpfgbaaGreatDoor
open Go.RowKit Go.Proofs.Tryz
section
attribute [local go_sem] Qoe Qnf Qmu Qk2 ByteArray.mk_append_mk
inductive Zk69|z
instance:Coe Zk69 UInt8:=⟨fun _=>69⟩
instance:Coe Zk69 Int:=⟨fun _=>69⟩
namespace F69
def zc:Zk69:=.z
theorem _root_.Go.Proofs.YtmmhmlmfhpfgbaaGreatDoor.sType_full69(s:List UInt8)(nm u:List UInt8)(w:World)(hs:s.length<=1000)(h:s=(69::nm)++61::u)(hp:61∉69::nm)(hnm:Be nm=true)(hu:u≠[]):
  Calls prog 150 #[s] w (D2 (Dr s) w):=
 stF
end F69
end
end Go.Proofs.YtmmhmlmfhpfgbaaGreatDoor
