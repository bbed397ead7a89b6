/- Texts joined. Conditions: as each theorem names them. -/
import Derived.BigRegion
import Derived.BigQuiet
import Derived.Test.YtmmhmlmfhpfgbaaGreatDoorF09
set_option maxRecDepth 100000
set_option maxHeartbeats 32000000
set_option linter.unusedVariables false
set_option linter.unusedSimpArgs false
namespace Go.Proofs.YtmmhmlmfhpfgbaaGreatDoor
open Go.RowKit Go.Proofs.Tryz
section
attribute [local go_sem] Qoe Qnf Qmu Qk2 ByteArray.mk_append_mk
inductive Zk82|z
instance:Coe Zk82 UInt8:=⟨fun _=>82⟩
instance:Coe Zk82 Int:=⟨fun _=>82⟩
namespace F82
def zc:Zk82:=.z
theorem _root_.Go.Proofs.YtmmhmlmfhpfgbaaGreatDoor.sType_full82(s:List UInt8)(nm u:List UInt8)(w:World)(hs:s.length<=1000)(h:s=(82::nm)++61::u)(hp:61∉82::nm)(hnm:Be nm=true)(hu:u≠[]):
  Calls prog 150 #[s] w (D2 (Dr s) w):=
 stF
end F82
end
end Go.Proofs.YtmmhmlmfhpfgbaaGreatDoor
