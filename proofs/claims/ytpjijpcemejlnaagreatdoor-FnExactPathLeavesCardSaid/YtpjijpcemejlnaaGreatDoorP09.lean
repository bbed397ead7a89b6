/- Texts joined. Conditions: as each theorem names them. -/
import Derived.Test.YtpjijpcemejlnaaGreatDoorP06
set_option maxRecDepth 100000
set_option maxHeartbeats 32000000
set_option linter.unusedVariables false
set_option linter.unusedSimpArgs false
namespace Go.Proofs.YtpjijpcemejlnaaGreatDoor
open Go.RowKit Go.Proofs.Tryz
def Mp(o:Option (List Ty × Kd))(x:List UInt8):Option Vl:=match o with
 |some y=>Kk y.1 y.2 x
 |none=>none
theorem Qn{s d x:List UInt8}{v:Vl}(h:Mp (C4 s d) x=some v):∃S k,C4 s d=some (S,k)/\Pz S/\Da k/\Cb S k/\Bp k=d/\J9 S 12 k v/\Bg v=x/\x.length<=400:=by
 cases hb:C4 s d with
 |none=>rw[hb]at h;cases h
 |some y=>
  obtain⟨S,k⟩:=y
  rw[hb]at h
  obtain⟨g1,_,_,g4,g5,g6⟩:=Pd hb
  obtain⟨h1,h2,h3⟩:=(Kg g1.1.1 g4).1 h
  exact⟨S,k,rfl,g1,g4,g6,g5,h1,h2,h3⟩
end Go.Proofs.YtpjijpcemejlnaaGreatDoor
