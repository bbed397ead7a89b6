/- Texts joined. Conditions: as each theorem names them. -/
import Derived.Test.YtkigmebejmmikaaGreatDoorQ05
import Derived.Test.YtkigmebejmmikaaGreatDoorQ11
import Derived.Test.YtkigmebejmmikaaGreatDoorQ27
set_option maxRecDepth 100000
set_option maxHeartbeats 32000000
set_option linter.unusedVariables false
set_option linter.unusedSimpArgs false
namespace Go.Proofs.YtkigmebejmmikaaGreatDoor
open Go.RowKit Go.Proofs.Tryz
section
attribute [local go_sem] Qja Qit Qib Qgw ByteArray.mk_append_mk
theorem Qz.r{o:Option (List Ty × Kd)}{x:List UInt8}{w w':World}{e:Ending}(h:Qz o x w e w'):Qi4 o x w e w':=by
 obtain⟨⟨p,k1,k2,k3,v,sl,he,hs,hy⟩,hb⟩:=h
 refine⟨⟨p,k1,k2,k3,v,sl,he,hs,fun y h=>?_⟩,hb⟩
 obtain⟨h1,S,k,xs,h2,h3,h4,h5,h6,h7⟩:=hy y h
 exact⟨h1,S,k,xs,h2,h3,h4,h5,h6,h7.isc⟩
theorem Qd3{st:UInt8}{f:Fd}(h:Se st f):f.given.length<=14:=by
 by_cases hs:st=69
 ·rw[(h.2.2.2.1 hs).2];simp
 by_cases hg:f.given=[]
 ·rw[hg];simp
 have:=((h.2.2.2.2 hs).2 hg).2.2
 unfold Bv at this
 split at this
 ·split at this
  ·rename_i n hd
   have:=Bx.1 hd
   rw[this.2]
   have:=Ds 5 n (by have e:10 ^ (5+1)=1000000:=rfl;omega)
   omega
  cases this
 split at this
 ·simp only[Bool.and_eq_true,decide_eq_true_eq]at this
  have h4:=this.2
  unfold Dh at h4
  simp only[Bool.and_eq_true,decide_eq_true_eq,List.length_dropLast,List.length_drop]at h4
  omega
 split at this
 ·simp only[decide_eq_true_eq]at this;rw[this];simp
 cases this
end
end Go.Proofs.YtkigmebejmmikaaGreatDoor
