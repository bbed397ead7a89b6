/- Texts joined. Conditions: as each theorem names them. -/
import Derived.Test.YtkgkoicedddkmaaGreatDoorRows
import Derived.ProofKit
import Derived.OpenShut
import Derived.ShutString
import Derived.ChangeOld
import Derived.SliceStrings
import Derived.Test.YtkgkoicedddkmaaGreatDoorC01
import Derived.Test.YtkgkoicedddkmaaGreatDoorC36
set_option maxRecDepth 100000
set_option maxHeartbeats 32000000
set_option linter.unusedVariables false
set_option linter.unusedSimpArgs false
namespace Go.Proofs.YtkgkoicedddkmaaGreatDoor
open Go.RowKit Go.Proofs.Tryz
section
attribute [local go_sem] Qii
theorem FnExactEvolveLift_walk(w:World)(a:List UInt8)(ha:a.length<=maxLen)(b:List UInt8)(hb:b.length<=maxLen)(c:List UInt8)(hc:c.length<=maxLen)(d:List UInt8)(hd:d.length<=maxLen)(e:List UInt8)(he:e.length<=maxLen):
  Calls prog 3 #[.string ⟨a.toArray⟩,.string ⟨b.toArray⟩,.string ⟨c.toArray⟩,.string ⟨d.toArray⟩,.string ⟨e.toArray⟩] w fun e w'=>e=.returned (.bool true)/\Below w.heap.size w w':=by
 unfold maxLen at ha hb hc hd he
 by_cases h0:a.length<=1048576
 rotate_left
 ·go_enter func3,ntmps3
  go_wp2_with fail
  go_ret
  exact⟨rfl,Aq _ _⟩
 by_cases h1:b.length<=1048576
 rotate_left
 ·go_enter func3,ntmps3
  go_wp2_with fail
  go_ret
  exact⟨rfl,Aq _ _⟩
 by_cases h2:c.length<=1048576
 rotate_left
 ·go_enter func3,ntmps3
  go_wp2_with fail
  go_ret
  exact⟨rfl,Aq _ _⟩
 by_cases h3:d.length<=1048576
 rotate_left
 ·go_enter func3,ntmps3
  go_wp2_with fail
  go_ret
  exact⟨rfl,Aq _ _⟩
 by_cases h4:e.length<=1048576
 rotate_left
 ·go_enter func3,ntmps3
  go_wp2_with fail
  go_ret
  exact⟨rfl,Aq _ _⟩
 have Hs:=Aa (fun W=>Qa9 a b c d e W (by omega) (by omega) (by omega) (by omega) (by omega))
 have Hi:=Aa (fun W=>Qan a b c d e W (by omega) (by omega) (by omega) (by omega) (by omega))
 unfold Yl at Hs Hi
 generalize Qhf (Fj (Bn a b) (Bn c d) e)=tx at *
 generalize (Fj (Bn a b) (Bn c d) e).isSome=ok at *
 go_enter func3,ntmps3
 go_wp2_with fail
 refine(Hs.o _).mono ?_
 rintro x w1 ⟨rfl,hb1⟩
 have Hb1:=Aa hb1
 clear hb1
 go_wp2_with fail
 refine(Hi.o _).mono ?_
 rintro x w2 ⟨rfl,hb2⟩
 have Hb2:=Aa hb2
 clear hb2
 go_wp2_with fail
 go_ret
 exact⟨rfl,Hb1.o.trans (Hb2.o.mono Hb1.o.size)⟩
end
section
open Go.ChangeShapes Go.WideShapes Go.ChangeAt Go.RowKit
open Go.ChangeMaps (open_string shut_string)
theorem own:ownKnob prog.godebug=none:=by kernel_rfl
theorem laidOut:laidOutB prog=true:=by kernel_rfl
section
variable {H:Type} {enc:TypeId × Value->H} {W:World} {base:Nat} {v:Value} {d:DataW H} {ps:List MemPlace}
theorem arg_string(hv:Value.okWide prog W .any base 9 v)(h:DataW.Trod enc prog W 0 (fun _=>true) true 9 v d ps):
  ∃l:List UInt8,v=.string ⟨l.toArray⟩/\l.length<=maxLen:=by
 obtain⟨s,rfl,_,_,hs⟩:=open_string underlying9 hv h
 exact⟨s.data.toList,by simp,by simpa using hs⟩
theorem arg_int(hv:Value.okWide prog W .any base 3 v)(h:DataW.Trod enc prog W 0 (fun _=>true) true 3 v d ps):
  ∃x:Int,v=.int .i64 x /\ -9223372036854775808<=x/\x<=9223372036854775807:=by
 obtain⟨x,rfl,_,_,w⟩:=open_int underlying3 hv h
 have hw:=w
 simp[Lit.wf,IntKind.min,IntKind.max,IntKind.signed,IntKind.bits]at hw
 exact⟨x,rfl,by omega,by omega⟩
end
end
section
attribute [local go_sem] Qii
def Qe6(o:Option (Vl × Bool))(x:List UInt8):Bool:=match o with|some r=>Bc r.1 != x|none=>false
theorem Qd7(o:Option (Vl × Bool))(x:List UInt8)(w:World):Pm o x w=fun e w'=>e=.returned (.tuple #[.bool (Qe6 o x),.bool o.isSome])/\Below w.heap.size w w':=by funext e w';unfold Pm Qe6;cases o<;>rfl
theorem FnExactEvolveLost_walk(w:World)(a:List UInt8)(ha:a.length<=maxLen)(b:List UInt8)(hb:b.length<=maxLen)(c:List UInt8)(hc:c.length<=maxLen)(d:List UInt8)(hd:d.length<=maxLen)(e:List UInt8)(he:e.length<=maxLen):
  Calls prog 4 #[.string ⟨a.toArray⟩,.string ⟨b.toArray⟩,.string ⟨c.toArray⟩,.string ⟨d.toArray⟩,.string ⟨e.toArray⟩] w fun e w'=>e=.returned (.bool true)/\Below w.heap.size w w':=by
 unfold maxLen at ha hb hc hd he
 by_cases h0:a.length<=1048576
 rotate_left
 ·go_enter func4,ntmps4
  go_wp2_with fail
  go_ret
  exact⟨rfl,Aq _ _⟩
 by_cases h1:b.length<=1048576
 rotate_left
 ·go_enter func4,ntmps4
  go_wp2_with fail
  go_ret
  exact⟨rfl,Aq _ _⟩
 by_cases h2:c.length<=1048576
 rotate_left
 ·go_enter func4,ntmps4
  go_wp2_with fail
  go_ret
  exact⟨rfl,Aq _ _⟩
 by_cases h3:d.length<=1048576
 rotate_left
 ·go_enter func4,ntmps4
  go_wp2_with fail
  go_ret
  exact⟨rfl,Aq _ _⟩
 by_cases h4:e.length<=1048576
 rotate_left
 ·go_enter func4,ntmps4
  go_wp2_with fail
  go_ret
  exact⟨rfl,Aq _ _⟩
 have Hs:=Aa (fun W=>Qaj a b c d e W (by omega) (by omega) (by omega) (by omega) (by omega))
 have Hi:=Aa (fun W=>Qbl a b c d e W (by omega) (by omega) (by omega) (by omega) (by omega))
 simp only[Qd7]at Hs Hi
 generalize Qe6 (Fj (Bn a b) (Bn c d) e) e=tx at *
 generalize (Fj (Bn a b) (Bn c d) e).isSome=ok at *
 go_enter func4,ntmps4
 go_wp2_with fail
 refine(Hs.o _).mono ?_
 rintro x w1 ⟨rfl,hb1⟩
 have Hb1:=Aa hb1
 clear hb1
 go_wp2_with fail
 refine(Hi.o _).mono ?_
 rintro x w2 ⟨rfl,hb2⟩
 have Hb2:=Aa hb2
 clear hb2
 go_wp2_with fail
 go_ret
 exact⟨rfl,Hb1.o.trans (Hb2.o.mono Hb1.o.size)⟩
end
end Go.Proofs.YtkgkoicedddkmaaGreatDoor
