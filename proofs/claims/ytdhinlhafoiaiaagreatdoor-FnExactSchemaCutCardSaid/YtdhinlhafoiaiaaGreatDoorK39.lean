/- Texts joined: LawG5. Conditions: as each theorem names them. -/
import Derived.Test.YtdhinlhafoiaiaaGreatDoorK38
/- The walk of the law on SchemaCut: program and reference return the same. -/
namespace Go.Proofs.YtdhinlhafoiaiaaGreatDoor
open Go.RowKit
set_option maxRecDepth 100000
set_option linter.unusedVariables false
set_option linter.unusedSimpArgs false
attribute [local go_sem] ba_toList

set_option maxHeartbeats 1000000 in
theorem FnExactSchemaCut_walk (w : World) (s : List UInt8) (hs : s.length ≤ maxLen) (d : List UInt8) (hd : d.length ≤ maxLen) :
    Calls Tryz.prog 10 #[.string ⟨s.toArray⟩, .string ⟨d.toArray⟩] w fun e w' => e = .returned (.bool true) ∧ Below w.heap.size w w' := by
  unfold maxLen at hs hd
  by_cases h1 : s.length ≤ 1048576
  · by_cases h2 : d.length ≤ 1048576
    · have Hs := Lib.hid (fun W => sCut_any s d W (by omega) (by omega))
      have Hi := Lib.hid (fun W => iCut_any s d W (by omega) (by omega))
      unfold CtPost at Hs Hi
      generalize cutL' (bothL s d) = o at *
      cases o
      all_goals
        simp only [cutVal] at Hs Hi
        go_enter Tryz.func10, Tryz.ntmps10
        go_wp2_with fail
        refine (Hs.out _).mono ?_
        rintro e w1 ⟨rfl, hb1⟩
        have Hb1 := Lib.hid hb1
        clear hb1
        go_wp2_with fail
        refine (Hi.out _).mono ?_
        rintro e w2 ⟨rfl, hb2⟩
        have Hb2 := Lib.hid hb2
        clear hb2
        go_wp2_with fail
        go_ret
        exact ⟨rfl, Hb1.out.trans (Hb2.out.mono Hb1.out.size)⟩
    · go_enter Tryz.func10, Tryz.ntmps10
      go_wp2_with fail
      go_ret
      exact ⟨rfl, Below.refl _ _⟩
  · go_enter Tryz.func10, Tryz.ntmps10
    go_wp2_with fail
    go_ret
    exact ⟨rfl, Below.refl _ _⟩
end Go.Proofs.YtdhinlhafoiaiaaGreatDoor
