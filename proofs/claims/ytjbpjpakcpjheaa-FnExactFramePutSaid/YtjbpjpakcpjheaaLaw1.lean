/- The walks of the laws on sums and on one frame: program and reference return the same. -/
import Derived.Test.YtjbpjpakcpjheaaFrame2
namespace Go.Proofs.Ytjbpjpakcpjheaa
open Go.RowKit
set_option maxRecDepth 100000
set_option linter.unusedVariables false
attribute [local go_sem] ba_toList

theorem FnExactSumOf_walk (w : World) (l : List UInt8) (hl : l.length ≤ maxLen) :
    Calls Try.prog 3 #[.string ⟨l.toArray⟩] w fun e w' => e = .returned (.bool true) ∧ Below w.heap.size w w' := by
  by_cases h : l.length ≤ 1048576
  · go_enter Try.func3, Try.ntmps3
    go_wp2_with (first
      | (go_at_call 15; refine (specSumOf_any _ _ hl).mono ?_; rintro e w' ⟨rfl, rfl⟩)
      | (go_at_call 16; refine (implSumOf_any _ _ hl).mono ?_; rintro e w' ⟨rfl, rfl⟩))
    all_goals
      go_ret
      exact ⟨rfl, Below.refl _ _⟩
  · go_enter Try.func3, Try.ntmps3
    go_wp2_with fail
    go_ret
    exact ⟨rfl, Below.refl _ _⟩

theorem FnExactFramePut_walk (w : World) (l : List UInt8) (hl : l.length ≤ maxLen) :
    Calls Try.prog 4 #[.string ⟨l.toArray⟩] w fun e w' => e = .returned (.bool true) ∧ Below w.heap.size w w' := by
  by_cases h : l.length ≤ 1048576
  · by_cases h2 : l.length ≤ 100
    · go_enter Try.func4, Try.ntmps4
      go_wp2_with (first
        | (go_at_call 17; refine (specFramePut_any _ _ h2).mono ?_; rintro e w1 ⟨rfl, hb1⟩)
        | (go_at_call 18; refine (implFramePut_any _ _ h2).mono ?_; rintro e w2 ⟨rfl, hb2⟩))
      go_ret
      exact ⟨rfl, hb1.trans (hb2.mono hb1.size)⟩
    · have h3 : 100 < l.length := by omega
      go_enter Try.func4, Try.ntmps4
      go_wp2_with (first
        | (go_at_call 17; refine (specFramePut_no _ _ h3).mono ?_; rintro e w1 ⟨rfl, rfl⟩)
        | (go_at_call 18; refine (implFramePut_no _ _ h3).mono ?_; rintro e w2 ⟨rfl, rfl⟩))
      go_ret
      exact ⟨rfl, Below.refl _ _⟩
  · go_enter Try.func4, Try.ntmps4
    go_wp2_with fail
    go_ret
    exact ⟨rfl, Below.refl _ _⟩
end Go.Proofs.Ytjbpjpakcpjheaa
