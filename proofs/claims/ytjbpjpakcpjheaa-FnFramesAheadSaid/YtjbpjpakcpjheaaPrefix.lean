/- strings.HasPrefix: does a text begin with another one. -/
import Derived.Test.YtjbpjpakcpjheaaLib
namespace Go.Proofs.Ytjbpjpakcpjheaa
open Go.RowKit
set_option maxRecDepth 100000

attribute [local go_sem] ba_toList ba_extract take_drop_all

theorem isPrefixOf_take (s p : List UInt8) : (s.take p.length == p) = p.isPrefixOf s := by
  rw [Bool.eq_iff_iff, beq_iff_eq, List.isPrefixOf_iff_prefix, List.prefix_iff_eq_take]; exact eq_comm
theorem isPrefixOf_long (s p : List UInt8) (h : ¬ p.length ≤ s.length) : p.isPrefixOf s = false := by
  rw [Bool.eq_false_iff, Ne, List.isPrefixOf_iff_prefix]; intro hp; exact h hp.length_le

set_option maxHeartbeats 400000 in
theorem lhasPrefix_any (s p : List UInt8) (w : World) :
    Calls Try.prog 58 #[.string ⟨s.toArray⟩, .string ⟨p.toArray⟩] w fun e w' => e = .returned (.bool (p.isPrefixOf s)) ∧ w = w' := by
  by_cases h : p.length ≤ s.length
  · have HS := Lib.hid (isPrefixOf_take s p)
    go_enter Try.func58, Try.ntmps58
    go_wp2
    go_ret
    exact ⟨by rw [← HS.out]; rfl, rfl⟩
  · have HS := Lib.hid (isPrefixOf_long s p h)
    go_enter Try.func58, Try.ntmps58
    go_wp2
    go_ret
    exact ⟨by rw [HS.out]; rfl, rfl⟩

theorem hasPrefix_any (s p : List UInt8) (w : World) :
    Calls Try.prog 55 #[.string ⟨s.toArray⟩, .string ⟨p.toArray⟩] w fun e w' => e = .returned (.bool (p.isPrefixOf s)) ∧ w = w' := by
  go_enter Try.func55, Try.ntmps55
  go_wp2_with (go_at_call 58; refine (lhasPrefix_any s p _).mono ?_; rintro e w' ⟨rfl, rfl⟩)
  go_ret
  exact ⟨rfl, rfl⟩
end Go.Proofs.Ytjbpjpakcpjheaa
