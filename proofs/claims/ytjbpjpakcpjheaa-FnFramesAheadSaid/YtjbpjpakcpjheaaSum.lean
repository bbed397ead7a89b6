/- The sums of bytes: the two loops of the program and of the reference compute one list function. -/
import Derived.Test.YtjbpjpakcpjheaaLib
import Derived.Test.YtjbpjpakcpjheaaFramesL
namespace Go.Proofs.Ytjbpjpakcpjheaa
open Go.RowKit

attribute [local go_sem] ba_get

set_option maxHeartbeats 400000 in
theorem l9Sum_any (l : List UInt8) (w : World) (hs : l.length ≤ maxLen) :
    Calls Try.prog 37 #[.string ⟨l.toArray⟩] w fun e w' => e = .returned (.int .i64 (sumL l)) ∧ w = w' := by
  unfold maxLen at hs
  go_enter Try.func37, Try.ntmps37
  go_wp2
  go_loop [3, 4] (fun n i => ∃ k : Nat, k ≤ l.length ∧ i = .int .i64 k ∧ n = .int .i64 (sumL (l.take k))) (fun _ i => l.length - (intOf i).toNat)
  case atStart => exact ⟨0, Nat.zero_le _, rfl, rfl⟩
  case round =>
    obtain ⟨k, hk, rfl, rfl⟩ := hrel
    have hd := sumL_lt (l.take k)
    by_cases hlt : k < l.length
    · have HS := Lib.hid (show sumL (l.take (k + 1)) = (sumL (l.take k) * 31 + (l[k]).toNat) % 9973 by rw [take_snoc l k hlt, sumL_snoc])
      have hc : (l[k]).toNat < 256 := (l[k]).toNat_lt
      go_wp2
      all_goals
        go_round
        case rel => exact ⟨k + 1, by omega, by go_num, by rw [HS.out]; go_num⟩
        case measure => simp [intOf]; omega
    · go_wp2
      go_ret
      exact ⟨ret_int (by rw [List.take_of_length_le (by omega)]), rfl⟩

set_option maxHeartbeats 400000 in
theorem sum_any (l : List UInt8) (w : World) (hs : l.length ≤ maxLen) :
    Calls Try.prog 38 #[.string ⟨l.toArray⟩] w fun e w' => e = .returned (.int .i64 (sumL l)) ∧ w = w' := by
  unfold maxLen at hs
  go_enter Try.func38, Try.ntmps38
  go_wp2
  go_loop [3, 7] (fun n i => ∃ k : Nat, k ≤ l.length ∧ i = .int .i64 k ∧ n = .int .i64 (sumL (l.take k))) (fun _ i => l.length - (intOf i).toNat)
  case atStart => exact ⟨0, Nat.zero_le _, rfl, rfl⟩
  case round =>
    obtain ⟨k, hk, rfl, rfl⟩ := hrel
    have hd := sumL_lt (l.take k)
    by_cases hlt : k < l.length
    · have HS := Lib.hid (show sumL (l.take (k + 1)) = (sumL (l.take k) * 31 + (l[k]).toNat) % 9973 by rw [take_snoc l k hlt, sumL_snoc])
      have hc : (l[k]).toNat < 256 := (l[k]).toNat_lt
      go_wp2
      all_goals
        go_round
        case rel => exact ⟨k + 1, by omega, by go_num, by rw [HS.out]; go_num⟩
        case measure => simp [intOf]; omega
    · go_wp2
      go_ret
      exact ⟨ret_int (by rw [List.take_of_length_le (by omega)]), rfl⟩

theorem specSumOf_any (l : List UInt8) (w : World) (hs : l.length ≤ maxLen) :
    Calls Try.prog 15 #[.string ⟨l.toArray⟩] w fun e w' => e = .returned (.int .i64 (if l.length ≤ 2000 then sumL l else -1)) ∧ w = w' := by
  have hm := hs
  unfold maxLen at hs
  by_cases h : l.length ≤ 2000
  all_goals
    go_enter Try.func15, Try.ntmps15
    go_wp2_with (go_at_call 37; refine (l9Sum_any _ _ hm).mono ?_; rintro e w' ⟨rfl, rfl⟩)
    go_ret
    exact ⟨by first | rfl | simp [h], rfl⟩

theorem implSumOf_any (l : List UInt8) (w : World) (hs : l.length ≤ maxLen) :
    Calls Try.prog 16 #[.string ⟨l.toArray⟩] w fun e w' => e = .returned (.int .i64 (if l.length ≤ 2000 then sumL l else -1)) ∧ w = w' := by
  have hm := hs
  unfold maxLen at hs
  by_cases h : l.length ≤ 2000
  all_goals
    go_enter Try.func16, Try.ntmps16
    go_wp2_with (go_at_call 38; refine (sum_any _ _ hm).mono ?_; rintro e w' ⟨rfl, rfl⟩)
    go_ret
    exact ⟨by first | rfl | simp [h], rfl⟩
end Go.Proofs.Ytjbpjpakcpjheaa
