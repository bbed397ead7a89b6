/- The reference's reading of one frame: l9Part, l9Head. -/
import Derived.Test.YtjbpjpakcpjheaaFrame2
import Derived.Test.YtjbpjpakcpjheaaFramesL2
import Derived.Test.YtjbpjpakcpjheaaNumGet
import Derived.Test.YtjbpjpakcpjheaaPrefix
namespace Go.Proofs.Ytjbpjpakcpjheaa
open Go.RowKit
set_option maxRecDepth 100000
set_option linter.unusedVariables false
attribute [local go_sem] ba_get ba_toList ba_extract take_drop_all ByteArray.mk_append_mk

set_option maxHeartbeats 1000000 in
theorem l9Grows_nil (w : World) :
    Calls Try.prog 61 #[.string ⟨([] : List UInt8).toArray⟩, .int .i64 100] w fun e w' => e = .returned (.bool true) ∧ w = w' := by
  go_enter Try.func61, Try.ntmps61
  go_wp2
  refine wp_loop_rounds 1 ?_
  rw [rounds_succ]
  go_wp2
  go_ret
  exact ⟨rfl, rfl⟩
set_option maxHeartbeats 1000000 in
theorem l9Grows_one (a : UInt8) (w : World) :
    Calls Try.prog 61 #[.string ⟨[a].toArray⟩, .int .i64 100] w fun e w' => e = .returned (.bool false) ∧ w = w' := by
  have ha2 : a.toNat < 256 := a.toNat_lt
  have t1 : ¬ (((a.toNat : Int) % 128) + 128 ≤ 100) := by omega
  go_enter Try.func61, Try.ntmps61
  go_wp2
  refine wp_loop_rounds 2 ?_
  rw [rounds_succ]
  go_wp2
  rw [rounds_succ]
  go_wp2
  go_ret
  exact ⟨ret1 (vbool (by simp; omega)), rfl⟩
set_option maxHeartbeats 1000000 in
theorem l9Grows_two (a b : UInt8) (w : World) :
    Calls Try.prog 61 #[.string ⟨[a, b].toArray⟩, .int .i64 100] w fun e w' => e = .returned (.bool false) ∧ w = w' := by
  have ha2 : a.toNat < 256 := a.toNat_lt
  have hb2 : b.toNat < 256 := b.toNat_lt
  go_enter Try.func61, Try.ntmps61
  go_wp2
  refine wp_loop_rounds 3 ?_
  rw [rounds_succ]
  go_wp2
  rw [rounds_succ]
  go_wp2
  rw [rounds_succ]
  go_wp2
  go_ret
  exact ⟨ret1 (vbool (by simp; omega)), rfl⟩

/-- What l9Part returns at the limit 100. -/
def partV (s : List UInt8) : Value :=
  match numGetL s with
  | some (n, r) => .tuple #[.int .i64 n, .string ⟨r.toArray⟩, .bool (decide (n ≤ 100)), .bool (decide (n ≤ 100))]
  | none => .tuple #[.int .i64 0, .string ⟨s.toArray⟩, .bool false, .bool (decide (s = []))]

set_option maxHeartbeats 2000000 in
theorem l9Part_any (s : List UInt8) (w : World) (hl : s.length ≤ 9223372036854775800) :
    Calls Try.prog 59 #[.string ⟨s.toArray⟩, .int .i64 100] w fun e w' => e = .returned (partV s) ∧ ∃ k, w' = w.drewN k := by
  have HP := Lib.hid (show partV s = _ by unfold partV; rfl)
  have hcall := fun W => sNumGet_any s W hl
  cases hn : numGetL s with
  | some p =>
    obtain ⟨n, r⟩ := p
    have hb := (numGetL_len hn).1
    simp only [hn, ngV] at hcall HP
    have Hcall := Lib.hid hcall
    clear hcall hn
    go_enter Try.func59, Try.ntmps59
    go_wp2_with (go_at_call 60; refine (Hcall.out _).mono ?_; rintro e w' ⟨rfl, k, rfl⟩)
    refine bodyPost_ret (results_four rfl _ _ _) rfl ?_
    exact ⟨by rw [HP.out]; exact ret4 rfl rfl (vbool (by simp; omega)) (vbool (by simp; omega)), k, rfl⟩
  | none =>
    simp only [hn, ngV] at hcall HP
    have Hcall := Lib.hid hcall
    clear hcall
    rcases s with _ | ⟨a, _ | ⟨b, _ | ⟨c, t⟩⟩⟩
    · clear hn
      go_enter Try.func59, Try.ntmps59
      go_wp2_with (go_at_call 60; refine (Hcall.out _).mono ?_; rintro e w' ⟨rfl, k, rfl⟩)
      refine wp_loop_rounds 1 ?_
      rw [rounds_succ]
      go_wp2_with (go_at_call 61; refine (l9Grows_nil _).mono ?_; rintro e w' ⟨rfl, rfl⟩)
      refine bodyPost_ret (results_four rfl _ _ _) rfl ?_
      exact ⟨by rw [HP.out]; exact ret4 rfl rfl rfl rfl, k, rfl⟩
    · have ha : 128 ≤ a.toNat := by
        rcases Nat.lt_or_ge a.toNat 128 with h | h
        · simp [numGetL, h] at hn
        · exact h
      clear hn
      go_enter Try.func59, Try.ntmps59
      go_wp2_with (go_at_call 60; refine (Hcall.out _).mono ?_; rintro e w' ⟨rfl, k, rfl⟩)
      refine wp_loop_rounds 2 ?_
      rw [rounds_succ]
      go_wp2_with fail
      rw [rounds_succ]
      go_wp2_with (go_at_call 61; refine (l9Grows_one a _).mono ?_; rintro e w' ⟨rfl, rfl⟩)
      refine bodyPost_ret (results_four rfl _ _ _) rfl ?_
      exact ⟨by rw [HP.out]; exact ret4 rfl rfl rfl rfl, k, rfl⟩
    · have ha : 128 ≤ a.toNat := by
        rcases Nat.lt_or_ge a.toNat 128 with h | h
        · simp [numGetL, h] at hn
        · exact h
      clear hn
      by_cases hb : b.toNat < 128
      · go_enter Try.func59, Try.ntmps59
        go_wp2_with (go_at_call 60; refine (Hcall.out _).mono ?_; rintro e w' ⟨rfl, k, rfl⟩)
        refine wp_loop_rounds 2 ?_
        rw [rounds_succ]
        go_wp2_with fail
        rw [rounds_succ]
        go_wp2_with fail
        refine bodyPost_ret (results_four rfl _ _ _) rfl ?_
        exact ⟨by rw [HP.out]; exact ret4 rfl rfl rfl rfl, k, rfl⟩
      · go_enter Try.func59, Try.ntmps59
        go_wp2_with (go_at_call 60; refine (Hcall.out _).mono ?_; rintro e w' ⟨rfl, k, rfl⟩)
        refine wp_loop_rounds 3 ?_
        rw [rounds_succ]
        go_wp2_with fail
        rw [rounds_succ]
        go_wp2_with fail
        rw [rounds_succ]
        go_wp2_with (go_at_call 61; refine (l9Grows_two a b _).mono ?_; rintro e w' ⟨rfl, rfl⟩)
        refine bodyPost_ret (results_four rfl _ _ _) rfl ?_
        exact ⟨by rw [HP.out]; exact ret4 rfl rfl rfl rfl, k, rfl⟩
    · clear hn
      go_enter Try.func59, Try.ntmps59
      go_wp2_with (go_at_call 60; refine (Hcall.out _).mono ?_; rintro e w' ⟨rfl, k, rfl⟩)
      refine bodyPost_ret (results_four rfl _ _ _) rfl ?_
      exact ⟨by rw [HP.out]; exact ret4 rfl rfl rfl rfl, k, rfl⟩
end Go.Proofs.Ytjbpjpakcpjheaa
