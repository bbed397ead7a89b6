/- l6Many: a text n times. -/
import Derived.Test.YtjbpjpakcpjheaaLib2
namespace Go.Proofs.Ytjbpjpakcpjheaa
open Go.RowKit
set_option maxRecDepth 100000
set_option linter.unusedVariables false
attribute [local go_sem] ba_get ba_toList ba_extract take_drop_all ByteArray.mk_append_mk

theorem many_step (n a b c : Nat) (h : a + n * b = c) : (n % 2 = 1 → (a + b) + (n / 2) * (b + b) = c) ∧ (n % 2 = 0 → a + (n / 2) * (b + b) = c) := by
  obtain ⟨q, hq⟩ : ∃ q, q = n / 2 := ⟨_, rfl⟩
  refine ⟨fun h1 => ?_, fun h1 => ?_⟩
  · obtain rfl : n = 2 * q + 1 := by omega
    rw [← hq, ← h, Nat.mul_add, Nat.add_mul, Nat.mul_assoc]; omega
  · obtain rfl : n = 2 * q := by omega
    rw [← hq, ← h, Nat.mul_add, Nat.mul_assoc]; omega

set_option maxHeartbeats 1000000 in
theorem l6Many_any (s : List UInt8) (n : Nat) (w : World) (hs : s.length ≤ 1000) (hn : n ≤ 100000) :
    Calls Try.prog 44 #[.string ⟨s.toArray⟩, .int .i64 n] w fun e w' => (∃ l : List UInt8, e = .returned (.string ⟨l.toArray⟩) ∧ l.length = n * s.length) ∧ w = w' := by
  have hb : n * s.length ≤ 100000000 := Nat.mul_le_mul hn hs
  generalize hN : n * s.length = N at hb
  have HN := Lib.hid hN
  clear hN
  go_enter Try.func44, Try.ntmps44
  go_wp2
  go_loop [0, 1, 5] (fun t x o => ∃ (r out : List UInt8) (m : Nat), t = .string ⟨r.toArray⟩ ∧ x = .int .i64 m ∧ o = .string ⟨out.toArray⟩ ∧ Hid (out.length + m * r.length = N) ∧ out.length ≤ N ∧ r.length ≤ 2 * N + 2000 ∧ m ≤ n) (fun _ x _ => (intOf x).toNat)
  case atStart => exact ⟨s, [], n, rfl, rfl, rfl, by show _ = _; simpa using HN.out, by simp, by omega⟩
  case round =>
    obtain ⟨r, out, m, rfl, rfl, rfl, hinv, ho, hr, hmn⟩ := hrel
    by_cases hm : 0 < m
    · have hst := many_step m out.length r.length N hinv.out
      have hrN : r.length ≤ N := by
        have h1 : 1 * r.length ≤ m * r.length := Nat.mul_le_mul_right _ hm
        have := hinv.out
        omega
      have Hst := Lib.hid hst
      clear hst
      by_cases hodd : m % 2 = 1
      · have t1 : ((m : Int) % 2 == 1) = true := by simp; omega
        have Hodd := Lib.hid hodd
        clear hodd
        go_wp2
        go_round
        case rel =>
          refine ⟨r ++ r, out ++ r, m / 2, rfl, by go_num, rfl, ?_, ?_, ?_, by omega⟩
          · have := Hst.out.1 Hodd.out
            show _ = _
            rw [List.length_append, List.length_append]; exact this
          · have := Hst.out.1 Hodd.out
            have h0 : 0 ≤ m / 2 * (r.length + r.length) := Nat.zero_le _
            rw [List.length_append]; omega
          · rw [List.length_append]; omega
        case measure => simp [intOf]; omega
      · have t1 : ((m : Int) % 2 == 1) = false := by simp; omega
        have Hodd := Lib.hid (show m % 2 = 0 by omega)
        clear hodd
        go_wp2
        go_round
        case rel =>
          refine ⟨r ++ r, out, m / 2, rfl, by go_num, rfl, ?_, ho, ?_, by omega⟩
          · have := Hst.out.2 Hodd.out
            show _ = _
            rw [List.length_append]; exact this
          · rw [List.length_append]; omega
        case measure => simp [intOf]; omega
    · obtain rfl : m = 0 := by omega
      have hlen : out.length = N := by have := hinv.out; omega
      have Hlen := Lib.hid hlen
      clear hlen
      go_wp2
      go_ret
      exact ⟨⟨out, rfl, Hlen.out⟩, rfl⟩
end Go.Proofs.Ytjbpjpakcpjheaa
