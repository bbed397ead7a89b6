/- NumGet of the reference: the number at the beginning of bytes. -/
import Derived.Test.YtjbpjpakcpjheaaLib2
import Derived.Test.YtjbpjpakcpjheaaNumL
namespace Go.Proofs.Ytjbpjpakcpjheaa
open Go.RowKit
set_option maxRecDepth 100000
set_option linter.unusedVariables false
attribute [local go_sem] ba_get ba_toList ba_extract take_drop_all ByteArray.mk_append_mk

def ngV : Option (Nat × List UInt8) → Value
  | none => .tuple #[.int .i64 0, .string ⟨#[]⟩, .bool false]
  | some (n, r) => .tuple #[.int .i64 n, .string ⟨r.toArray⟩, .bool true]

set_option maxHeartbeats 1000000 in
theorem sNumGet_nil (w : World) :
    Calls Try.prog 60 #[.string ⟨([] : List UInt8).toArray⟩] w fun e w' => e = .returned (ngV (numGetL [])) ∧ ∃ k, w' = w.drewN k := by
  go_enter Try.func60, Try.ntmps60
  go_wp2
  refine wp_loop_rounds 1 ?_
  rw [rounds_succ]
  go_wp2
  go_ret3
  exact ⟨rfl, 0, rfl⟩

set_option maxHeartbeats 1000000 in
theorem sNumGet_1 (a : UInt8) (t : List UInt8) (w : World) (ha : a.toNat < 128) (hl : t.length < 9223372036854775800) :
    Calls Try.prog 60 #[.string ⟨(a :: t).toArray⟩] w fun e w' => e = .returned (ngV (some (a.toNat, t))) ∧ ∃ k, w' = w.drewN k := by
  go_enter Try.func60, Try.ntmps60
  go_wp2
  refine wp_loop_rounds 1 ?_
  rw [rounds_succ]
  go_wp2
  go_quiet (fail)
  go_wp2
  go_ret3
  exact ⟨ret3 (vint (by show (a.toNat : Int) % 128 = _; omega)) rfl rfl, _, rfl⟩

set_option maxHeartbeats 1000000 in
theorem sNumGet_2 (a : UInt8) (w : World) (ha : 128 ≤ a.toNat) :
    Calls Try.prog 60 #[.string ⟨([a]).toArray⟩] w fun e w' => e = .returned (ngV none) ∧ ∃ k, w' = w.drewN k := by
  have ha2 : a.toNat < 256 := a.toNat_lt
  go_enter Try.func60, Try.ntmps60
  go_wp2
  refine wp_loop_rounds 2 ?_
  rw [rounds_succ]
  go_wp2
  rw [rounds_succ]
  go_wp2
  go_ret3
  exact ⟨rfl, 0, rfl⟩

set_option maxHeartbeats 1000000 in
theorem sNumGet_3 (a b : UInt8) (t : List UInt8) (w : World) (ha : 128 ≤ a.toNat) (hb : b.toNat = 0) (hl : t.length < 9223372036854775800) :
    Calls Try.prog 60 #[.string ⟨(a :: b :: t).toArray⟩] w fun e w' => e = .returned (ngV none) ∧ ∃ k, w' = w.drewN k := by
  have ha2 : a.toNat < 256 := a.toNat_lt
  have hb0 : ((b.toNat : Int) == 0) = true := by simp [hb]
  have hb1 : b.toNat < 128 := by omega
  clear hb
  go_enter Try.func60, Try.ntmps60
  go_wp2
  refine wp_loop_rounds 2 ?_
  rw [rounds_succ]
  go_wp2
  rw [rounds_succ]
  go_wp2
  go_ret3
  exact ⟨rfl, 0, rfl⟩

set_option maxHeartbeats 1000000 in
theorem sNumGet_4 (a b : UInt8) (t : List UInt8) (w : World) (ha : 128 ≤ a.toNat) (hb : b.toNat < 128) (hb1 : 0 < b.toNat) (hl : t.length < 9223372036854775800) :
    Calls Try.prog 60 #[.string ⟨(a :: b :: t).toArray⟩] w fun e w' => e = .returned (ngV (some (a.toNat % 128 + b.toNat * 128, t))) ∧ ∃ k, w' = w.drewN k := by
  have ha2 : a.toNat < 256 := a.toNat_lt
  have hb0 : ((b.toNat : Int) == 0) = false := by simp; omega
  go_enter Try.func60, Try.ntmps60
  go_wp2
  refine wp_loop_rounds 2 ?_
  rw [rounds_succ]
  go_wp2
  rw [rounds_succ]
  go_wp2
  go_quiet (fail)
  go_wp2
  go_ret3
  exact ⟨ret3 (vint (by show (a.toNat : Int) % 128 + (b.toNat : Int) % 128 * 128 = _; omega)) rfl rfl, _, rfl⟩

set_option maxHeartbeats 1000000 in
theorem sNumGet_5 (a b : UInt8) (w : World) (ha : 128 ≤ a.toNat) (hb : 128 ≤ b.toNat) :
    Calls Try.prog 60 #[.string ⟨([a, b]).toArray⟩] w fun e w' => e = .returned (ngV none) ∧ ∃ k, w' = w.drewN k := by
  have ha2 : a.toNat < 256 := a.toNat_lt
  have hb2 : b.toNat < 256 := b.toNat_lt
  go_enter Try.func60, Try.ntmps60
  go_wp2
  refine wp_loop_rounds 3 ?_
  rw [rounds_succ]
  go_wp2
  rw [rounds_succ]
  go_wp2
  rw [rounds_succ]
  go_wp2
  go_ret3
  exact ⟨rfl, 0, rfl⟩

set_option maxHeartbeats 1000000 in
theorem sNumGet_6 (a b c : UInt8) (t : List UInt8) (w : World) (ha : 128 ≤ a.toNat) (hb : 128 ≤ b.toNat) (hc : c.toNat = 0) (hl : t.length < 9223372036854775800) :
    Calls Try.prog 60 #[.string ⟨(a :: b :: c :: t).toArray⟩] w fun e w' => e = .returned (ngV none) ∧ ∃ k, w' = w.drewN k := by
  have ha2 : a.toNat < 256 := a.toNat_lt
  have hb2 : b.toNat < 256 := b.toNat_lt
  have hb0 : ((c.toNat : Int) == 0) = true := by simp [hc]
  have hb1 : c.toNat < 128 := by omega
  clear hc
  go_enter Try.func60, Try.ntmps60
  go_wp2
  refine wp_loop_rounds 3 ?_
  rw [rounds_succ]
  go_wp2
  rw [rounds_succ]
  go_wp2
  rw [rounds_succ]
  go_wp2
  go_ret3
  exact ⟨rfl, 0, rfl⟩

set_option maxHeartbeats 1000000 in
theorem sNumGet_7 (a b c : UInt8) (t : List UInt8) (w : World) (ha : 128 ≤ a.toNat) (hb : 128 ≤ b.toNat) (hc : c.toNat < 128) (hc1 : 0 < c.toNat) (hn : 999999 < a.toNat % 128 + b.toNat % 128 * 128 + c.toNat * 16384) (hl : t.length < 9223372036854775800) :
    Calls Try.prog 60 #[.string ⟨(a :: b :: c :: t).toArray⟩] w fun e w' => e = .returned (ngV none) ∧ ∃ k, w' = w.drewN k := by
  have ha2 : a.toNat < 256 := a.toNat_lt
  have hb2 : b.toNat < 256 := b.toNat_lt
  have hb0 : ((c.toNat : Int) == 0) = false := by simp; omega
  go_enter Try.func60, Try.ntmps60
  go_wp2
  refine wp_loop_rounds 3 ?_
  rw [rounds_succ]
  go_wp2
  rw [rounds_succ]
  go_wp2
  rw [rounds_succ]
  go_wp2
  go_ret3
  exact ⟨rfl, 0, rfl⟩

set_option maxHeartbeats 1000000 in
theorem sNumGet_8 (a b c : UInt8) (t : List UInt8) (w : World) (ha : 128 ≤ a.toNat) (hb : 128 ≤ b.toNat) (hc : c.toNat < 128) (hc1 : 0 < c.toNat) (hn : a.toNat % 128 + b.toNat % 128 * 128 + c.toNat * 16384 ≤ 999999) (hl : t.length < 9223372036854775800) :
    Calls Try.prog 60 #[.string ⟨(a :: b :: c :: t).toArray⟩] w fun e w' => e = .returned (ngV (some (a.toNat % 128 + b.toNat % 128 * 128 + c.toNat * 16384, t))) ∧ ∃ k, w' = w.drewN k := by
  have ha2 : a.toNat < 256 := a.toNat_lt
  have hb2 : b.toNat < 256 := b.toNat_lt
  have hb0 : ((c.toNat : Int) == 0) = false := by simp; omega
  go_enter Try.func60, Try.ntmps60
  go_wp2
  refine wp_loop_rounds 3 ?_
  rw [rounds_succ]
  go_wp2
  rw [rounds_succ]
  go_wp2
  rw [rounds_succ]
  go_wp2
  go_quiet (fail)
  go_wp2
  go_ret3
  exact ⟨ret3 (vint (by show (a.toNat : Int) % 128 + (b.toNat : Int) % 128 * 128 + (c.toNat : Int) % 128 * 16384 = _; omega)) rfl rfl, _, rfl⟩

set_option maxHeartbeats 1000000 in
theorem sNumGet_9 (a b c : UInt8) (t : List UInt8) (w : World) (ha : 128 ≤ a.toNat) (hb : 128 ≤ b.toNat) (hc : 128 ≤ c.toNat) (hl : t.length < 9223372036854775800) :
    Calls Try.prog 60 #[.string ⟨(a :: b :: c :: t).toArray⟩] w fun e w' => e = .returned (ngV none) ∧ ∃ k, w' = w.drewN k := by
  have ha2 : a.toNat < 256 := a.toNat_lt
  have hb2 : b.toNat < 256 := b.toNat_lt
  have hc2 : c.toNat < 256 := c.toNat_lt
  go_enter Try.func60, Try.ntmps60
  go_wp2
  refine wp_loop_rounds 4 ?_
  rw [rounds_succ]
  go_wp2
  rw [rounds_succ]
  go_wp2
  rw [rounds_succ]
  go_wp2
  rw [rounds_succ]
  go_wp2
  all_goals
    go_ret3
    exact ⟨rfl, 0, rfl⟩

theorem sNumGet_any (s : List UInt8) (w : World) (hl : s.length ≤ 9223372036854775800) :
    Calls Try.prog 60 #[.string ⟨s.toArray⟩] w fun e w' => e = .returned (ngV (numGetL s)) ∧ ∃ k, w' = w.drewN k := by
  rcases s with _ | ⟨a, t⟩
  · exact sNumGet_nil w
  · have hl' : t.length < 9223372036854775800 := by simp at hl; omega
    by_cases ha : a.toNat < 128
    · have e : numGetL (a :: t) = some (a.toNat, t) := by simp [numGetL, ha]
      rw [e]; exact sNumGet_1 a t w ha hl'
    · rcases t with _ | ⟨b, u⟩
      · have e : numGetL [a] = none := by simp [numGetL, ha]
        rw [e]; exact sNumGet_2 a w (by omega)
      · have hl2 : u.length < 9223372036854775800 := by simp at hl'; omega
        by_cases hb : b.toNat < 128
        · by_cases hb0 : b.toNat = 0
          · have e : numGetL (a :: b :: u) = none := by simp [numGetL, ha, hb0]
            rw [e]; exact sNumGet_3 a b u w (by omega) hb0 hl2
          · have e : numGetL (a :: b :: u) = some (a.toNat % 128 + b.toNat * 128, u) := by simp [numGetL, ha, hb, hb0]
            rw [e]; exact sNumGet_4 a b u w (by omega) hb (by omega) hl2
        · rcases u with _ | ⟨c, v⟩
          · have e : numGetL [a, b] = none := by simp [numGetL, ha, hb]
            rw [e]; exact sNumGet_5 a b w (by omega) (by omega)
          · have hl3 : v.length < 9223372036854775800 := by simp at hl2; omega
            by_cases hc : c.toNat < 128
            · by_cases hc0 : c.toNat = 0
              · have e : numGetL (a :: b :: c :: v) = none := by simp [numGetL, ha, hb, hc0]
                rw [e]; exact sNumGet_6 a b c v w (by omega) (by omega) hc0 hl3
              · by_cases hn : 999999 < a.toNat % 128 + b.toNat % 128 * 128 + c.toNat * 16384
                · have e : numGetL (a :: b :: c :: v) = none := by simp [numGetL, ha, hb, hc, hn]
                  rw [e]; exact sNumGet_7 a b c v w (by omega) (by omega) hc (by omega) hn hl3
                · have e : numGetL (a :: b :: c :: v) = some (a.toNat % 128 + b.toNat % 128 * 128 + c.toNat * 16384, v) := by simp [numGetL, ha, hb, hc, hc0, hn]
                  rw [e]; exact sNumGet_8 a b c v w (by omega) (by omega) hc (by omega) (by omega) hl3
            · have e : numGetL (a :: b :: c :: v) = none := by simp [numGetL, ha, hb, hc]
              rw [e]; exact sNumGet_9 a b c v w (by omega) (by omega) (by omega) hl3
end Go.Proofs.Ytjbpjpakcpjheaa
