/- szStringS: how much room a slice of texts leaves; -1 where there is none. -/
import Derived.Test.YtjbpjpakcpjheaaLib2
namespace Go.Proofs.Ytjbpjpakcpjheaa
open Go.RowKit
set_option maxRecDepth 100000
set_option linter.unusedVariables false
attribute [local go_sem] ba_get ba_toList ba_extract take_drop_all ByteArray.mk_append_mk

def sumLen (ls : List (List UInt8)) : Nat := (ls.map List.length).sum
theorem sumLen_snoc (ls : List (List UInt8)) (b : List UInt8) : sumLen (ls ++ [b]) = sumLen ls + b.length := by simp [sumLen]

set_option maxHeartbeats 1000000 in
theorem szStringS_any (A : Option Addr) (n c left : Nat) (ls : List (List UInt8)) (w : World) (h : RowAt w A n (scells ls)) (hs : ∀ s ∈ ls, s.length ≤ maxLen) (hleft : left ≤ 1048576) :
    Calls Try.prog 20 #[.slice A n c, .int .i64 left] w fun e w' => (∃ x : Int, e = .returned (.int .i64 x) ∧ -1 ≤ x ∧ x ≤ left ∧ (0 ≤ x → n + sumLen ls + x = left)) ∧ w = w' := by
  have hl : ls.length = n := by have := h.1; simpa [scells] using this
  have hn63 : n ≤ 9223372036854775807 := by have := h.2.1; unfold maxLen at this; omega
  by_cases hn : n ≤ left
  · go_enter Try.func20, Try.ntmps20
    go_wp2
    go_loop [1, 5] (fun x i => ∃ k : Nat, i = .int .i64 k ∧ k ≤ n ∧ ∃ y : Nat, x = .int .i64 y ∧ n + sumLen (ls.take k) + y = left) (fun _ i => n - (intOf i).toNat)
    case atStart => exact ⟨0, rfl, Nat.zero_le _, left - n, vint (by omega), by simp [sumLen]; omega⟩
    case round =>
      obtain ⟨k, rfl, hk, y, rfl, hy⟩ := hrel
      by_cases hlt : k < n
      · obtain ⟨b, o, rfl, hbl, hc⟩ := h.at_ hlt
        have hx : w.cell? ⟨b, o + k, none⟩ = some (.string ⟨(ls[k]'(by omega)).toArray⟩) := by rw [hc]; simp [scells]
        have hsn := sumLen_snoc (ls.take k) (ls[k]'(by omega))
        rw [← take_snoc ls k (by omega)] at hsn
        have hm := hs (ls[k]'(by omega)) (List.getElem_mem (by omega))
        unfold maxLen at hm
        generalize ls[k]'(show k < ls.length by omega) = s at hx hsn hm
        have Hsn := Lib.hid hsn
        have Hy := Lib.hid hy
        have hy2 : y ≤ left := by omega
        clear hc hsn hy
        by_cases hfit : s.length ≤ y
        · go_wp2_with fail
          go_round
          case rel => exact ⟨k + 1, by go_num, by omega, y - s.length, vint (by omega), by have := Hsn.out; have := Hy.out; omega⟩
          case measure => simp [intOf]; omega
        · go_wp2_with fail
          go_ret
          exact ⟨⟨-1, rfl, by omega, by omega, fun h => absurd h (by omega)⟩, rfl⟩
      · have e : ls.take k = ls := List.take_of_length_le (by omega)
        rw [e] at hy
        have Hy := Lib.hid hy
        have hy2 : y ≤ left := by omega
        clear hy e
        go_wp2_with fail
        go_ret
        exact ⟨⟨y, rfl, by omega, by omega, fun _ => by have := Hy.out; omega⟩, rfl⟩
  · go_enter Try.func20, Try.ntmps20
    go_wp2_with fail
    go_ret
    exact ⟨⟨-1, rfl, by omega, by omega, fun h => absurd h (by omega)⟩, rfl⟩
end Go.Proofs.Ytjbpjpakcpjheaa
