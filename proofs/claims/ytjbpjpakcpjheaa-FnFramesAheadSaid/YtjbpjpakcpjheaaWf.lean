/- Two slices of texts are compared: the laws' own helpers. -/
import Derived.Test.YtjbpjpakcpjheaaLib2
namespace Go.Proofs.Ytjbpjpakcpjheaa
open Go.RowKit
set_option maxRecDepth 100000
set_option linter.unusedVariables false
attribute [local go_sem] ba_get ba_toList ba_extract take_drop_all ByteArray.mk_append_mk

set_option maxHeartbeats 1000000 in
/-- Two slices of texts are compared. -/
theorem wfTexts_any (A B : Option Addr) (n m c d : Nat) (a b : List (List UInt8)) (w : World) (ha : RowAt w A n (scells a)) (hb : RowAt w B m (scells b)) :
    Calls Try.prog 28 #[.slice A n c, .slice B m d] w fun e w' => e = .returned (.bool (decide (a = b))) ∧ ∃ k, w' = w.drewN k := by
  have la : a.length = n := by have := ha.1; simpa [scells] using this
  have lb : b.length = m := by have := hb.1; simpa [scells] using this
  have hn63 : n ≤ 9223372036854775807 := by have := ha.2.1; unfold maxLen at this; omega
  have hm63 : m ≤ 9223372036854775807 := by have := hb.2.1; unfold maxLen at this; omega
  by_cases hnm : n = m
  · have t0 : ((n : Int) == m) = true := by simp [hnm]
    have hle : n ≤ m := by omega
    have Hnm := Lib.hid hnm
    clear hnm
    go_enter Try.func28, Try.ntmps28
    go_wp2
    go_loopw [5] (fun i wr => ∃ k : Nat, i = .int .i64 k ∧ k ≤ n ∧ Hid (a.take k = b.take k) ∧ ∃ q, wr = w.drewN q) (fun i _ => n - (intOf i).toNat)
    case atStart => exact ⟨0, rfl, Nat.zero_le _, rfl, 0, rfl⟩
    case round =>
      obtain ⟨k, rfl, hk, heq, q, rfl⟩ := hrel
      by_cases hlt : k < n
      · obtain ⟨b1, o1, rfl, hb1, hc1⟩ := ha.at_ hlt
        obtain ⟨b2, o2, rfl, hb2, hc2⟩ := hb.at_ (show k < m by omega)
        have i1 : (0 : Int) ≤ (k : Int) := by omega
        have i2 : (k : Int) < (n : Int) := by omega
        have i3 : (k : Int) < (m : Int) := by omega
        have x1 : w.cell? ⟨b1, o1 + k, none⟩ = some (.string ⟨(a[k]'(by omega)).toArray⟩) := by rw [hc1]; simp [scells]
        have x2 : w.cell? ⟨b2, o2 + k, none⟩ = some (.string ⟨(b[k]'(by omega)).toArray⟩) := by rw [hc2]; simp [scells]
        have Hta := Lib.hid (take_snoc a k (by omega))
        have Htb := Lib.hid (take_snoc b k (by omega))
        have Ha := Lib.hid (List.getElem_mem (show k < a.length by omega))
        have hne := Lib.hid (fun h : a[k]'(show k < a.length by omega) ≠ b[k]'(show k < b.length by omega) => show a ≠ b from fun e => h (by subst e; rfl))
        generalize a[k]'(show k < a.length by omega) = p at x1 Hta hne Ha
        generalize b[k]'(show k < b.length by omega) = r at x2 Htb hne
        clear hc1 hc2
        by_cases hpr : p = r
        · have t1 : (p == r) = true := by simp [hpr]
          have Hpr := Lib.hid hpr
          clear hpr
          go_wp2_with fail
          go_quiet (fail)
          go_wp2
          go_roundw
          case rel =>
            refine ⟨k + 1, by go_num, by omega, ?_, _, rfl⟩
            show a.take (k + 1) = b.take (k + 1)
            rw [Hta.out, Htb.out, heq.out, Hpr.out]
          case measure => simp [intOf]; omega
        · have t1 : (p == r) = false := by simpa using hpr
          have Hf := Lib.hid (show decide (a = b) = false by simpa using hne.out hpr)
          clear hpr hne
          go_wp2_with fail
          go_quiet (fail)
          go_wp2
          go_ret
          exact ⟨ret1 (vbool Hf.out.symm), _, World.drewN_drewN _ _ _⟩
      · have Hf := Lib.hid (show decide (a = b) = true by
          have := heq.out
          rw [List.take_of_length_le (by omega), List.take_of_length_le (by have := Hnm.out; omega)] at this
          simpa using this)
        go_wp2_with fail
        go_ret
        exact ⟨ret1 (vbool Hf.out.symm), q, rfl⟩
  · have t0 : ((n : Int) == m) = false := by simp; omega
    have Hf := Lib.hid (show decide (a = b) = false by
      simp; intro e; subst e; omega)
    clear hnm
    go_enter Try.func28, Try.ntmps28
    go_wp2_with fail
    go_ret
    exact ⟨ret1 (vbool Hf.out.symm), 0, rfl⟩

end Go.Proofs.Ytjbpjpakcpjheaa
