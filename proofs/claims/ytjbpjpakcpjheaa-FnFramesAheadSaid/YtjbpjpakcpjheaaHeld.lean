/- heldStringS: does a slice still hold the marks. -/
import Derived.Test.YtjbpjpakcpjheaaMark
import Derived.Test.YtjbpjpakcpjheaaRegion
namespace Go.Proofs.Ytjbpjpakcpjheaa
open Go.RowKit
set_option maxRecDepth 100000
set_option linter.unusedVariables false
attribute [local go_sem] ba_get ba_toList ba_extract take_drop_all ByteArray.mk_append_mk

set_option maxHeartbeats 400000 in
theorem heldStringS_any (A : Option Addr) (c n k : Nat) (w : World) (hk : k + n ≤ 4000000000) (ha : RowAt w A n (scells (marks k n))) :
    Calls Try.prog 31 #[.slice A n c, .int .i64 k] w fun e w' => e = .returned (.int .i64 ((k + n : Nat) : Int)) ∧ Below w.heap.size w w' := by
  go_enter Try.func31, Try.ntmps31
  go_wp2
  go_loopw [1, 5] (fun x i wr => ∃ j : Nat, x = .int .i64 ((k : Int) + (j : Int)) ∧ i = .int .i64 j ∧ j ≤ n ∧ Below w.heap.size w wr) (fun _ i _ => n - (intOf i).toNat)
  case atStart => exact ⟨0, vint (by omega), rfl, Nat.zero_le _, Below.refl _ _⟩
  case round =>
    obtain ⟨j, rfl, rfl, hj, hb⟩ := hrel
    by_cases hlt : j < n
    · obtain ⟨b, o, rfl, hbl, hc⟩ := (ha.below hb).at_ hlt
      have hc' : wr.cell? ⟨b, o + j, none⟩ = some (.string ⟨(markT (k + j)).toArray⟩) := by
        rw [hc]; simp only [scells, List.getElem_map, marks_get k n j hlt]
      clear hc
      have i1 : (0 : Int) ≤ (j : Int) := by omega
      have i2 : (j : Int) < (n : Int) := by omega
      have hkj : (k : Int) + (j : Int) = ((k + j : Nat) : Int) := by omega
      have Hkj := Lib.hid hkj
      have hne : (markT (k + j) == markT (k + j)) = true := by simp
      clear hkj
      go_wp2_with fail
      refine wp_region_slots [12, 13, 14, 15, 16, 17, 18] (by kernel_rfl) (by kernel_rfl) (by kernel_rfl) (fun u => by dsimp only [frameOf, setMany, List.set])
        (fun i v W => v = [.slice (some ⟨b, o, none⟩) n c, .int .i64 j, .pointer (some ⟨b, o + j, none⟩), .string ⟨(markT (k + j)).toArray⟩, .int .i64 ((k : Int) + (j : Int)), .string ⟨(markT (k + j)).toArray⟩, .bool false][i]?.getD undef)
        (fun _ W => Below w.heap.size w W ∧ b < W.heap.size ∧ W.cell? ⟨b, o + j, none⟩ = some (.string ⟨(markT (k + j)).toArray⟩)) (fun _ _ => True) (fun _ _ _ _ _ h => h) ⟨hb.drew, hbl, hc'⟩ ?_ ?_
      · repeat (first | exact Steps.nil | (refine Steps.cons ?_ ?_; rotate_left))
        all_goals
          rintro L u W hL hpre ⟨hR1, hR2, hR3⟩ K hK
          first | (simp [Region.binds] at hpre; done) | simp [Region.binds] at hpre | clear hpre
          go_simp
        · exact hK _ _ _ rfl trivial ⟨hR1, hR2, hR3⟩ rfl
        · exact hK _ _ _ rfl trivial ⟨hR1, hR2, hR3⟩ rfl
        · exact hK _ _ _ rfl trivial ⟨hR1, hR2, hR3⟩ (by simp [Act.put, hpre])
        · exact hK _ _ _ rfl trivial ⟨hR1, hR2, hR3⟩ (by simp [Act.put, hpre])
        · exact hK _ _ _ rfl trivial ⟨hR1, hR2, hR3⟩ rfl
        · have hm := markText_any (k + j) W (by omega)
          rw [← Hkj.out] at hm
          refine hm.mono ?_
          rintro e w1 ⟨rfl, hb1⟩
          exact hK _ _ _ rfl trivial ⟨hR1.trans (hb1.mono hR1.size), Nat.lt_of_lt_of_le hR2 hb1.size, (hb1.cell (p := ⟨b, o + j, none⟩) hR2).trans hR3⟩ (by simp [Act.put, hpre])
        · exact hK _ _ _ rfl trivial ⟨hR1, hR2, hR3⟩ (by simp [Act.put, hpre])
      · rintro L u W hL hφ ⟨hR1, hR2, hR3⟩
        have c6 := hφ 6 (by decide)
        clear hφ hL
        simp at c6
        simp only [c6]
        go_wp2_with fail
        go_roundw
        case rel => exact ⟨j + 1, vint (by omega), by go_num, by omega, hR1⟩
        case measure => simp [intOf]; omega
    · obtain rfl : j = n := by omega
      go_wp2_with fail
      go_ret
      exact ⟨ret1 (vint (by omega)), hb⟩
end Go.Proofs.Ytjbpjpakcpjheaa
