/- The marks that the laws write into a result, to see whether it shares memory: markText, markStringS, heldStringS. -/
import Derived.Test.YtjbpjpakcpjheaaLib2
import Derived.Test.YtjbpjpakcpjheaaNumL
import Derived.Deep.RegionWith
namespace Go.Proofs.Ytjbpjpakcpjheaa
open Go.RowKit
set_option maxRecDepth 100000
set_option linter.unusedVariables false
attribute [local go_sem] ba_get ba_toList ba_extract take_drop_all ByteArray.mk_append_mk

def mkF : Nat → Nat → List UInt8 → List UInt8
  | 0, _, o => o
  | f + 1, k, o => if k = 0 then o else mkF f (k / 10) (byteOf (48 + k % 10) :: o)
theorem mkF_more : ∀ (f g k : Nat) (o : List UInt8), k ≤ f → k ≤ g → mkF f k o = mkF g k o
  | 0, 0, k, o, _, _ => rfl
  | 0, g + 1, k, o, h, _ => by obtain rfl : k = 0 := by omega
                               simp [mkF]
  | f + 1, 0, k, o, _, h => by obtain rfl : k = 0 := by omega
                               simp [mkF]
  | f + 1, g + 1, k, o, hf, hg => by
    simp only [mkF]
    split
    · rfl
    · exact mkF_more f g (k / 10) _ (by omega) (by omega)
theorem mkF_step (k : Nat) (o : List UInt8) (h : 0 < k) : mkF k k o = mkF (k / 10) (k / 10) (byteOf (48 + k % 10) :: o) := by
  obtain ⟨j, rfl⟩ : ∃ j, k = j + 1 := ⟨k - 1, by omega⟩
  rw [mkF, if_neg (by omega), mkF_more j ((j + 1) / 10) _ _ (by omega) (Nat.le_refl _)]

/-- The mark of a number. -/
def markT (k : Nat) : List UInt8 := if k = 0 then [109, 48] else 109 :: mkF k k []

set_option maxHeartbeats 1000000 in
theorem markText_any (k : Nat) (w : World) (hk : k ≤ 4000000000) :
    Calls Try.prog 51 #[.int .i64 k] w fun e w' => e = .returned (.string ⟨(markT k).toArray⟩) ∧ Below w.heap.size w w' := by
  by_cases h0 : k = 0
  · subst h0
    go_enter Try.func51, Try.ntmps51
    go_wp2_with fail
    go_ret
    exact ⟨rfl, Below.refl _ _⟩
  · have h1 : 0 < k := by omega
    have Hm := Lib.hid (show markT k = 109 :: mkF k k [] from if_neg h0)
    clear h0
    go_enter Try.func51, Try.ntmps51
    go_wp2
    go_loopw [0, 3] (fun x o wr => ∃ (j : Nat) (l : List UInt8), x = .int .i64 j ∧ o = .string ⟨l.toArray⟩ ∧ Hid (mkF k k [] = mkF j j l) ∧ l.length + j ≤ k ∧ Below w.heap.size w wr) (fun x _ _ => (intOf x).toNat)
    case atStart => exact ⟨k, [], rfl, rfl, rfl, by simp, Below.refl _ _⟩
    case round =>
      obtain ⟨j, l, rfl, rfl, hget, hlen, hb⟩ := hrel
      have hsz := hb.size
      by_cases hj : 0 < j
      · have hcv := fun W g => Try.conv1 W g 1 (byteOf (48 + j % 10))
        have e1 : ((48 : Int) + (j : Int) % 10) = ((byteOf (48 + j % 10)).toNat : Int) := by rw [byteOf_toNat (by omega)]; omega
        have hu : (byteOf (48 + j % 10)).toNat < 256 := (byteOf (48 + j % 10)).toNat_lt
        have Hs := Lib.hid (mkF_step j l hj)
        go_wp2_with fail
        go_roundw
        case rel =>
          refine ⟨j / 10, byteOf (48 + j % 10) :: l, by go_num, by simp, ?_, ?_, hb.alloc hsz _⟩
          · show _ = _
            rw [hget.out, Hs.out]
          · simp; omega
        case measure => simp [intOf]; omega
      · obtain rfl : j = 0 := by omega
        have Hf := Lib.hid (show 109 :: l = markT k by rw [Hm.out, hget.out]; rfl)
        go_wp2_with fail
        go_ret
        exact ⟨by rw [← Hf.out]; rfl, hb⟩

theorem grown_below {w w1 w2 : World} {row : Option Nat} (h : w.grownBy w1 row) (hb : Below w1.heap.size w1 w2) : w.grownBy w2 row :=
  ⟨hb.os.trans h.os, hb.tape.trans h.tape, hb.output.trans h.output, Nat.le_trans h.size hb.size, fun k hk hne => (hb.block k (Nat.lt_of_lt_of_le hk h.size)).trans (h.block k hk hne)⟩
theorem grown_grown {w w1 w2 : World} {row : Option Nat} (h : w.grownBy w1 row) (hb : w1.grownBy w2 row) : w.grownBy w2 row :=
  ⟨hb.os.trans h.os, hb.tape.trans h.tape, hb.output.trans h.output, Nat.le_trans h.size hb.size, fun k hk hne => (hb.block k (Nat.lt_of_lt_of_le hk h.size) hne).trans (h.block k hk hne)⟩

/-- The marks of n numbers, from k on. -/
def marks (k n : Nat) : List (List UInt8) := (List.range n).map fun i => markT (k + i)
theorem marks_length (k n : Nat) : (marks k n).length = n := by simp [marks]
theorem marks_get (k n i : Nat) (h : i < n) : (marks k n)[i]'(by rw [marks_length]; exact h) = markT (k + i) := by simp [marks]
theorem marks_snoc (k n : Nat) : marks k (n + 1) = marks k n ++ [markT (k + n)] := by simp [marks, List.range_succ]
theorem set_marks (ls : List (List UInt8)) (k i : Nat) (h : i < ls.length) : (scells (marks k i ++ ls.drop i)).set i (.string ⟨(markT (k + i)).toArray⟩) = scells (marks k (i + 1) ++ ls.drop (i + 1)) := by
  have e : ls.drop i = ls[i] :: ls.drop (i + 1) := (List.drop_eq_getElem_cons h)
  have hl := marks_length k i
  rw [e, marks_snoc]
  simp only [scells, List.map_append, List.map_cons, List.append_assoc]
  rw [List.set_append, if_neg (by simp [hl])]
  simp [hl]
theorem get_marks (ls : List (List UInt8)) (k i : Nat) (h : i < ls.length) : (scells (marks k i ++ ls.drop i))[i]? = some (.string ⟨(ls[i]).toArray⟩) := by
  have hl := marks_length k i
  rw [List.drop_eq_getElem_cons h]
  simp only [scells, List.map_append, List.map_cons]
  rw [List.getElem?_append_right (by simp [hl])]
  simp [hl]

set_option maxHeartbeats 1000000 in
/-- The marks are written into a slice of the caller's own: nothing else that was there turns. -/
theorem markStringS_any (base g c n k : Nat) (ls : List (List UInt8)) (w : World) (hk : k + n ≤ 4000000000) (hown : w.ownsRow base 9 1 (.slice (some ⟨g, 0, none⟩) n c) n (scells ls)) :
    Calls Try.prog 30 #[.slice (some ⟨g, 0, none⟩) n c, .int .i64 k] w fun e w' =>
      e = .returned (.int .i64 ((k + n : Nat) : Int)) ∧ w'.ownsRow base 9 1 (.slice (some ⟨g, 0, none⟩) n c) n (scells (marks k n)) ∧ w.grownBy w' (some g) := by
  have hl : ls.length = n := by have := hown.1; simpa [scells] using this
  go_enter Try.func30, Try.ntmps30
  go_wp2
  go_loopw [1, 5] (fun x i wr => ∃ j : Nat, x = .int .i64 ((k : Int) + (j : Int)) ∧ i = .int .i64 j ∧ j ≤ n ∧ wr.ownsRow base 9 1 (.slice (some ⟨g, 0, none⟩) n c) n (scells (marks k j ++ ls.drop j)) ∧ w.grownBy wr (some g)) (fun _ i _ => n - (intOf i).toNat)
  case atStart => exact ⟨0, vint (by omega), rfl, Nat.zero_le _, hown, World.grownBy.refl _ _⟩
  case round =>
    obtain ⟨j, rfl, rfl, hj, hown, hg⟩ := hrel
    by_cases hlt : j < n
    · have Hset := Lib.hid (set_marks ls k j (by omega))
      have Hget := Lib.hid (get_marks ls k j (by omega))
      generalize ls[j]'(show j < ls.length by omega) = old at Hget
      have hkj : (k : Int) + (j : Int) = ((k + j : Nat) : Int) := by omega
      have Hkj := Lib.hid hkj
      clear hkj
      go_wp2_with (go_at_call 51; rw [Hkj.out]; refine (markText_any (k + j) _ (by omega)).mono ?_; rintro e w1 ⟨rfl, hb1⟩; have hown1 := ownsRow_below hown hb1; have hc1 := (hown1.cellAt j (by omega)).trans Hget.out; have hf1 := hown1.frozenAt j; have hst := Lib.hid (hown1.stored j (.string ⟨(markT (k + j)).toArray⟩)); clear hown1)
      go_goals
      go_roundw
      case rel =>
        refine ⟨j + 1, vint (by omega), by go_num, by omega, ?_, ?_⟩
        · have := hst.out.1
          rw [Hset.out] at this
          exact this
        · exact grown_grown (grown_below hg hb1) hst.out.2
      case measure => simp [intOf]; omega
    · obtain rfl : j = n := by omega
      go_wp2_with fail
      go_ret
      refine ⟨rfl, ?_, hg⟩
      have : marks k j ++ ls.drop j = marks k j := by rw [List.drop_of_length_le (by omega)]; simp
      rw [this] at hown; exact hown
end Go.Proofs.Ytjbpjpakcpjheaa
