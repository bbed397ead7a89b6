/- Plain laws of frames and streams: what is read at the beginning of a stream, and of the whole. No program in sight. -/
import Derived.Test.YtjbpjpakcpjheaaNumL
namespace Go.Proofs.Ytjbpjpakcpjheaa

def sumL (l : List UInt8) : Nat := l.foldl (fun n c => (n * 31 + c.toNat) % 9973) 1

theorem sumL_lt (l : List UInt8) : sumL l < 9973 := by
  unfold sumL
  rcases List.eq_nil_or_concat l with rfl | ⟨l', c, rfl⟩
  · decide
  · rw [List.concat_eq_append, List.foldl_append]; exact Nat.mod_lt _ (by decide)

theorem sumL_snoc (l : List UInt8) (c : UInt8) : sumL (l ++ [c]) = (sumL l * 31 + c.toNat) % 9973 := by
  unfold sumL; rw [List.foldl_append]; rfl

/-- The frame of bytes. -/
def frameB (l : List UInt8) : List UInt8 := 126 :: (numB l.length ++ l ++ numB (sumL l))

theorem frameB_len (l : List UInt8) : (frameB l).length = 1 + (numB l.length).length + l.length + (numB (sumL l)).length := by
  simp [frameB]; omega
theorem frameB_pos (l : List UInt8) : 3 ≤ (frameB l).length := by
  have := numB_length_pos l.length
  have := numB_length_pos (sumL l)
  rw [frameB_len]; omega
theorem frameB_le (l : List UInt8) : (frameB l).length ≤ l.length + 7 := by
  have := numB_length_le l.length
  have := numB_length_le (sumL l)
  rw [frameB_len]; omega

/-- What a frame says that it has. -/
def bodyL (s : List UInt8) : List UInt8 := (s.drop 2).take (s.getD 1 0).toNat

/-- A frame at the beginning of a text that is not empty: what it has, how many bytes it has (0: none is there), whether it may come yet. -/
def headL (s : List UInt8) : List UInt8 × Nat × Bool :=
  if s.getD 0 0 ≠ 126 then ([], 0, false)
  else if s.length = 1 then ([], 0, true)
  else if 100 < (s.getD 1 0).toNat then ([], 0, false)
  else if s.length < 2 + (s.getD 1 0).toNat then ([], 0, true)
  else if (frameB (bodyL s)).isPrefixOf s then (bodyL s, (frameB (bodyL s)).length, false)
  else if s.isPrefixOf (frameB (bodyL s)) then ([], 0, true)
  else ([], 0, false)

theorem headL_le (s : List UInt8) : (headL s).2.1 ≤ s.length := by
  unfold headL
  repeat' split
  all_goals simp
  rename_i h
  exact (List.isPrefixOf_iff_prefix.1 h).length_le

theorem headL_body (s : List UInt8) : (headL s).1.length ≤ s.length := by
  unfold headL
  repeat' split
  all_goals simp [bodyL]
  omega

def getF : Nat → List UInt8 → List (List UInt8) × Nat × List UInt8
  | 0, _ => ([], 0, [])
  | f + 1, s =>
    if s = [] then ([], 0, [])
    else if 0 < (headL s).2.1 then ((headL s).1 :: (getF f (s.drop (headL s).2.1)).1, (getF f (s.drop (headL s).2.1)).2)
    else if (headL s).2.2 then ([], 0, s)
    else ((getF f (s.drop 1)).1, (getF f (s.drop 1)).2.1 + 1, (getF f (s.drop 1)).2.2)

theorem getF_more : ∀ (f g : Nat) (s : List UInt8), s.length ≤ f → s.length ≤ g → getF f s = getF g s
  | 0, 0, s, _, _ => rfl
  | 0, g + 1, s, h, _ => by
    obtain rfl : s = [] := List.eq_nil_of_length_eq_zero (by omega)
    simp [getF]
  | f + 1, 0, s, _, h => by
    obtain rfl : s = [] := List.eq_nil_of_length_eq_zero (by omega)
    simp [getF]
  | f + 1, g + 1, s, hf, hg => by
    by_cases hs : s = []
    · simp [getF, hs]
    · have hl : 0 < s.length := List.length_pos_iff.2 hs
      simp only [getF, if_neg hs]
      have e1 := getF_more f g (s.drop 1) (by simp; omega) (by simp; omega)
      split
      · rename_i h1
        have e2 := getF_more f g (s.drop (headL s).2.1) (by simp; omega) (by simp; omega)
        rw [e2]
      · rw [e1]

/-- What a stream is read as: what its frames have, how many bytes are left out, what is left over. -/
def getL (s : List UInt8) : List (List UInt8) × Nat × List UInt8 := getF s.length s

theorem getL_nil : getL [] = ([], 0, []) := rfl
theorem getL_frame (s : List UInt8) (hs : s ≠ []) (h : 0 < (headL s).2.1) : getL s = ((headL s).1 :: (getL (s.drop (headL s).2.1)).1, (getL (s.drop (headL s).2.1)).2) := by
  have hl : 0 < s.length := List.length_pos_iff.2 hs
  unfold getL
  rw [getF_more s.length (s.length + 1) s (by omega) (by omega), getF, if_neg hs, if_pos h]
  rw [getF_more s.length _ (s.drop (headL s).2.1) (by simp) (Nat.le_refl _)]
theorem getL_may (s : List UInt8) (hs : s ≠ []) (h : (headL s).2.1 = 0) (hm : (headL s).2.2 = true) : getL s = ([], 0, s) := by
  unfold getL
  have hl : 0 < s.length := List.length_pos_iff.2 hs
  rw [getF_more s.length (s.length + 1) s (by omega) (by omega), getF, if_neg hs, if_neg (by omega), if_pos hm]
theorem getL_junk (s : List UInt8) (hs : s ≠ []) (h : (headL s).2.1 = 0) (hm : (headL s).2.2 = false) : getL s = ((getL (s.drop 1)).1, (getL (s.drop 1)).2.1 + 1, (getL (s.drop 1)).2.2) := by
  have hl : 0 < s.length := List.length_pos_iff.2 hs
  unfold getL
  rw [getF_more s.length (s.length + 1) s (by omega) (by omega), getF, if_neg hs, if_neg (by omega), if_neg (by simp [hm])]
  rw [getF_more s.length _ (s.drop 1) (by simp) (Nat.le_refl _)]

end Go.Proofs.Ytjbpjpakcpjheaa
