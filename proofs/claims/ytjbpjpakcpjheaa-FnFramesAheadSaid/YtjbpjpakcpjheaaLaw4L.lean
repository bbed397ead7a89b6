/- Plain laws of streams: each byte is in a frame, left out, or left over; parts of a stream are read as the whole; junk is left out. No program in sight. -/
import Derived.Test.YtjbpjpakcpjheaaLaw3L
namespace Go.Proofs.Ytjbpjpakcpjheaa

theorem headL_size (s : List UInt8) (h : 0 < (headL s).2.1) : (headL s).2.1 = (frameB (headL s).1).length ∧ (headL s).1.length ≤ 100 ∧ (frameB (headL s).1).isPrefixOf s = true ∧ (headL s).2.2 = false := by
  unfold headL at *
  split at h
  · simp at h
  · rename_i h1
    rw [if_neg h1]
    split at h
    · simp at h
    · rename_i h2
      rw [if_neg h2]
      split at h
      · simp at h
      · rename_i h3
        rw [if_neg h3]
        split at h
        · simp at h
        · rename_i h4
          rw [if_neg h4]
          split at h
          · rename_i h5
            rw [if_pos h5]
            refine ⟨rfl, ?_, h5, rfl⟩
            simp only [bodyL, List.length_take]; omega
          · rename_i h5
            split at h <;> simp at h

/-- The lengths of the frames of texts, all together. -/
def lensB (ls : List (List UInt8)) : Nat := (ls.map fun b => (frameB b).length).sum
theorem lensB_snoc (ls : List (List UInt8)) (b : List UInt8) : lensB (ls ++ [b]) = lensB ls + (frameB b).length := by simp [lensB]
theorem lensB_cons (b : List UInt8) (ls : List (List UInt8)) : lensB (b :: ls) = (frameB b).length + lensB ls := by simp [lensB]

theorem getF_bytes : ∀ (f : Nat) (s : List UInt8), s.length ≤ f →
    lensB (getF f s).1 + (getF f s).2.1 + (getF f s).2.2.length = s.length ∧ (∀ b ∈ (getF f s).1, b.length ≤ 100) ∧ (getF f s).2.2 <:+ s := by
  intro f
  induction f with
  | zero =>
    intro s hs
    obtain rfl : s = [] := List.eq_nil_of_length_eq_zero (by omega)
    simp [getF, lensB]
  | succ f ih =>
    intro s hs
    simp only [getF]
    split
    · rename_i h0
      subst h0
      simp [lensB]
    · rename_i h0
      have hl : 0 < s.length := List.length_pos_iff.2 h0
      split
      · rename_i h1
        obtain ⟨e1, e2, _⟩ := headL_size s h1
        have hle := headL_le s
        obtain ⟨i1, i2, i3⟩ := ih (s.drop (headL s).2.1) (by simp; omega)
        refine ⟨?_, ?_, i3.trans (List.drop_suffix _ _)⟩
        · dsimp only
          rw [lensB_cons, ← e1]
          rw [List.length_drop] at i1
          omega
        · intro b hb
          rcases List.mem_cons.1 hb with rfl | hb
          · exact e2
          · exact i2 b hb
      · split
        · simp [lensB]
        · obtain ⟨i1, i2, i3⟩ := ih (s.drop 1) (by simp; omega)
          refine ⟨?_, i2, i3.trans (List.drop_suffix _ _)⟩
          dsimp only
          rw [List.length_drop] at i1
          omega

theorem getL_bytes (s : List UInt8) : lensB (getL s).1 + (getL s).2.1 + (getL s).2.2.length = s.length ∧ (∀ b ∈ (getL s).1, b.length ≤ 100) ∧ s.drop (s.length - (getL s).2.2.length) = (getL s).2.2 := by
  obtain ⟨h1, h2, h3⟩ := getF_bytes s.length s (Nat.le_refl _)
  refine ⟨h1, h2, ?_⟩
  obtain ⟨t, ht⟩ := h3
  have e : s.length - (getL s).2.2.length = t.length := by
    have := congrArg List.length ht
    simp at this
    unfold getL; omega
  rw [e]
  conv => lhs; rw [← ht]
  simp [getL]

theorem getD_append {s t : List UInt8} (k : Nat) (h : k < s.length) : (s ++ t).getD k 0 = s.getD k 0 := by
  simp [List.getD, List.getElem?_append_left h]

/-- What has been settled at the beginning of a stream stays, whatever comes behind. -/
theorem headL_more (s t : List UInt8) (hs : s ≠ []) (hm : (headL s).2.2 = false) : headL (s ++ t) = headL s := by
  have hl : 0 < s.length := List.length_pos_iff.2 hs
  by_cases h1 : s.getD 0 0 = 126
  · by_cases h2 : s.length = 1
    · exfalso
      unfold headL at hm
      rw [if_neg (fun h => h h1), if_pos h2] at hm
      simp at hm
    · have e1 := getD_append (t := t) 0 hl
      have e2 := getD_append (t := t) 1 (show 1 < s.length by omega)
      by_cases h3 : 100 < (s.getD 1 0).toNat
      · unfold headL
        rw [e1, e2, if_neg (fun h => h h1), if_neg (by rw [List.length_append]; omega), if_pos h3, if_neg (fun h => h h1), if_neg h2, if_pos h3]
      · by_cases h4 : s.length < 2 + (s.getD 1 0).toNat
        · exfalso
          unfold headL at hm
          rw [if_neg (fun h => h h1), if_neg h2, if_neg h3, if_pos h4] at hm
          simp at hm
        · have hb : bodyL (s ++ t) = bodyL s := by
            unfold bodyL
            rw [e2, List.drop_append_of_le_length (by omega), List.take_append_of_le_length (by rw [List.length_drop]; omega)]
          by_cases h5 : (frameB (bodyL s)).isPrefixOf s = true
          · have h6 : (frameB (bodyL s)).isPrefixOf (s ++ t) = true := by
              rw [List.isPrefixOf_iff_prefix] at h5 ⊢
              exact h5.trans (List.prefix_append _ _)
            unfold headL
            rw [hb, e1, e2, if_neg (fun h => h h1), if_neg (by rw [List.length_append]; omega), if_neg h3, if_neg (by rw [List.length_append]; omega), if_pos h6]
            rw [if_neg (fun h => h h1), if_neg h2, if_neg h3, if_neg h4, if_pos h5]
          · by_cases h6 : s.isPrefixOf (frameB (bodyL s)) = true
            · exfalso
              unfold headL at hm
              rw [if_neg (fun h => h h1), if_neg h2, if_neg h3, if_neg h4, if_neg h5, if_pos h6] at hm
              simp at hm
            · have h7 : ¬ (frameB (bodyL s)).isPrefixOf (s ++ t) = true := by
                intro h
                rw [List.isPrefixOf_iff_prefix] at h h5 h6
                rcases List.prefix_or_prefix_of_prefix h (List.prefix_append s t) with hh | hh
                · exact h5 hh
                · exact h6 hh
              have h8 : ¬ (s ++ t).isPrefixOf (frameB (bodyL s)) = true := by
                intro h
                rw [List.isPrefixOf_iff_prefix] at h h6
                exact h6 ((List.prefix_append s t).trans h)
              unfold headL
              rw [hb, e1, e2, if_neg (fun h => h h1), if_neg (by rw [List.length_append]; omega), if_neg h3, if_neg (by rw [List.length_append]; omega), if_neg h7, if_neg h8]
              rw [if_neg (fun h => h h1), if_neg h2, if_neg h3, if_neg h4, if_neg h5, if_neg h6]
  · have e1 := getD_append (t := t) 0 hl
    unfold headL
    rw [e1, if_pos h1, if_pos h1]

/-- A stream that comes in two parts is read as the whole. -/
theorem getL_parts (t : List UInt8) : ∀ (n : Nat) (s : List UInt8), s.length ≤ n →
    getL (s ++ t) = ((getL s).1 ++ (getL ((getL s).2.2 ++ t)).1, (getL s).2.1 + (getL ((getL s).2.2 ++ t)).2.1, (getL ((getL s).2.2 ++ t)).2.2)
  | 0, s, h => by
    obtain rfl : s = [] := List.eq_nil_of_length_eq_zero (by omega)
    simp [getL_nil]
  | n + 1, s, h => by
    by_cases hs : s = []
    · subst hs; simp [getL_nil]
    · have hl : 0 < s.length := List.length_pos_iff.2 hs
      have hst : s ++ t ≠ [] := by simp [hs]
      by_cases h1 : 0 < (headL s).2.1
      · have hm : (headL s).2.2 = false := (headL_size s h1).2.2.2
        have hle := headL_le s
        have hh := headL_more s t hs hm
        have ih := getL_parts t n (s.drop (headL s).2.1) (by simp; omega)
        rw [getL_frame (s ++ t) hst (by rw [hh]; exact h1), hh, List.drop_append_of_le_length hle, ih, getL_frame s hs h1]
        simp
      · have h0 : (headL s).2.1 = 0 := by omega
        cases hm : (headL s).2.2 with
        | true =>
          rw [getL_may s hs h0 hm]
          simp
        | false =>
          have hh := headL_more s t hs hm
          have ih := getL_parts t n (s.drop 1) (by simp; omega)
          rw [getL_junk (s ++ t) hst (by rw [hh]; exact h0) (by rw [hh]; exact hm), List.drop_append_of_le_length (by omega), ih, getL_junk s hs h0 hm]
          simp; omega

/-- A byte that is not 126 is left out. -/
theorem getL_other (c : UInt8) (t : List UInt8) (h : c.toNat ≠ 126) : getL (c :: t) = ((getL t).1, (getL t).2.1 + 1, (getL t).2.2) := by
  have e := headL_not (c :: t) (by simp) (by simpa using h)
  have := getL_junk (c :: t) (by simp) (by rw [e]) (by rw [e])
  simpa using this
theorem getL_others (p t : List UInt8) (h : ∀ c ∈ p, c.toNat ≠ 126) : getL (p ++ t) = ((getL t).1, (getL t).2.1 + p.length, (getL t).2.2) := by
  induction p with
  | nil => simp
  | cons c p ih =>
    rw [List.cons_append, getL_other c _ (h c (by simp)), ih (fun x hx => h x (by simp [hx]))]
    simp; omega
end Go.Proofs.Ytjbpjpakcpjheaa
