/- Plain laws of sums and streams: a sum sees each byte; a frame is read back. No program in sight. -/
import Derived.Test.YtjbpjpakcpjheaaFramesL2
namespace Go.Proofs.Ytjbpjpakcpjheaa

theorem sum_step_inj {a b c : Nat} (ha : a < 9973) (hb : b < 9973) (h : (a * 31 + c) % 9973 = (b * 31 + c) % 9973) : a = b := by omega

theorem sumFold_inj : ∀ (l : List UInt8) {a b : Nat}, a < 9973 → b < 9973 → l.foldl (fun n c => (n * 31 + c.toNat) % 9973) a = l.foldl (fun n c => (n * 31 + c.toNat) % 9973) b → a = b
  | [], a, b, _, _, h => h
  | c :: l, a, b, ha, hb, h => sum_step_inj ha hb (sumFold_inj l (Nat.mod_lt _ (by decide)) (Nat.mod_lt _ (by decide)) h)

/-- A sum sees each byte. -/
theorem sumL_sees (p q : List UInt8) (c d : UInt8) (h : c ≠ d) : sumL (p ++ [c] ++ q) ≠ sumL (p ++ [d] ++ q) := by
  intro e
  unfold sumL at e
  rw [List.foldl_append, List.foldl_append, List.foldl_append, List.foldl_append] at e
  have hp : p.foldl (fun n c => (n * 31 + c.toNat) % 9973) 1 < 9973 := sumL_lt p
  have e1 := sumFold_inj q (by exact Nat.mod_lt _ (by decide)) (by exact Nat.mod_lt _ (by decide)) e
  have e2 : (List.foldl (fun n (c : UInt8) => (n * 31 + c.toNat) % 9973) 1 p * 31 + c.toNat) % 9973 = (List.foldl (fun n (c : UInt8) => (n * 31 + c.toNat) % 9973) 1 p * 31 + d.toNat) % 9973 := e1
  have h1 := c.toNat_lt
  have h2 := d.toNat_lt
  apply h
  apply UInt8.toNat_inj.1
  omega

/-- A frame is read at the beginning of a stream, whatever is behind it. -/
theorem headL_frame (b t : List UInt8) (hb : b.length ≤ 100) : headL (frameB b ++ t) = (b, (frameB b).length, false) := by
  have e1 : frameB b ++ t = 126 :: byteOf b.length :: (b ++ (numB (sumL b) ++ t)) := by
    unfold frameB
    rw [numB_small (by omega)]; simp
  have e2 : (byteOf b.length).toNat = b.length := byteOf_toNat (by omega)
  have h := headL_sum (byteOf b.length) (b ++ (numB (sumL b) ++ t)) (by omega) (by rw [e2]; simp)
  rw [e2] at h
  have e3 : (b ++ (numB (sumL b) ++ t)).take b.length = b := by simp
  have e4 : (b ++ (numB (sumL b) ++ t)).drop b.length = numB (sumL b) ++ t := by simp
  rw [e3, e4, if_pos (by rw [List.isPrefixOf_iff_prefix]; exact List.prefix_append _ _)] at h
  rw [e1, h]
  have e5 : (frameB b).length = 2 + b.length + (numB (sumL b)).length := by
    unfold frameB
    rw [numB_small (by omega)]; simp; omega
  rw [e5]

theorem getL_frameB (b t : List UInt8) (hb : b.length ≤ 100) : getL (frameB b ++ t) = (b :: (getL t).1, (getL t).2) := by
  have hh := headL_frame b t hb
  have hp := frameB_pos b
  have hne : frameB b ++ t ≠ [] := by
    intro h
    have h2 := congrArg List.length h
    rw [List.length_append, List.length_nil] at h2
    omega
  rw [getL_frame _ hne (by rw [hh]; show 0 < (frameB b).length; omega), hh]
  simp

/-- The frames of texts, one behind the other. -/
def framesB (ls : List (List UInt8)) : List UInt8 := (ls.map frameB).flatten
theorem framesB_cons (b : List UInt8) (ls : List (List UInt8)) : framesB (b :: ls) = frameB b ++ framesB ls := rfl
theorem framesB_snoc (ls : List (List UInt8)) (b : List UInt8) : framesB (ls ++ [b]) = framesB ls ++ frameB b := by simp [framesB]

theorem getL_framesB (ls : List (List UInt8)) (t : List UInt8) (h : ∀ b ∈ ls, b.length ≤ 100) : getL (framesB ls ++ t) = (ls ++ (getL t).1, (getL t).2) := by
  induction ls with
  | nil => rfl
  | cons b ls ih =>
    rw [framesB_cons, List.append_assoc, getL_frameB b _ (h b (by simp)), ih (fun x hx => h x (by simp [hx]))]
    rfl
end Go.Proofs.Ytjbpjpakcpjheaa
