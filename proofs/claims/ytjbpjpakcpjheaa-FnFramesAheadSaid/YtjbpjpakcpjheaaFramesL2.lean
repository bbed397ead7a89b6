/- Plain laws of frames: what is read at the beginning of a stream, told by the number that stands there. No program in sight. -/
import Derived.Test.YtjbpjpakcpjheaaFramesL
namespace Go.Proofs.Ytjbpjpakcpjheaa

theorem getD_lt {α : Type} (l : List α) (d : α) {j : Nat} (h : j < l.length) : l.getD j d = l[j] := by simp [List.getD, h]

/-- The seven ways through frameAt, by its tests in the order of the text. -/
theorem headL_not (s : List UInt8) (h0 : 0 < s.length) (c1 : ¬ s[0].toNat = 126) : headL s = ([], 0, false) := by
  unfold headL
  rw [if_pos]
  rw [getD_lt s 0 h0]; intro h; rw [h] at c1; exact c1 rfl
theorem head126 {s : List UInt8} (h0 : 0 < s.length) (c1 : s[0].toNat = 126) : ¬ s.getD 0 0 ≠ 126 := by
  rw [getD_lt s 0 h0]; intro h; apply h; exact UInt8.toNat_inj.1 c1
theorem headL_one (s : List UInt8) (h0 : 0 < s.length) (c1 : s[0].toNat = 126) (c2 : s.length = 1) : headL s = ([], 0, true) := by
  unfold headL
  rw [if_neg (head126 h0 c1), if_pos c2]
theorem headL_big (s : List UInt8) (h0 : 1 < s.length) (c1 : s[0].toNat = 126) (c3 : 100 < s[1].toNat) : headL s = ([], 0, false) := by
  unfold headL
  rw [if_neg (head126 (by omega) c1), if_neg (by omega), if_pos (by rw [getD_lt s 0 h0]; exact c3)]
theorem headL_short (s : List UInt8) (h0 : 1 < s.length) (c1 : s[0].toNat = 126) (c3 : s[1].toNat ≤ 100) (c4 : s.length < 2 + s[1].toNat) : headL s = ([], 0, true) := by
  unfold headL
  rw [if_neg (head126 (by omega) c1), if_neg (by omega), if_neg (by rw [getD_lt s 0 h0]; omega), if_pos (by rw [getD_lt s 0 h0]; exact c4)]
theorem bodyL_eq (s : List UInt8) (h0 : 1 < s.length) : bodyL s = (s.drop 2).take s[1].toNat := by unfold bodyL; rw [getD_lt s 0 h0]
theorem headL_rest (s : List UInt8) (h0 : 1 < s.length) (c1 : s[0].toNat = 126) (c3 : s[1].toNat ≤ 100) (c4 : 2 + s[1].toNat ≤ s.length) :
    headL s = if (frameB (bodyL s)).isPrefixOf s then (bodyL s, (frameB (bodyL s)).length, false) else if s.isPrefixOf (frameB (bodyL s)) then ([], 0, true) else ([], 0, false) := by
  unfold headL
  rw [if_neg (head126 (by omega) c1), if_neg (by omega), if_neg (by rw [getD_lt s 0 h0]; omega), if_neg (by rw [getD_lt s 0 h0]; omega)]

/-- A text that is just 126: a frame may begin here. -/
theorem headL_w : headL [126] = ([], 0, true) := headL_one _ (by simp) rfl rfl
theorem headL_big' (a : UInt8) (t : List UInt8) (ha : 100 < a.toNat) : headL (126 :: a :: t) = ([], 0, false) := headL_big _ (by simp) rfl ha
theorem headL_short' (a : UInt8) (t : List UInt8) (ha : a.toNat ≤ 100) (h : t.length < a.toNat) : headL (126 :: a :: t) = ([], 0, true) := headL_short _ (by simp) rfl ha (by simp; omega)

theorem byteOf_of_toNat (a : UInt8) : byteOf a.toNat = a := by unfold byteOf; simp

theorem frameB_take (a : UInt8) (t : List UInt8) (ha : a.toNat ≤ 100) (h : a.toNat ≤ t.length) :
    frameB (t.take a.toNat) = 126 :: a :: (t.take a.toNat ++ numB (sumL (t.take a.toNat))) := by
  unfold frameB
  have e : (t.take a.toNat).length = a.toNat := by simp; omega
  rw [e, numB_small (by omega), byteOf_of_toNat]; rfl

theorem isPrefixOf_append (p a b : List UInt8) : (p ++ a).isPrefixOf (p ++ b) = a.isPrefixOf b := by
  induction p with
  | nil => rfl
  | cons x p ih => simp [ih]

/-- The whole head is there: all hangs on the sum behind the bytes. -/
theorem headL_sum (a : UInt8) (t : List UInt8) (ha : a.toNat ≤ 100) (h : a.toNat ≤ t.length) :
    headL (126 :: a :: t) = if (numB (sumL (t.take a.toNat))).isPrefixOf (t.drop a.toNat) then (t.take a.toNat, 2 + a.toNat + (numB (sumL (t.take a.toNat))).length, false)
      else if (t.drop a.toNat).isPrefixOf (numB (sumL (t.take a.toNat))) then ([], 0, true) else ([], 0, false) := by
  have hr := headL_rest (126 :: a :: t) (by simp) rfl ha (by simp; omega)
  have hb : bodyL (126 :: a :: t) = t.take a.toNat := by rw [bodyL_eq _ (by simp)]; rfl
  rw [hb] at hr
  have e : (126 :: a :: t : List UInt8) = [126, a] ++ t.take a.toNat ++ t.drop a.toNat := by simp
  have e2 : frameB (t.take a.toNat) = [126, a] ++ t.take a.toNat ++ numB (sumL (t.take a.toNat)) := by rw [frameB_take a t ha h]; simp
  rw [hr]
  have h1 : (frameB (t.take a.toNat)).isPrefixOf (126 :: a :: t) = (numB (sumL (t.take a.toNat))).isPrefixOf (t.drop a.toNat) := by
    rw [e2]; conv => lhs; rw [e]
    exact isPrefixOf_append _ _ _
  have h2 : (126 :: a :: t).isPrefixOf (frameB (t.take a.toNat)) = (t.drop a.toNat).isPrefixOf (numB (sumL (t.take a.toNat))) := by
    rw [e2]; conv => lhs; rw [e]
    exact isPrefixOf_append _ _ _
  have h3 : (frameB (t.take a.toNat)).length = 2 + a.toNat + (numB (sumL (t.take a.toNat))).length := by
    rw [e2]; simp; omega
  rw [h1, h2, h3]

end Go.Proofs.Ytjbpjpakcpjheaa
