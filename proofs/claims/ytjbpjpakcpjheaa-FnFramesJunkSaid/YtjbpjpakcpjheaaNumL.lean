/- Plain laws of the numbers to the base 128: how a number below 2097152 is told as bytes. No program in sight. -/
import Init
namespace Go.Proofs.Ytjbpjpakcpjheaa

def byteOf (n : Nat) : UInt8 := UInt8.ofNat n
theorem byteOf_toNat {n : Nat} (h : n < 256) : (byteOf n).toNat = n := by unfold byteOf; exact UInt8.toNat_ofNat_of_lt' h

/-- The bytes of a number below 2097152. -/
def numB (n : Nat) : List UInt8 :=
  if n < 128 then [byteOf n] else if n < 16384 then [byteOf (n % 128 + 128), byteOf (n / 128)] else [byteOf (n % 128 + 128), byteOf (n / 128 % 128 + 128), byteOf (n / 16384)]

theorem numB_small {n : Nat} (h : n < 128) : numB n = [byteOf n] := by unfold numB; rw [if_pos h]
theorem numB_step {n : Nat} (h : 128 ≤ n) (h2 : n < 2097152) : numB n = byteOf (n % 128 + 128) :: numB (n / 128) := by
  unfold numB
  by_cases h3 : n < 16384
  · rw [if_neg (by omega), if_pos h3, if_pos (by omega)]
  · rw [if_neg (by omega), if_neg h3, if_neg (by omega), if_pos (by omega)]
    have : n / 16384 = n / 128 / 128 := by omega
    rw [this]
theorem numB_length_pos (n : Nat) : 1 ≤ (numB n).length := by
  unfold numB
  split
  · simp
  · split <;> simp
theorem numB_length_le (n : Nat) : (numB n).length ≤ 3 := by
  unfold numB
  split
  · simp
  · split <;> simp
theorem numB_len1 {n : Nat} (h : n < 128) : (numB n).length = 1 := by rw [numB_small h]; rfl
theorem numB_len2 {n : Nat} (h : n < 16384) : (numB n).length ≤ 2 := by
  unfold numB
  split
  · simp
  · simp
theorem numB_ne (n : Nat) : numB n ≠ [] := by have := numB_length_pos n; intro h; rw [h] at this; simp at this

/-- The number at the beginning of bytes, and what is behind it. -/
def numGetL : List UInt8 → Option (Nat × List UInt8)
  | [] => none
  | a :: t =>
    if a.toNat < 128 then some (a.toNat, t)
    else match t with
      | [] => none
      | b :: u =>
        if b.toNat < 128 then (if b.toNat = 0 then none else some (a.toNat % 128 + b.toNat * 128, u))
        else match u with
          | [] => none
          | c :: v => if c.toNat < 128 then (if c.toNat = 0 ∨ 999999 < a.toNat % 128 + b.toNat % 128 * 128 + c.toNat * 16384 then none else some (a.toNat % 128 + b.toNat % 128 * 128 + c.toNat * 16384, v)) else none

theorem numGetL_len {s : List UInt8} {n : Nat} {r : List UInt8} (h : numGetL s = some (n, r)) : n ≤ 999999 ∧ r.length < s.length := by
  rcases s with _ | ⟨a, _ | ⟨b, _ | ⟨c, v⟩⟩⟩
  · simp [numGetL] at h
  · simp only [numGetL] at h
    split at h
    · simp at h; obtain ⟨rfl, rfl⟩ := h; exact ⟨by omega, by simp⟩
    · simp at h
  · simp only [numGetL] at h
    split at h
    · simp at h; obtain ⟨rfl, rfl⟩ := h; exact ⟨by omega, by simp⟩
    · split at h
      · split at h
        · simp at h
        · simp at h; obtain ⟨rfl, rfl⟩ := h; exact ⟨by omega, by simp⟩
      · simp at h
  · simp only [numGetL] at h
    split at h
    · simp at h; obtain ⟨rfl, rfl⟩ := h; exact ⟨by omega, by simp⟩
    · split at h
      · split at h
        · simp at h
        · simp at h; obtain ⟨rfl, rfl⟩ := h; exact ⟨by omega, by simp⟩
      · split at h
        · split at h
          · simp at h
          · rename_i hn
            simp only [Option.some.injEq, Prod.mk.injEq] at h; obtain ⟨rfl, rfl⟩ := h; exact ⟨by omega, by simp; omega⟩
        · simp at h

end Go.Proofs.Ytjbpjpakcpjheaa
