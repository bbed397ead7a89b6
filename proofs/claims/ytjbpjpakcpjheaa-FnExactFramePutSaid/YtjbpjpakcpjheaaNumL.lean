/- Plain laws of the numbers to the base 128: how a number below 2097152 is told as bytes. No program in sight. -/
import Init
namespace Go.Proofs.Ytjbpjpakcpjheaa

def u8 (n : Nat) : UInt8 := UInt8.ofNat n
theorem u8_toNat {n : Nat} (h : n < 256) : (u8 n).toNat = n := by unfold u8; exact UInt8.toNat_ofNat_of_lt' h

/-- The bytes of a number below 2097152. -/
def numB (n : Nat) : List UInt8 :=
  if n < 128 then [u8 n] else if n < 16384 then [u8 (n % 128 + 128), u8 (n / 128)] else [u8 (n % 128 + 128), u8 (n / 128 % 128 + 128), u8 (n / 16384)]

theorem numB_small {n : Nat} (h : n < 128) : numB n = [u8 n] := by unfold numB; rw [if_pos h]
theorem numB_step {n : Nat} (h : 128 ≤ n) (h2 : n < 2097152) : numB n = u8 (n % 128 + 128) :: numB (n / 128) := by
  unfold numB
  by_cases h3 : n < 16384
  · rw [if_neg (by omega), if_pos h3, if_pos (by omega)]
  · rw [if_neg (by omega), if_neg h3, if_neg (by omega), if_pos (by omega)]
    have : n / 16384 = n / 128 / 128 := by omega
    rw [this]
theorem numB_length_pos (n : Nat) : 1 ≤ (numB n).length := by
  unfold numB
  split
  · simp
  · split <;> simp
theorem numB_length_le (n : Nat) : (numB n).length ≤ 3 := by
  unfold numB
  split
  · simp
  · split <;> simp
theorem numB_len1 {n : Nat} (h : n < 128) : (numB n).length = 1 := by rw [numB_small h]; rfl
theorem numB_len2 {n : Nat} (h : n < 16384) : (numB n).length ≤ 2 := by
  unfold numB
  split
  · simp
  · simp
theorem numB_ne (n : Nat) : numB n ≠ [] := by have := numB_length_pos n; intro h; rw [h] at this; simp at this

end Go.Proofs.Ytjbpjpakcpjheaa
