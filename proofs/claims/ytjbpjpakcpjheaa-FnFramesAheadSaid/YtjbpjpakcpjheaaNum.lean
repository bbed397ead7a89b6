/- NumPut and its like: the walks of the program and of the reference both come to numB. -/
import Derived.Test.YtjbpjpakcpjheaaLib
import Derived.Test.YtjbpjpakcpjheaaNumL
import Derived.Deep.RegionWith
namespace Go.Proofs.Ytjbpjpakcpjheaa
open Go.RowKit
set_option maxRecDepth 100000

theorem byteV (n : Nat) (h : n < 256) : Value.int .u8 (n : Int) = .int .u8 ((byteOf n).toNat : Int) := by rw [byteOf_toNat h]

set_option maxHeartbeats 400000 in
theorem numPut_any (n : Nat) (w : World) (hn : n ≤ 999999) :
    Calls Try.prog 53 #[.int .i64 n] w fun e w' => e = .returned (.tuple #[.string ⟨(numB n).toArray⟩, .bool true]) ∧ Below w.heap.size w w' := by
  have hconv := fun W v l (h : World.ownsRow W w.heap.size 5 1 v l.length (bcells l)) => conv_own (P := Try.prog) W 26 5 9 Try.underlying26 Try.underlying5 Try.underlying9 w.heap.size v l l.length rfl h
  have Hconv := Lib.hid hconv
  clear hconv
  go_enter Try.func53, Try.ntmps53
  go_wp2
  go_loopw [0, 4] (fun x v wr => ∃ (m : Nat) (l : List UInt8), x = .int .i64 m ∧ m ≤ 999999 ∧ Hid (l ++ numB m = numB n) ∧ l.length ≤ 2 ∧ wr.ownsRow w.heap.size 5 1 v l.length (bcells l) ∧ Below w.heap.size w wr) (fun x _ _ => (intOf x).toNat)
  case atStart => exact ⟨n, [], rfl, hn, rfl, by simp, World.ownsRow_nil _ _ _ _, Below.refl _ _⟩
  case round =>
    obtain ⟨m, l, rfl, hm, hl, hl2, hown, hb⟩ := hrel
    have hsz := hb.size
    by_cases hlt : 128 ≤ m
    · go_wp2_with (at_builtin; go_loud (refine wpList_app1 _ rfl _ _ 26 rfl w.heap.size 5 (.int .u8 0) 1 Try.underlying26 Try.infoU8 rfl wr _ rfl rfl _ _ _ rfl rfl hown (by unfold maxLen; omega) (by omega) hsz ?_); intro v' w' hown' hb'; have Ho := Lib.hid hown'; clear hown')
      go_roundw
      case rel =>
        have e1 : ((m : Int) % 128 + 128) = ((byteOf (m % 128 + 128)).toNat : Int) := by rw [byteOf_toNat (by omega)]; omega
        refine ⟨m / 128, l ++ [byteOf (m % 128 + 128)], by go_num, by omega, ?_, ?_, ?_, hb.trans hb'⟩
        · have := hl.out
          rw [numB_step hlt (by omega)] at this
          show (l ++ [byteOf (m % 128 + 128)]) ++ numB (m / 128) = numB n
          rw [← this]; simp
        · have h1 := hl.out
          have h2 := congrArg List.length h1
          rw [numB_step hlt (by omega)] at h2
          have := numB_length_le n
          have := numB_length_pos (m / 128)
          simp at h2 ⊢; omega
        · have := Ho.out
          rw [e1] at this
          rw [bcells_snoc, List.length_append]; exact this
      case measure => simp [intOf]; omega
    · have e1 : Value.int .u8 (m : Int) = .int .u8 ((byteOf m).toNat : Int) := byteV m (by omega)
      have E1 := Lib.hid e1
      clear e1
      have hfin : l ++ [byteOf m] = numB n := by have := hl.out; rw [numB_small (by omega)] at this; exact this
      have Hfin := Lib.hid hfin
      clear hfin
      go_wp2_with (at_builtin; refine wpList_app1 _ rfl _ _ 26 rfl w.heap.size 5 (.int .u8 0) 1 Try.underlying26 Try.infoU8 rfl wr _ rfl rfl _ _ _ rfl rfl hown (by unfold maxLen; omega) (by omega) hsz ?_; intro v' w' hown' hb'; rw [E1.out, ← bcells_snoc] at hown'; have hcv := conv_own (P := Try.prog) w' 26 5 9 Try.underlying26 Try.underlying5 Try.underlying9 w.heap.size v' (l ++ [byteOf m]) (l.length + 1) (by simp) hown'; clear hown')
      go_ret2
      exact ⟨by rw [Hfin.out]; rfl, hb.trans hb'⟩

/-- A number that is not told. -/
theorem numPut_no (n : Int) (w : World) (hn : n < 0 ∨ 999999 < n) :
    Calls Try.prog 53 #[.int .i64 n] w fun e w' => e = .returned (.tuple #[.string ⟨#[]⟩, .bool false]) ∧ w = w' := by
  rcases hn with hn | hn
  · go_enter Try.func53, Try.ntmps53
    go_wp2
    go_ret2
    exact ⟨rfl, rfl⟩
  · have h1 : ¬ n < 0 := by omega
    go_enter Try.func53, Try.ntmps53
    go_wp2
    go_ret2
    exact ⟨rfl, rfl⟩

theorem numText_any (n : Nat) (w : World) (hn : n ≤ 999999) :
    Calls Try.prog 41 #[.int .i64 n] w fun e w' => e = .returned (.string ⟨(numB n).toArray⟩) ∧ Below w.heap.size w w' := by
  go_enter Try.func41, Try.ntmps41
  go_wp2_with (go_at_call 53; refine (numPut_any n _ hn).mono ?_; rintro e w' ⟨rfl, hb⟩)
  go_ret
  exact ⟨rfl, hb⟩

/-- A text with its length ahead. -/
theorem sized_any (l : List UInt8) (w : World) (hn : l.length ≤ 999999) :
    Calls Try.prog 40 #[.string ⟨l.toArray⟩] w fun e w' => e = .returned (.string ⟨(numB l.length ++ l).toArray⟩) ∧ Below w.heap.size w w' := by
  have h3 := numB_length_le l.length
  go_enter Try.func40, Try.ntmps40
  go_wp2_with (go_at_call 41; refine (numText_any l.length _ hn).mono ?_; rintro e w' ⟨rfl, hb⟩)
  go_ret
  exact ⟨rfl, hb⟩

set_option maxHeartbeats 400000 in
theorem l1Put_one (n : Nat) (w : World) (hn : n < 128) :
    Calls Try.prog 52 #[.int .i64 n] w fun e w' => e = .returned (.string ⟨(numB n).toArray⟩) ∧ Below w.heap.size w w' := by
  have Hfin := Lib.hid (numB_small hn)
  have hcv := fun W => Try.conv1 W w.heap.size 1 (byteOf n)
  rw [byteOf_toNat (by omega)] at hcv
  go_enter Try.func52, Try.ntmps52
  go_wp2_with fail
  go_ret
  exact ⟨by rw [Hfin.out]; rfl, (Below.refl _ _).alloc (Nat.le_refl _) _⟩

set_option maxHeartbeats 400000 in
theorem l1Put_more (k : Nat) (hk : k < 2097152) (ih : ∀ (n : Nat) (w : World), n < k → Calls Try.prog 52 #[.int .i64 n] w fun e w' => e = .returned (.string ⟨(numB n).toArray⟩) ∧ Below w.heap.size w w') (w : World) (hn : 128 ≤ k) :
    Calls Try.prog 52 #[.int .i64 k] w fun e w' => e = .returned (.string ⟨(numB k).toArray⟩) ∧ Below w.heap.size w w' := by
  have h3 := numB_length_le (k / 128)
  have ih' := Lib.hid (ih (k / 128) · (by omega))
  have Hfin := Lib.hid (numB_step hn hk)
  clear ih
  have hcv := fun W g => Try.conv1 W g 1 (byteOf (k % 128 + 128))
  have h1 : IntKind.u8.wrap (IntKind.i64.wrap (128 + (k : Int).tmod 128)) = ((byteOf (k % 128 + 128)).toNat : Int) := by
    rw [byteOf_toNat (by omega), Int.tmod_eq_emod_of_nonneg (by omega), IntWalk.i64_in _ (by omega), IntWalk.u8_in _ (by omega)]; omega
  have h2 : IntKind.i64.wrap ((k : Int) / 128) = ((k / 128 : Nat) : Int) := by rw [IntWalk.i64_in _ (by omega)]; omega
  go_enter Try.func52, Try.ntmps52
  go_wp2_with fail
  go_region_with (go_at_call 52; refine (ih'.out _).mono ?_; rintro e w' ⟨rfl, hb⟩; obtain ⟨hc, hf, hz⟩ := bcell hb)
  all_goals
    go_wp2
    go_ret
    refine ⟨by rw [Hfin.out]; rfl, ?_⟩
    have hsz := hb.size
    repeat (first | exact Below.refl _ _ | refine Below.drew ?_ | refine Below.alloc ?_ (by simp at hsz ⊢; first | omega | done) _ | refine Below.trans ?_ (hb.mono (by simp)))

theorem l1Put_any (n : Nat) (w : World) (hn : n < 2097152) :
    Calls Try.prog 52 #[.int .i64 n] w fun e w' => e = .returned (.string ⟨(numB n).toArray⟩) ∧ Below w.heap.size w w' := by
  have key : ∀ k, k ≤ 2097152 → ∀ (n : Nat) (w : World), n < k → Calls Try.prog 52 #[.int .i64 n] w fun e w' => e = .returned (.string ⟨(numB n).toArray⟩) ∧ Below w.heap.size w w' := by
    intro k
    induction k with
    | zero => intro _ n w h; omega
    | succ k ih =>
      intro hk n w h
      by_cases h1 : n < 128
      · exact l1Put_one n w h1
      · by_cases h2 : n < k
        · exact ih (by omega) n w h2
        · obtain rfl : n = k := by omega
          exact l1Put_more n (by omega) (ih (by omega)) w (by omega)
  exact key 2097152 (Nat.le_refl _) n w hn
end Go.Proofs.Ytjbpjpakcpjheaa
