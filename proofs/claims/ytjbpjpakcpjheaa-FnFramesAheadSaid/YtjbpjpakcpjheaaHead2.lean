/- The reference's reading of one frame: l9Head comes to headL. -/
import Derived.Test.YtjbpjpakcpjheaaHead
namespace Go.Proofs.Ytjbpjpakcpjheaa
open Go.RowKit
set_option maxRecDepth 100000
set_option linter.unusedVariables false
attribute [local go_sem] ba_get ba_toList ba_extract take_drop_all ByteArray.mk_append_mk

/-- What l9Head returns. -/
def headV (s : List UInt8) (h : List UInt8 × Nat × Bool) : Value :=
  .tuple #[.string ⟨h.1.toArray⟩, .string ⟨(s.drop h.2.1).toArray⟩, .bool (decide (0 < h.2.1)), .bool (decide (0 < h.2.1) || h.2.2)]

theorem headV_not (s : List UInt8) (b : Bool) : headV s ([], 0, b) = .tuple #[.string ⟨#[]⟩, .string ⟨s.toArray⟩, .bool false, .bool b] := by simp [headV]

set_option maxHeartbeats 1000000 in
theorem l9Head_other (a : UInt8) (t : List UInt8) (w : World) (ha : ¬ a.toNat = 126) :
    Calls Try.prog 56 #[.string ⟨(a :: t).toArray⟩] w fun e w' => e = .returned (headV (a :: t) (headL (a :: t))) ∧ Below w.heap.size w w' := by
  have H := Lib.hid (show headV (a :: t) (headL (a :: t)) = .tuple #[.string ⟨#[]⟩, .string ⟨(a :: t).toArray⟩, .bool false, .bool false] by rw [headL_not (a :: t) (by simp) ha]; exact headV_not _ _)
  have t1 : ((a.toNat : Int) == 126) = false := by simp; omega
  clear ha
  go_enter Try.func56, Try.ntmps56
  go_wp2_with fail
  refine bodyPost_ret (results_four rfl _ _ _) rfl ?_
  exact ⟨by rw [H.out]; exact ret4 rfl rfl rfl rfl, Below.refl _ _⟩

set_option maxHeartbeats 1000000 in
theorem l9Head_no (t : List UInt8) (g : Bool) (p : List UInt8) (n : Nat) (w : World) (hl : t.length ≤ 9223372036854775800)
    (hp : partV t = .tuple #[.int .i64 n, .string ⟨p.toArray⟩, .bool false, .bool g]) (hh : headL (126 :: t) = ([], 0, g)) :
    Calls Try.prog 56 #[.string ⟨(126 :: t).toArray⟩] w fun e w' => e = .returned (headV (126 :: t) (headL (126 :: t))) ∧ Below w.heap.size w w' := by
  have H := Lib.hid (show headV (126 :: t) (headL (126 :: t)) = _ by rw [hh, headV_not])
  have hcall := fun W => l9Part_any t W hl
  simp only [hp] at hcall
  have Hcall := Lib.hid hcall
  clear hp hh hcall
  go_enter Try.func56, Try.ntmps56
  go_wp2_with (go_at_call 59; refine (Hcall.out _).mono ?_; rintro e w' ⟨rfl, k, rfl⟩)
  refine bodyPost_ret (results_four rfl _ _ _) rfl ?_
  exact ⟨by rw [H.out]; exact ret4 rfl rfl rfl rfl, below_drewN (Below.refl _ _) _⟩

theorem part_small (a : UInt8) (t : List UInt8) (ha : a.toNat ≤ 100) : partV (a :: t) = .tuple #[.int .i64 a.toNat, .string ⟨t.toArray⟩, .bool true, .bool true] := by
  have e : numGetL (a :: t) = some (a.toNat, t) := by simp [numGetL]; omega
  simp [partV, e, ha]

set_option maxHeartbeats 1000000 in
theorem l9Head_short (a : UInt8) (t : List UInt8) (w : World) (hl : t.length ≤ 9223372036854770000) (ha : a.toNat ≤ 100) (h : t.length < a.toNat) :
    Calls Try.prog 56 #[.string ⟨(126 :: a :: t).toArray⟩] w fun e w' => e = .returned (headV (126 :: a :: t) (headL (126 :: a :: t))) ∧ Below w.heap.size w w' := by
  have H := Lib.hid (show headV (126 :: a :: t) (headL (126 :: a :: t)) = _ by rw [headL_short' a t ha h, headV_not])
  have hcall := fun W => l9Part_any (a :: t) W (by simp; omega)
  simp only [part_small a t ha] at hcall
  have Hcall := Lib.hid hcall
  clear hcall
  go_enter Try.func56, Try.ntmps56
  go_wp2_with (go_at_call 59; refine (Hcall.out _).mono ?_; rintro e w' ⟨rfl, k, rfl⟩)
  refine bodyPost_ret (results_four rfl _ _ _) rfl ?_
  exact ⟨by rw [H.out]; exact ret4 rfl rfl rfl rfl, below_drewN (Below.refl _ _) _⟩

set_option maxHeartbeats 2000000 in
theorem l9Head_whole (a : UInt8) (t : List UInt8) (w : World) (hl : t.length ≤ 9223372036854770000) (ha : a.toNat ≤ 100) (hb : a.toNat ≤ t.length) :
    Calls Try.prog 56 #[.string ⟨(126 :: a :: t).toArray⟩] w fun e w' => e = .returned (headV (126 :: a :: t) (headL (126 :: a :: t))) ∧ Below w.heap.size w w' := by
  have hcall := fun W => l9Part_any (a :: t) W (by simp; omega)
  simp only [part_small a t ha] at hcall
  have Hcall := Lib.hid hcall
  have hs3 := numB_length_le (sumL (t.take a.toNat))
  have hlt := sumL_lt (t.take a.toNat)
  have Hput := Lib.hid (fun W => l1Put_any (sumL (t.take a.toNat)) W (by omega))
  have Hsum := Lib.hid (fun W => l9Sum_any (t.take a.toNat) W (by unfold maxLen; simp; omega))
  have hh := headL_sum a t ha hb
  have hp1 := isPrefixOf_take (t.drop a.toNat) (numB (sumL (t.take a.toNat)))
  have hp2 := isPrefixOf_take (numB (sumL (t.take a.toNat))) (t.drop a.toNat)
  have hpl := isPrefixOf_long (t.drop a.toNat) (numB (sumL (t.take a.toNat)))
  have hdl : (t.drop a.toNat).length = t.length - a.toNat := by simp
  rw [hdl] at hp2 hpl
  clear hcall
  generalize numB (sumL (t.take a.toNat)) = sm at hh hs3 Hput hp1 hp2 hpl
  rw [← hp1] at hh hpl
  rw [← hp2] at hh
  clear hp1 hp2 hdl
  have hcases : (t.length - a.toNat < sm.length ∧ ((sm.take (t.length - a.toNat) == t.drop a.toNat) = true ∨ (sm.take (t.length - a.toNat) == t.drop a.toNat) = false)) ∨
      (sm.length ≤ t.length - a.toNat ∧ (((t.drop a.toNat).take sm.length == sm) = true ∨ ((t.drop a.toNat).take sm.length == sm) = false)) := by
    rcases Nat.lt_or_ge (t.length - a.toNat) sm.length with h | h
    · exact .inl ⟨h, by cases (sm.take (t.length - a.toNat) == t.drop a.toNat) <;> simp⟩
    · exact .inr ⟨h, by cases ((t.drop a.toNat).take sm.length == sm) <;> simp⟩
  rcases hcases with ⟨h1, h2⟩ | ⟨h1, h2 | h2⟩
  · rw [hpl (by omega), if_neg (by simp)] at hh
    rcases h2 with h2 | h2
    · rw [if_pos h2] at hh
      have H := Lib.hid (show headV (126 :: a :: t) (headL (126 :: a :: t)) = _ by rw [hh, headV_not])
      clear hh hpl
      go_enter Try.func56, Try.ntmps56
      go_wp2_with (first
        | (go_at_call 59; refine (Hcall.out _).mono ?_; rintro e w' ⟨rfl, k, rfl⟩)
        | (go_at_call 37; refine (Hsum.out _).mono ?_; rintro e w' ⟨rfl, rfl⟩)
        | (go_at_call 52; refine (Hput.out _).mono ?_; rintro e w1 ⟨rfl, hb1⟩))
      go_quiet (fail)
      go_wp2
      refine bodyPost_ret (results_four rfl _ _ _) rfl ?_
      exact ⟨by rw [H.out]; exact ret4 rfl rfl rfl rfl, below_drewN ((below_drewN (Below.refl _ _) _).trans hb1) _⟩
    · rw [if_neg (by simp [h2])] at hh
      have H := Lib.hid (show headV (126 :: a :: t) (headL (126 :: a :: t)) = _ by rw [hh, headV_not])
      clear hh hpl
      go_enter Try.func56, Try.ntmps56
      go_wp2_with (first
        | (go_at_call 59; refine (Hcall.out _).mono ?_; rintro e w' ⟨rfl, k, rfl⟩)
        | (go_at_call 37; refine (Hsum.out _).mono ?_; rintro e w' ⟨rfl, rfl⟩)
        | (go_at_call 52; refine (Hput.out _).mono ?_; rintro e w1 ⟨rfl, hb1⟩))
      go_quiet (fail)
      go_wp2
      refine bodyPost_ret (results_four rfl _ _ _) rfl ?_
      exact ⟨by rw [H.out]; exact ret4 rfl rfl rfl rfl, below_drewN ((below_drewN (Below.refl _ _) _).trans hb1) _⟩
  · rw [if_pos h2] at hh
    have H := Lib.hid (show headV (126 :: a :: t) (headL (126 :: a :: t)) = .tuple #[.string ⟨(t.take a.toNat).toArray⟩, .string ⟨((t.drop a.toNat).drop sm.length).toArray⟩, .bool true, .bool true] by
      rw [hh]; unfold headV
      have e : (126 :: a :: t).drop (2 + a.toNat + sm.length) = (t.drop a.toNat).drop sm.length := by
        rw [List.drop_drop, show 2 + a.toNat + sm.length = (a.toNat + sm.length) + 2 from by omega]; rfl
      have e2 : decide (0 < 2 + a.toNat + sm.length) = true := by simp; omega
      simp only [e, e2, Bool.true_or])
    clear hh hpl
    go_enter Try.func56, Try.ntmps56
    go_wp2_with (first
      | (go_at_call 59; refine (Hcall.out _).mono ?_; rintro e w' ⟨rfl, k, rfl⟩)
      | (go_at_call 37; refine (Hsum.out _).mono ?_; rintro e w' ⟨rfl, rfl⟩)
      | (go_at_call 52; refine (Hput.out _).mono ?_; rintro e w1 ⟨rfl, hb1⟩))
    go_quiet (fail)
    go_wp2
    refine bodyPost_ret (results_four rfl _ _ _) rfl ?_
    exact ⟨by rw [H.out]; exact ret4 rfl (by simp; exact List.take_of_length_le (by simp; omega)) rfl rfl, below_drewN ((below_drewN (Below.refl _ _) _).trans hb1) _⟩
  · rw [if_neg (by simp [h2]), if_neg (by
      intro h3
      rw [List.take_of_length_le h1] at h3
      rw [← eq_of_beq h3] at h2
      simp at h2)] at hh
    have H := Lib.hid (show headV (126 :: a :: t) (headL (126 :: a :: t)) = _ by rw [hh, headV_not])
    clear hh hpl
    go_enter Try.func56, Try.ntmps56
    go_wp2_with (first
      | (go_at_call 59; refine (Hcall.out _).mono ?_; rintro e w' ⟨rfl, k, rfl⟩)
      | (go_at_call 37; refine (Hsum.out _).mono ?_; rintro e w' ⟨rfl, rfl⟩)
      | (go_at_call 52; refine (Hput.out _).mono ?_; rintro e w1 ⟨rfl, hb1⟩))
    refine bodyPost_ret (results_four rfl _ _ _) rfl ?_
    exact ⟨by rw [H.out]; exact ret4 rfl rfl rfl rfl, (below_drewN (Below.refl _ _) _).trans hb1⟩

theorem l9Head_any (s : List UInt8) (w : World) (hs : s ≠ []) (hl : s.length ≤ 9223372036854770000) :
    Calls Try.prog 56 #[.string ⟨s.toArray⟩] w fun e w' => e = .returned (headV s (headL s)) ∧ Below w.heap.size w w' := by
  rcases s with _ | ⟨a, t⟩
  · exact absurd rfl hs
  · have hl' : t.length < 9223372036854770000 := by simp at hl; omega
    by_cases ha : a.toNat = 126
    · obtain rfl : a = 126 := UInt8.toNat_inj.1 ha
      rcases t with _ | ⟨b, u⟩
      · exact l9Head_no [] true [] 0 w (by simp) (by simp [partV, numGetL]) headL_w
      · have hl2 : u.length < 9223372036854770000 := by simp at hl'; omega
        by_cases hb : b.toNat ≤ 100
        · by_cases hu : u.length < b.toNat
          · exact l9Head_short b u w (by omega) hb hu
          · exact l9Head_whole b u w (by omega) hb (by omega)
        · have hh := headL_big' b u (by omega)
          cases hn : numGetL (b :: u) with
          | none => exact l9Head_no (b :: u) false (b :: u) 0 w (by omega) (by simp [partV, hn]) hh
          | some p =>
            obtain ⟨n, r⟩ := p
            have h100 : ¬ n ≤ 100 := by
              rcases u with _ | ⟨c, _ | ⟨d, v⟩⟩
              · simp only [numGetL] at hn
                split at hn
                · simp at hn; omega
                · simp at hn
              · simp only [numGetL] at hn
                split at hn
                · simp at hn; omega
                · split at hn
                  · split at hn
                    · simp at hn
                    · simp at hn; omega
                  · simp at hn
              · simp only [numGetL] at hn
                split at hn
                · simp at hn; omega
                · split at hn
                  · split at hn
                    · simp at hn
                    · simp at hn; omega
                  · split at hn
                    · split at hn
                      · simp at hn
                      · simp only [Option.some.injEq, Prod.mk.injEq] at hn; omega
                    · simp at hn
            exact l9Head_no (b :: u) false r n w (by omega) (by simp [partV, hn, h100]) hh
    · exact l9Head_other a t w ha
end Go.Proofs.Ytjbpjpakcpjheaa
