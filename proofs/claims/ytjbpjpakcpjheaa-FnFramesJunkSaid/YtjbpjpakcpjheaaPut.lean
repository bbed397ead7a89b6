/- FramesPut of the reference. -/
import Derived.Test.YtjbpjpakcpjheaaFrame2
import Derived.Test.YtjbpjpakcpjheaaPutL
import Derived.Test.YtjbpjpakcpjheaaLib2
namespace Go.Proofs.Ytjbpjpakcpjheaa
open Go.RowKit
set_option maxRecDepth 100000
set_option linter.unusedVariables false
attribute [local go_sem] ba_get ba_toList ba_extract take_drop_all ByteArray.mk_append_mk

set_option maxHeartbeats 1000000 in
theorem specFramesPut_any (A : Option Addr) (n c : Nat) (ls : List (List UInt8)) (w : World) (h : RowAt w A n (scells ls)) :
    Calls Try.prog 21 #[.slice A n c] w fun e w' => e = .returned (.tuple #[.string ⟨(fpR ls).1.toArray⟩, .bool (fpR ls).2]) ∧ Below w.heap.size w w' := by
  have hl : ls.length = n := by have := h.1; simpa [scells] using this
  have hn63 : n ≤ 9223372036854775807 := by have := h.2.1; unfold maxLen at this; omega
  go_enter Try.func21, Try.ntmps21
  go_wp2
  go_loopw [4, 5] (fun o i wr => ∃ (k : Nat) (out : List UInt8), i = .int .i64 k ∧ k ≤ n ∧ o = .string ⟨out.toArray⟩ ∧ out.length ≤ 2000 ∧ Hid (fpF ls [] = fpF (ls.drop k) out) ∧ Below w.heap.size w wr) (fun _ i _ => n - (intOf i).toNat)
  case atStart => exact ⟨0, [], rfl, Nat.zero_le _, rfl, by simp, rfl, Below.refl _ _⟩
  case round =>
    obtain ⟨k, out, rfl, hk, rfl, ho, hinv, hb⟩ := hrel
    have hsz := hb.size
    by_cases hlt : k < n
    · obtain ⟨b, o, rfl, hbl, hc⟩ := (h.below hb).at_ hlt
      have hx : wr.cell? ⟨b, o + k, none⟩ = some (.string ⟨(ls[k]'(by omega)).toArray⟩) := by rw [hc]; simp [scells]
      have hd : ls.drop k = ls[k]'(by omega) :: ls.drop (k + 1) := List.drop_eq_getElem_cons (by omega)
      have hi2 := hinv.out
      rw [hd, fpF] at hi2
      generalize ls[k]'(show k < ls.length by omega) = s at hx hi2
      clear hc hd hinv
      have Hb := Lib.hid hb
      clear hb
      by_cases h100 : s.length ≤ 100
      · have hfl := frameB_le s
        by_cases hfit : out.length + (frameB s).length ≤ 2000
        · rw [if_pos ⟨h100, hfit⟩] at hi2
          have Hi := Lib.hid hi2
          clear hi2
          go_wp2_with fail
          refine (specFramePut_any s _ h100).mono ?_
          rintro e w1 ⟨rfl, hb1⟩
          have Hb1 := Lib.hid (Hb.out.trans (hb1.mono Hb.out.size))
          clear hb1
          go_wp2_with fail
          go_roundw
          case rel => exact ⟨k + 1, out ++ frameB s, by go_num, by omega, by simp, by rw [List.length_append]; omega, Hi.out, Hb1.out⟩
          case measure => simp [intOf]; omega
        · rw [if_neg (fun hh => hfit hh.2)] at hi2
          have Hr := Lib.hid (show fpR ls = ([], false) by unfold fpR; rw [hi2])
          clear hi2
          go_wp2_with fail
          refine (specFramePut_any s _ h100).mono ?_
          rintro e w1 ⟨rfl, hb1⟩
          have Hb1 := Lib.hid (Hb.out.trans (hb1.mono Hb.out.size))
          clear hb1
          go_wp2_with fail
          go_ret2
          exact ⟨by rw [Hr.out]; rfl, Hb1.out⟩
      · rw [if_neg (fun hh => h100 hh.1)] at hi2
        have Hr := Lib.hid (show fpR ls = ([], false) by unfold fpR; rw [hi2])
        clear hi2
        go_wp2_with fail
        refine (specFramePut_no s _ (by omega)).mono ?_
        rintro e w1 ⟨rfl, rfl⟩
        go_wp2_with fail
        go_ret2
        exact ⟨by rw [Hr.out]; rfl, Hb.out⟩
    · have hi2 := hinv.out
      rw [List.drop_of_length_le (by omega), fpF] at hi2
      have Hr := Lib.hid (show fpR ls = (out, true) by unfold fpR; rw [hi2])
      clear hi2 hinv
      go_wp2_with fail
      go_ret2
      exact ⟨by rw [Hr.out]; rfl, hb⟩
end Go.Proofs.Ytjbpjpakcpjheaa
