/- FramesPut of the program. -/
import Derived.Test.YtjbpjpakcpjheaaPut
import Derived.Test.YtjbpjpakcpjheaaBuild
namespace Go.Proofs.Ytjbpjpakcpjheaa
open Go.RowKit
set_option maxRecDepth 100000
set_option linter.unusedVariables false
attribute [local go_sem] ba_get ba_toList ba_extract take_drop_all ByteArray.mk_append_mk

theorem Bld.below {B b : Nat} {l : List UInt8} {w w' : World} (h : Bld B b l w) (hb : Below w.heap.size w w') : Bld B b l w' := by
  have key : ∀ p, BldAt B b p (bcells l) w → BldAt B b p (bcells l) w' := by
    rintro p ⟨hB, v, hbk, hown, hne⟩
    have hlt : b < w.heap.size := by
      rcases Nat.lt_or_ge b w.heap.size with h' | h'
      · exact h'
      · simp [Array.getElem?_eq_none h'] at hbk
    exact ⟨hB, v, (hb.block b hlt).trans hbk, ownsRow_below hown hb, hne⟩
  rcases h with h | h
  · exact .inl (key _ h)
  · exact .inr (key _ h)

set_option maxHeartbeats 1000000 in
theorem implFramesPut_any (A : Option Addr) (n c : Nat) (ls : List (List UInt8)) (w : World) (h : RowAt w A n (scells ls)) :
    Calls Try.prog 23 #[.slice A n c] w fun e w' => e = .returned (.tuple #[.string ⟨(fpR ls).1.toArray⟩, .bool (fpR ls).2]) ∧ Below w.heap.size w w' := by
  have hl : ls.length = n := by have := h.1; simpa [scells] using this
  have hn63 : n ≤ 9223372036854775807 := by have := h.2.1; unfold maxLen at this; omega
  have H := Lib.hid h
  have hl' := Lib.hid hl
  clear h hl
  go_enter Try.func23, Try.ntmps23
  go_wp2
  go_outline
  go_loopw [11] (fun i wr => ∃ (k : Nat) (out : List UInt8), i = .int .i64 k ∧ k ≤ n ∧ out.length ≤ 2000 ∧ Hid (fpF ls [] = fpF (ls.drop k) out) ∧ Hid (Bld w.heap.size w.heap.size out wr) ∧ Hid (Below w.heap.size w wr)) (fun i _ => n - (intOf i).toNat)
  case atStart => exact ⟨0, [], rfl, Nat.zero_le _, by simp, rfl, Bld_new w, (Below.refl _ _).alloc (Nat.le_refl _) _⟩
  case round =>
    obtain ⟨k, out, rfl, hk, ho, hinv, hB, hb⟩ := hrel
    by_cases hlt : k < n
    · obtain ⟨b, o, rfl, hbl, hc⟩ := (H.out.below hb.out).at_ hlt
      have hx : wr.cell? ⟨b, o + k, none⟩ = some (.string ⟨(ls[k]'(by have := hl'.out; omega)).toArray⟩) := by rw [hc]; simp [scells]
      have hd : ls.drop k = ls[k]'(by have := hl'.out; omega) :: ls.drop (k + 1) := List.drop_eq_getElem_cons (by have := hl'.out; omega)
      have hi2 := hinv.out
      rw [hd, fpF] at hi2
      generalize ls[k]'(show k < ls.length by have := hl'.out; omega) = s at hx hi2
      clear hc hd hinv
      by_cases h100 : s.length ≤ 100
      · have hfl := frameB_le s
        by_cases hfit : out.length + (frameB s).length ≤ 2000
        · rw [if_pos ⟨h100, hfit⟩] at hi2
          have Hi := Lib.hid hi2
          clear hi2
          go_wp2_with fail
          refine (implFramePut_any s _ h100).mono ?_
          rintro e w1 ⟨rfl, hb1⟩
          have Hb1 := Lib.hid (hb.out.trans (hb1.mono hb.out.size))
          have HB1 := Lib.hid (hB.out.below hb1)
          clear hb1
          go_wp2_with fail
          refine (BLen_any _ _ out _ HB1.out).mono ?_
          rintro e w2 ⟨rfl, rfl⟩
          go_wp2_with fail
          refine (BWrite_any _ _ out (frameB s) _ HB1.out (by omega) Hb1.out.size).mono ?_
          rintro e w2 ⟨rfl, hB2, hb2⟩
          have HB2 := Lib.hid hB2
          have Hb2 := Lib.hid (Hb1.out.trans hb2)
          clear hB2 hb2
          go_wp2_with fail
          go_roundw
          case rel => exact ⟨k + 1, out ++ frameB s, by go_num, by omega, by rw [List.length_append]; omega, Hi.out, HB2.out, Hb2.out⟩
          case measure => simp [intOf]; omega
        · rw [if_neg (fun hh => hfit hh.2)] at hi2
          have Hr := Lib.hid (show fpR ls = ([], false) by unfold fpR; rw [hi2])
          clear hi2
          go_wp2_with fail
          refine (implFramePut_any s _ h100).mono ?_
          rintro e w1 ⟨rfl, hb1⟩
          have Hb1 := Lib.hid (hb.out.trans (hb1.mono hb.out.size))
          have HB1 := Lib.hid (hB.out.below hb1)
          clear hb1
          go_wp2_with fail
          refine (BLen_any _ _ out _ HB1.out).mono ?_
          rintro e w2 ⟨rfl, rfl⟩
          go_wp2_with fail
          go_ret2
          exact ⟨by rw [Hr.out]; rfl, Hb1.out⟩
      · rw [if_neg (fun hh => h100 hh.1)] at hi2
        have Hr := Lib.hid (show fpR ls = ([], false) by unfold fpR; rw [hi2])
        clear hi2
        go_wp2_with fail
        refine (implFramePut_no s _ (by omega)).mono ?_
        rintro e w1 ⟨rfl, rfl⟩
        go_wp2_with fail
        go_ret2
        exact ⟨by rw [Hr.out]; rfl, hb.out⟩
    · have hi2 := hinv.out
      rw [List.drop_of_length_le (by have := hl'.out; omega), fpF] at hi2
      have Hr := Lib.hid (show fpR ls = (out, true) by unfold fpR; rw [hi2])
      clear hi2 hinv
      go_wp2_with fail
      refine (BString_any _ _ out _ hB.out hb.out.size).mono ?_
      rintro e w2 ⟨rfl, hb2⟩
      have Hb2 := Lib.hid (hb.out.trans hb2)
      clear hb2
      go_wp2_with fail
      go_ret2
      exact ⟨by rw [Hr.out]; rfl, Hb2.out⟩
end Go.Proofs.Ytjbpjpakcpjheaa
