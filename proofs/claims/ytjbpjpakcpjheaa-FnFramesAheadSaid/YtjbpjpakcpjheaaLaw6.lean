/- The walks of the laws FnExactFramesPut, FnFramesPut, FnFramesJunk, FnFramesAhead. -/
import Derived.Test.YtjbpjpakcpjheaaToS
import Derived.Test.YtjbpjpakcpjheaaPutI
import Derived.Test.YtjbpjpakcpjheaaSz
import Derived.Test.YtjbpjpakcpjheaaLaw4
import Derived.Test.YtjbpjpakcpjheaaEqs
namespace Go.Proofs.Ytjbpjpakcpjheaa
open Go.RowKit
set_option maxRecDepth 100000
set_option linter.unusedVariables false
attribute [local go_sem] ba_get ba_toList ba_extract take_drop_all ByteArray.mk_append_mk

theorem eq_own (b1 b2 n m : Nat) (v u : Value) (a b : List (List UInt8)) (w : World) (h1 : w.ownsRow b1 9 1 v n (scells a)) (h2 : w.ownsRow b2 9 1 u m (scells b)) :
    Calls Try.prog 24 #[v, u] w fun e w' => e = .returned (.bool (decide (a = b))) ∧ ∃ k, w' = w.drewN k := by
  obtain ⟨A, c, rfl, ha⟩ := RowAt.own h1
  obtain ⟨B, d, rfl, hb⟩ := RowAt.own h2
  exact eqStringS_any A B n m c d a b w ha hb

theorem implPut_own (b1 n : Nat) (v : Value) (a : List (List UInt8)) (w : World) (h : w.ownsRow b1 9 1 v n (scells a)) :
    Calls Try.prog 23 #[v] w fun e w' => e = .returned (.tuple #[.string ⟨(fpR a).1.toArray⟩, .bool (fpR a).2]) ∧ Below w.heap.size w w' := by
  obtain ⟨A, c, rfl, ha⟩ := RowAt.own h
  exact implFramesPut_any A n c a w ha
theorem specPut_own (b1 n : Nat) (v : Value) (a : List (List UInt8)) (w : World) (h : w.ownsRow b1 9 1 v n (scells a)) :
    Calls Try.prog 21 #[v] w fun e w' => e = .returned (.tuple #[.string ⟨(fpR a).1.toArray⟩, .bool (fpR a).2]) ∧ Below w.heap.size w w' := by
  obtain ⟨A, c, rfl, ha⟩ := RowAt.own h
  exact specFramesPut_any A n c a w ha

set_option maxHeartbeats 2000000 in
theorem FnExactFramesPut_walk (w : World) (A : Option Addr) (n c : Nat) (ls : List (List UInt8)) (h : RowAt w A n (scells ls)) (hs : ∀ s ∈ ls, s.length ≤ maxLen) :
    Calls Try.prog 6 #[.slice A n c] w fun e w' => e = .returned (.bool true) ∧ Below w.heap.size w w' := by
  have Hsz := szStringS_any A n c 1048576 ls w h hs (Nat.le_refl _)
  rw [show ((1048576 : Nat) : Int) = 1048576 from rfl] at Hsz
  have HSz := Lib.hid Hsz
  have H := Lib.hid h
  clear Hsz h hs
  go_enter Try.func6, Try.ntmps6
  go_wp2_with fail
  refine HSz.out.mono ?_
  rintro e w1 ⟨⟨x, rfl, hx1, hx2, hx3⟩, rfl⟩
  by_cases hx : 0 ≤ x
  · have hn : n ≤ 1048576 := by have := hx3 hx; omega
    clear hx3
    go_wp2_with fail
    refine (toStringS_any A n c ls w H.out hn).mono ?_
    rintro e w1 ⟨v1, rfl, ho1, hb1⟩
    have Ho1 := Lib.hid ho1
    have Hb1 := Lib.hid hb1
    clear ho1 hb1
    go_wp2_with fail
    refine (specPut_own _ _ _ _ _ Ho1.out).mono ?_
    rintro e w2 ⟨rfl, hb2⟩
    have Hb2 := Lib.hid (Hb1.out.trans (hb2.mono Hb1.out.size))
    clear hb2
    go_wp2_with fail
    refine (toStringS_any A n c ls w2 (H.out.below Hb2.out) hn).mono ?_
    rintro e w3 ⟨v3, rfl, ho3, hb3⟩
    have Ho3 := Lib.hid ho3
    have Hb3 := Lib.hid (Hb2.out.trans (hb3.mono Hb2.out.size))
    clear ho3 hb3
    go_wp2_with fail
    refine (implPut_own _ _ _ _ _ Ho3.out).mono ?_
    rintro e w4 ⟨rfl, hb4⟩
    have Ho4 := Lib.hid (ownsRow_below Ho3.out hb4)
    have Hb4 := Lib.hid (Hb3.out.trans (hb4.mono Hb3.out.size))
    clear hb4
    go_wp2_with fail
    refine (toStringS_any A n c ls w4 (H.out.below Hb4.out) hn).mono ?_
    rintro e w5 ⟨v5, rfl, ho5, hb5⟩
    have Ho5 := Lib.hid (ownsRow_below Ho4.out hb5)
    have Ho6 := Lib.hid ho5
    have Hb5 := Lib.hid (Hb4.out.trans (hb5.mono Hb4.out.size))
    clear ho5 hb5
    go_wp2_with fail
    refine (eq_own _ _ _ _ _ _ ls ls w5 Ho5.out Ho6.out).mono ?_
    rintro e w6 ⟨rfl, q, rfl⟩
    go_wp2_with fail
    go_ret
    exact ⟨rfl, below_drewN Hb5.out q⟩
  · clear hx3
    go_wp2_with fail
    go_ret
    exact ⟨rfl, Below.refl _ _⟩

set_option maxHeartbeats 2000000 in
theorem FnFramesPut_walk (w : World) (A : Option Addr) (n c : Nat) (l : List UInt8) (h : RowAt w A n (bcells l)) (hc : n ≤ c) (hcm : c ≤ maxLen) :
    Calls Try.prog 9 #[.slice A n c] w fun e w' => e = .returned (.bool true) ∧ Below w.heap.size w w' := by
  by_cases hn : n ≤ 1048576
  · go_enter Try.func9, Try.ntmps9
    go_wp2_with fail
    refine (DrawFramesPut_any A n c l w h hc hcm).mono ?_
    rintro e w1 ⟨v, ls, rfl, ho1, hls, hb1⟩
    have Ho1 := Lib.hid ho1
    have Hb1 := Lib.hid hb1
    clear ho1 hb1 h
    have hr : fpF ls [] = none ∧ fpR ls = ([], false) ∨ ∃ f, fpR ls = (f, true) ∧ getR f = (ls, 0, [], true) := by
      rcases hf : fpF ls [] with _ | f
      · exact .inl ⟨rfl, by unfold fpR; rw [hf]⟩
      · obtain ⟨e1, e2, e3⟩ := fpF_some ls [] f hf
        refine .inr ⟨f, by unfold fpR; rw [hf], ?_⟩
        have h1 := getL_framesB ls [] e2
        rw [List.append_nil, getL_nil] at h1
        simp at e1
        have h2 : f.length ≤ 2000 := e3 (by simp)
        unfold getR
        rw [if_pos h2, e1, h1]
        simp
    have Hi := Lib.hid (fun W u m b1 => implPut_own b1 m u ls W)
    have Hs := Lib.hid (fun W u m b1 => specPut_own b1 m u ls W)
    rcases hr with ⟨_, hr⟩ | ⟨f, hr, hg⟩
    · rw [hr] at Hi Hs
      clear hr
      go_wp2_with fail
      refine (Hi.out _ _ _ _ Ho1.out).mono ?_
      rintro e w2 ⟨rfl, hb2⟩
      have Ho2 := Lib.hid (ownsRow_below Ho1.out hb2)
      have Hb2 := Lib.hid (Hb1.out.trans (hb2.mono Hb1.out.size))
      clear hb2
      go_wp2_with fail
      refine (Hs.out _ _ _ _ Ho2.out).mono ?_
      rintro e w3 ⟨rfl, hb3⟩
      have Hb3 := Lib.hid (Hb2.out.trans (hb3.mono Hb2.out.size))
      clear hb3
      go_wp2_with fail
      go_ret
      exact ⟨rfl, Hb3.out⟩
    · rw [hr] at Hi Hs
      have Hg := Lib.hid (fun W => implGet_post f W)
      rw [hg] at Hg
      clear hr hg
      go_wp2_with fail
      refine (Hi.out _ _ _ _ Ho1.out).mono ?_
      rintro e w2 ⟨rfl, hb2⟩
      have Ho2 := Lib.hid (ownsRow_below Ho1.out hb2)
      have Hb2 := Lib.hid (Hb1.out.trans (hb2.mono Hb1.out.size))
      clear hb2
      go_wp2_with fail
      refine (Hs.out _ _ _ _ Ho2.out).mono ?_
      rintro e w3 ⟨rfl, hb3⟩
      have Ho3 := Lib.hid (ownsRow_below Ho2.out hb3)
      have Hb3 := Lib.hid (Hb2.out.trans (hb3.mono Hb2.out.size))
      clear hb3
      go_wp2_with fail
      refine (Hg.out _).mono ?_
      rintro e w4 ⟨u, rfl, own4, hb4⟩
      have Ho4 := Lib.hid (ownsRow_below Ho3.out hb4)
      have Ho5 := Lib.hid own4
      have Hb4 := Lib.hid (Hb3.out.trans (hb4.mono Hb3.out.size))
      clear hb4 own4
      go_wp2_with fail
      refine (wf_own _ _ _ _ _ _ ls ls w4 Ho5.out Ho4.out).mono ?_
      rintro e w6 ⟨rfl, q, rfl⟩
      go_wp2_with fail
      go_ret
      exact ⟨rfl, below_drewN Hb4.out q⟩
  · go_enter Try.func9, Try.ntmps9
    go_wp2_with fail
    go_ret
    exact ⟨rfl, Below.refl _ _⟩
end Go.Proofs.Ytjbpjpakcpjheaa
