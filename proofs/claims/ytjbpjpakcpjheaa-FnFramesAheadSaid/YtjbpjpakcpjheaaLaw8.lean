/- The walk of the law FnFramesAhead: frames ahead do not count. -/
import Derived.Test.YtjbpjpakcpjheaaLaw6
import Derived.Test.YtjbpjpakcpjheaaLaw2
namespace Go.Proofs.Ytjbpjpakcpjheaa
open Go.RowKit
set_option maxRecDepth 100000
set_option linter.unusedVariables false
attribute [local go_sem] ba_get ba_toList ba_extract take_drop_all ByteArray.mk_append_mk

set_option maxHeartbeats 2000000 in
theorem FnFramesAhead_walk (w : World) (A : Option Addr) (n c : Nat) (l : List UInt8) (h : RowAt w A n (bcells l)) (hc : n ≤ c) (hcm : c ≤ maxLen)
    (B : Option Addr) (m d : Nat) (l2 : List UInt8) (h2 : RowAt w B m (bcells l2)) (hd : m ≤ d) (hdm : d ≤ maxLen) :
    Calls Try.prog 11 #[.slice A n c, .slice B m d] w fun e w' => e = .returned (.bool true) ∧ Below w.heap.size w w' := by
  by_cases hn : n ≤ 1048576
  · by_cases hm : m ≤ 1048576
    · go_enter Try.func11, Try.ntmps11
      go_wp2_with fail
      refine (DrawFramesPut_any A n c l w h hc hcm).mono ?_
      rintro e w1 ⟨v, ls, rfl, ho1, hls, hb1⟩
      have Ho1 := Lib.hid ho1
      have Hb1 := Lib.hid hb1
      have H2 := Lib.hid h2
      clear ho1 hb1 h h2
      have hr : fpR ls = ([], false) ∨ ∃ f, fpR ls = (f, true) ∧ f = framesB ls ∧ (∀ b ∈ ls, b.length ≤ 100) ∧ f.length ≤ 2000 := by
        rcases hf : fpF ls [] with _ | f
        · exact .inl (by unfold fpR; rw [hf])
        · obtain ⟨e1, e2, e3⟩ := fpF_some ls [] f hf
          simp at e1
          exact .inr ⟨f, by unfold fpR; rw [hf], e1, e2, e3 (by simp)⟩
      have Hi := Lib.hid (fun W u m b1 => implPut_own b1 m u ls W)
      have Hs := Lib.hid (fun W u m b1 => specPut_own b1 m u ls W)
      rcases hr with hr | ⟨f, hr, hfl, h100, hf2⟩
      · rw [hr] at Hi Hs
        clear hr
        go_wp2_with fail
        refine (Hi.out _ _ _ _ Ho1.out).mono ?_
        rintro e w2 ⟨rfl, hb2⟩
        have Ho2 := Lib.hid (ownsRow_below Ho1.out hb2)
        have Hb2 := Lib.hid (Hb1.out.trans (hb2.mono Hb1.out.size))
        clear hb2
        go_wp2_with fail
        refine (Hs.out _ _ _ _ Ho2.out).mono ?_
        rintro e w3 ⟨rfl, hb3⟩
        have Hb3 := Lib.hid (Hb2.out.trans (hb3.mono Hb2.out.size))
        clear hb3
        go_wp2_with fail
        go_ret
        exact ⟨rfl, Hb3.out⟩
      · rw [hr] at Hi Hs
        have Hfl := Lib.hid hfl
        have H100 := Lib.hid h100
        clear hr hfl h100
        go_wp2_with fail
        refine (Hi.out _ _ _ _ Ho1.out).mono ?_
        rintro e w2 ⟨rfl, hb2⟩
        have Ho2 := Lib.hid (ownsRow_below Ho1.out hb2)
        have Hb2 := Lib.hid (Hb1.out.trans (hb2.mono Hb1.out.size))
        clear hb2
        go_wp2_with fail
        refine (Hs.out _ _ _ _ Ho2.out).mono ?_
        rintro e w3 ⟨rfl, hb3⟩
        have Ho3 := Lib.hid (ownsRow_below Ho2.out hb3)
        have Hb3 := Lib.hid (Hb2.out.trans (hb3.mono Hb2.out.size))
        have H23 := Lib.hid (H2.out.below Hb3.out)
        clear hb3 Hi Hs
        go_wp2_with fail
        refine (DrawStreamOf_any B m d l2 _ H23.out hd hdm).mono ?_
        rintro e w4 ⟨t, rfl, ht, hb4⟩
        have Ho4 := Lib.hid (ownsRow_below Ho3.out hb4)
        have Hb4 := Lib.hid (Hb3.out.trans (hb4.mono Hb3.out.size))
        clear hb4
        have Ha := Lib.hid (fun W => implGet_post t W)
        have Hall := Lib.hid (fun W => implGet_post (f ++ t) W)
        have ra : getR t = ((getL t).1, (getL t).2.1, (getL t).2.2, true) := if_pos (by omega)
        have hg := getL_framesB ls t H100.out
        rw [← Hfl.out] at hg
        have la := getR_len t
        rw [ra] at Ha la
        generalize getL t = ra at Ha la hg
        obtain ⟨ta, ja, fa⟩ := ra
        simp only [] at Ha la hg
        clear ra
        by_cases h20 : (f ++ t).length ≤ 2000
        · have rb : getR (f ++ t) = (ls ++ ta, ja, fa, true) := by unfold getR; rw [if_pos h20, hg]
          rw [rb] at Hall
          clear rb hg h20
          go_wp2_with fail
          refine (Ha.out _).mono ?_
          rintro e w6 ⟨va, rfl, owna, hb6⟩
          have hz6 := hb6.size
          have Owna := Lib.hid owna
          clear owna
          go_wp2_with fail
          refine (Hall.out _).mono ?_
          rintro e w8 ⟨vc, rfl, ownc, hb8⟩
          have hz8 := hb8.size
          have Owna8 := Lib.hid (ownsRow_below Owna.out hb8)
          have Ownb8 := Lib.hid (ownsRow_below (ownsRow_below Ho4.out hb6) hb8)
          have Ownc := Lib.hid ownc
          have hb8w := (Hb4.out.trans (hb6.mono Hb4.out.size)).trans (hb8.mono (Nat.le_trans Hb4.out.size hz6))
          have Hb8 := Lib.hid hb8w
          clear ownc hb6 hb8 hb8w Owna Ha Hall
          go_wp2_with (first
            | (at_builtin; refine wpList_appN _ (by kernel_rfl) _ _ 29 rfl w8.heap.size _ 9 (.string ⟨#[]⟩) 16 Try.underlying29 Try.infoStr rfl (.slice (some ⟨w8.heap.size, 0, none⟩) 0 0) 0 [] (by rfl) (World.ownsRow_lit w8 #[] 0 (Nat.le_refl _) (Nat.zero_le _) rfl) v ls.length (scells ls) (by rfl) (Ownb8.out.alloc _) (scells_one ls) (by unfold maxLen; omega) (by omega) (by simp) ?_; intro v9 w9 own9 hb9 _; have Own9 := Lib.hid own9; have Hb9 := Lib.hid (((Below.refl w8.heap.size w8).alloc (Nat.le_refl _) _).trans hb9); have hz9 := Hb9.out.size; clear own9 hb9)
            | (at_builtin; refine wpList_appN _ (by kernel_rfl) _ _ 29 rfl w8.heap.size _ 9 (.string ⟨#[]⟩) 16 Try.underlying29 Try.infoStr rfl v9 _ _ (by rfl) Own9.out va ta.length (scells ta) (by rfl) (ownsRow_below Owna8.out Hb9.out) (scells_one ta) (by unfold maxLen; omega) (by omega) hz9 ?_; intro v10 w10 own10 hb10 _; have Own10 := Lib.hid own10; have Hb10 := Lib.hid (Hb9.out.trans hb10); clear own10 hb10))
          have own10 : w10.ownsRow w8.heap.size 9 1 v10 (0 + ls.length + ta.length) (scells (ls ++ ta)) := by
            have := Own10.out
            rw [scells_append]; simpa using this
          refine (wf_own _ _ _ _ v10 vc (ls ++ ta) (ls ++ ta) w10 own10 (ownsRow_below Ownc.out Hb10.out)).mono ?_
          clear own10
          rintro e w11 ⟨rfl, q2, rfl⟩
          go_wp2_with fail
          go_ret
          exact ⟨rfl, below_drewN (Hb8.out.trans (Hb10.out.mono Hb8.out.size)) q2⟩
        · have rb : getR (f ++ t) = ([], 0, [], false) := by unfold getR; rw [if_neg h20]
          rw [rb] at Hall
          clear rb hg h20
          go_wp2_with fail
          refine (Ha.out _).mono ?_
          rintro e w6 ⟨va, rfl, owna, hb6⟩
          have Hb6 := Lib.hid (Hb4.out.trans (hb6.mono Hb4.out.size))
          clear owna hb6
          go_wp2_with fail
          refine (Hall.out _).mono ?_
          rintro e w8 ⟨vc, rfl, ownc, hb8⟩
          have Hb8 := Lib.hid (Hb6.out.trans (hb8.mono Hb6.out.size))
          clear ownc hb8
          go_wp2_with fail
          go_ret
          exact ⟨rfl, Hb8.out⟩
    · clear h h2
      go_enter Try.func11, Try.ntmps11
      go_wp2_with fail
      go_ret
      exact ⟨rfl, Below.refl _ _⟩
  · clear h h2
    go_enter Try.func11, Try.ntmps11
    go_wp2_with fail
    go_ret
    exact ⟨rfl, Below.refl _ _⟩
end Go.Proofs.Ytjbpjpakcpjheaa
