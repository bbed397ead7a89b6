/- The walk of the law FnFramesFeed: parts of a stream are read as the whole. -/
import Derived.Test.YtjbpjpakcpjheaaLaw4
import Derived.Test.YtjbpjpakcpjheaaApp
import Derived.Test.YtjbpjpakcpjheaaLaw2
namespace Go.Proofs.Ytjbpjpakcpjheaa
open Go.RowKit
set_option maxRecDepth 100000
set_option linter.unusedVariables false
attribute [local go_sem] ba_get ba_toList ba_extract take_drop_all ByteArray.mk_append_mk

set_option maxHeartbeats 1600000 in
theorem FnFramesFeed_walk (w : World) (A : Option Addr) (n c : Nat) (l : List UInt8) (h : RowAt w A n (bcells l)) (hc : n ≤ c) (hcm : c ≤ maxLen)
    (B : Option Addr) (m d : Nat) (l2 : List UInt8) (h2 : RowAt w B m (bcells l2)) (hd : m ≤ d) (hdm : d ≤ maxLen) :
    Calls Try.prog 14 #[.slice A n c, .slice B m d] w fun e w' => e = .returned (.bool true) ∧ Below w.heap.size w w' := by
  by_cases hn : n ≤ 1048576
  · by_cases hm : m ≤ 1048576
    · go_enter Try.func14, Try.ntmps14
      go_wp2_with fail
      refine (DrawFramesFeed_any A n c l w h hc hcm).mono ?_
      rintro e w1 ⟨lf, s, rfl, hlf, hs, hb1⟩
      have hz1 := hb1.size
      have H2 := Lib.hid (h2.below hb1)
      clear h h2
      have Hi := Lib.hid (fun W => implFeed_post lf s W (by omega) (by omega))
      have Hs := Lib.hid (fun W => specFeed_post lf s W)
      have hr : getR (lf ++ s) = ((getL (lf ++ s)).1, (getL (lf ++ s)).2.1, (getL (lf ++ s)).2.2, true) := if_pos (by rw [List.length_append]; omega)
      rw [hr] at Hi Hs
      clear hr
      generalize getL (lf ++ s) = r at Hi Hs
      obtain ⟨ts, j, left⟩ := r
      simp only [] at Hi Hs
      go_wp2_with fail
      refine (Hi.out _).mono ?_
      rintro e w2 ⟨v1, rfl, own1, hb2⟩
      have hz2 := hb2.size
      have Own1 := Lib.hid own1
      clear own1
      go_wp2_with fail
      refine (Hs.out _).mono ?_
      rintro e w3 ⟨v0, rfl, own0, hb3⟩
      have hz3 := hb3.size
      have Own0 := Lib.hid own0
      clear own0
      go_wp2_with fail
      refine (wf_own _ _ _ _ v1 v0 ts ts w3 (ownsRow_below Own1.out hb3) Own0.out).mono ?_
      rintro e w4 ⟨rfl, q, rfl⟩
      have hbw : Below w.heap.size w (w3.drewN q) := below_drewN ((hb1.trans (hb2.mono hz1)).trans (hb3.mono (Nat.le_trans hz1 hz2))) q
      have h2' := Lib.hid (show RowAt (w3.drewN q) B m (bcells l2) from ((H2.out.below hb2).below hb3).below (below_drewN (Below.refl _ _) q))
      have Hbw := Lib.hid hbw
      clear hbw hb1 hb2 hb3 H2 Own0 Own1 Hi Hs
      go_wp2_with fail
      refine (DrawStreamOf_any B m d l2 _ h2'.out hd hdm).mono ?_
      rintro e w5 ⟨t, rfl, ht, hb5⟩
      have hb5w := Hbw.out.trans (hb5.mono Hbw.out.size)
      have Hb5 := Lib.hid hb5w
      clear hb5 hb5w h2' Hbw
      obtain ⟨k, hk, hkm⟩ : ∃ k : Nat, k ≤ t.length ∧ ((0 < t.length ∧ ((n : Int) + (m : Int)) % ((t.length : Int) + 1) = (k : Int)) ∨ (t.length = 0 ∧ k = 0)) := by
        by_cases h0 : 0 < t.length
        · have := Nat.mod_lt (n + m) (show 0 < t.length + 1 by omega)
          exact ⟨(n + m) % (t.length + 1), by omega, .inl ⟨h0, by simp⟩⟩
        · exact ⟨0, by omega, .inr ⟨by omega, rfl⟩⟩
      have k1 : (0 : Int) ≤ (k : Int) := by omega
      have k2 : (k : Int) ≤ (t.length : Int) := by omega
      have hpl := getL_parts (t.drop k) (t.take k).length (t.take k) (Nat.le_refl _)
      rw [List.take_append_drop] at hpl
      have hbl := (getL_bytes (t.take k)).1
      have Ha := Lib.hid (fun W => implGet_post (t.take k) W)
      have Hb := Lib.hid (fun W => implFeed_post (getL (t.take k)).2.2 (t.drop k) W (by simp at hbl; omega) (by simp; omega))
      have Hall := Lib.hid (fun W => implGet_post t W)
      have ra : getR (t.take k) = ((getL (t.take k)).1, (getL (t.take k)).2.1, (getL (t.take k)).2.2, true) := if_pos (by simp; omega)
      have rb : getR ((getL (t.take k)).2.2 ++ t.drop k) = ((getL ((getL (t.take k)).2.2 ++ t.drop k)).1, (getL ((getL (t.take k)).2.2 ++ t.drop k)).2.1, (getL ((getL (t.take k)).2.2 ++ t.drop k)).2.2, true) := if_pos (by simp at hbl ⊢; omega)
      have rt : getR t = ((getL t).1, (getL t).2.1, (getL t).2.2, true) := if_pos (by omega)
      have lb := getR_len ((getL (t.take k)).2.2 ++ t.drop k)
      have la := getR_len (t.take k)
      rw [ra] at Ha la
      rw [rb] at Hb lb
      rw [rt, hpl] at Hall
      clear ra rb rt hpl
      have hblt : (getL (t.take k)).2.2.length ≤ 480 := by simp at hbl; omega
      have hjb : (getL (t.take k)).2.1 ≤ 480 := by simp at hbl; omega
      have hjc : (getL ((getL (t.take k)).2.2 ++ t.drop k)).2.1 ≤ 960 := by
        have := (getL_bytes ((getL (t.take k)).2.2 ++ t.drop k)).1
        simp at this; omega
      generalize getL ((getL (t.take k)).2.2 ++ t.drop k) = rb at Hb Hall lb hjc
      generalize getL (t.take k) = ra at Ha Hb Hall hblt la hjb
      obtain ⟨ta, ja, fa⟩ := ra
      obtain ⟨tb, jb, fb⟩ := rb
      simp only [] at hblt Ha Hb Hall la lb hjb hjc
      clear hbl
      rcases hkm with ⟨h0, hkm⟩ | ⟨h0, hk0⟩
      rotate_left
      subst hk0
      have et : t = [] := List.eq_nil_of_length_eq_zero h0
      subst et
      simp only [List.take_nil, List.drop_nil] at Ha Hb Hall
      rotate_left
      all_goals
        go_wp2_with fail
        refine (Ha.out _).mono ?_
        rintro e w6 ⟨va, rfl, owna, hb6⟩
        have hz6 := hb6.size
        have Owna := Lib.hid owna
        clear owna
        go_wp2_with fail
        refine (Hb.out _).mono ?_
        rintro e w7 ⟨vb, rfl, ownb, hb7⟩
        have hz7 := hb7.size
        have Ownb := Lib.hid ownb
        clear ownb
        go_wp2_with fail
        refine (Hall.out _).mono ?_
        rintro e w8 ⟨vc, rfl, ownc, hb8⟩
        have hz8 := hb8.size
        have Owna8 := Lib.hid (ownsRow_below (ownsRow_below Owna.out hb7) hb8)
        have Ownb8 := Lib.hid (ownsRow_below Ownb.out hb8)
        have Ownc := Lib.hid ownc
        have hb8w := ((Hb5.out.trans (hb6.mono Hb5.out.size)).trans (hb7.mono (Nat.le_trans Hb5.out.size hz6))).trans (hb8.mono (Nat.le_trans Hb5.out.size (Nat.le_trans hz6 hz7)))
        have Hb8 := Lib.hid hb8w
        clear ownc hb6 hb7 hb8 hb8w Owna Ownb Ha Hb Hall
        have hjj : IntKind.i64.wrap ((ja : Int) + (jb : Int)) = (ja : Int) + (jb : Int) := IntWalk.i64_in _ (by omega)
        go_wp2_with (first
          | (at_builtin; refine wpList_appN _ (by kernel_rfl) _ _ 29 rfl w8.heap.size _ 9 (.string ⟨#[]⟩) 16 Try.underlying29 Try.infoStr rfl (.slice (some ⟨w8.heap.size, 0, none⟩) 0 0) 0 [] (by rfl) (World.ownsRow_lit w8 #[] 0 (Nat.le_refl _) (Nat.zero_le _) rfl) va ta.length (scells ta) (by rfl) (Owna8.out.alloc _) (scells_one ta) (by unfold maxLen; omega) (by omega) (by simp) ?_; intro v9 w9 own9 hb9 _; have Own9 := Lib.hid own9; have Hb9 := Lib.hid (((Below.refl w8.heap.size w8).alloc (Nat.le_refl _) _).trans hb9); have hz9 := Hb9.out.size; clear own9 hb9)
          | (at_builtin; refine wpList_appN _ (by kernel_rfl) _ _ 29 rfl w8.heap.size _ 9 (.string ⟨#[]⟩) 16 Try.underlying29 Try.infoStr rfl v9 _ _ (by rfl) Own9.out vb tb.length (scells tb) (by rfl) (ownsRow_below Ownb8.out Hb9.out) (scells_one tb) (by unfold maxLen; omega) (by omega) hz9 ?_; intro v10 w10 own10 hb10 _; have Own10 := Lib.hid own10; have Hb10 := Lib.hid (Hb9.out.trans hb10); clear own10 hb10))
        have own10 : w10.ownsRow w8.heap.size 9 1 v10 (0 + ta.length + tb.length) (scells (ta ++ tb)) := by
          have := Own10.out
          rw [scells_append]; simpa using this
        refine (wf_own _ _ _ _ v10 vc (ta ++ tb) (ta ++ tb) w10 own10 (ownsRow_below Ownc.out Hb10.out)).mono ?_
        clear own10
        rintro e w11 ⟨rfl, q2, rfl⟩
        go_wp2_with fail
        go_ret
        exact ⟨rfl, below_drewN (Hb8.out.trans (Hb10.out.mono Hb8.out.size)) q2⟩
    · clear h h2
      go_enter Try.func14, Try.ntmps14
      go_wp2_with fail
      go_ret
      exact ⟨rfl, Below.refl _ _⟩
  · clear h h2
    go_enter Try.func14, Try.ntmps14
    go_wp2_with fail
    go_ret
    exact ⟨rfl, Below.refl _ _⟩
end Go.Proofs.Ytjbpjpakcpjheaa
