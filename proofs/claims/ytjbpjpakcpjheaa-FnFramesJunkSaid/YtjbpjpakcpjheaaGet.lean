/- The program's reading of frames: frameAt, FramesGet, FramesFeed come to headL and getL. -/
import Derived.Test.YtjbpjpakcpjheaaFrame
import Derived.Test.YtjbpjpakcpjheaaFramesL2
import Derived.Test.YtjbpjpakcpjheaaPrefix
namespace Go.Proofs.Ytjbpjpakcpjheaa
open Go.RowKit
set_option maxRecDepth 100000
set_option linter.unusedVariables false
attribute [local go_sem] ba_get ba_toList ba_extract take_drop_all ByteArray.mk_append_mk

def strLen : Value → Nat
  | .string b => b.data.toList.length
  | _ => 0
theorem take_tail_all (l : List UInt8) : l.tail.take (l.length - 1) = l.tail := List.take_of_length_le (by simp)

set_option maxHeartbeats 1000000 in
theorem frameAt_any (s : List UInt8) (w : World) (hs : s ≠ []) (hl : s.length ≤ 2000) :
    Calls Try.prog 49 #[.string ⟨s.toArray⟩] w fun e w' => e = .returned (.tuple #[.string ⟨(headL s).1.toArray⟩, .int .i64 (headL s).2.1, .bool (headL s).2.2]) ∧ Below w.heap.size w w' := by
  have h0 : 0 < s.length := List.length_pos_iff.2 hs
  have hc0 : s[0].toNat < 256 := s[0].toNat_lt
  by_cases c1 : s[0].toNat = 126
  · have t1 : ((s[0].toNat : Int) == 126) = true := by simp; omega
    by_cases c2 : s.length = 1
    · have H := Lib.hid (headL_one s h0 c1 c2)
      have t2 : ((s.length : Int) == 1) = true := by simp; omega
      clear c2 c1
      go_enter Try.func49, Try.ntmps49
      go_wp2_with fail
      go_ret3
      exact ⟨by rw [H.out]; rfl, Below.refl _ _⟩
    · have t2 : ((s.length : Int) == 1) = false := by simp; omega
      have h1 : 1 < s.length := by omega
      have hc1 : s[1].toNat < 256 := s[1].toNat_lt
      by_cases c3 : 100 < s[1].toNat
      · have H := Lib.hid (headL_big s h1 c1 c3)
        clear c2 c1
        go_enter Try.func49, Try.ntmps49
        go_wp2_with fail
        go_ret3
        exact ⟨by rw [H.out]; rfl, Below.refl _ _⟩
      · by_cases c4 : s.length < 2 + s[1].toNat
        · have H := Lib.hid (headL_short s h1 c1 (by omega) c4)
          clear c2 c1
          go_enter Try.func49, Try.ntmps49
          go_wp2_with fail
          go_ret3
          exact ⟨by rw [H.out]; rfl, Below.refl _ _⟩
        · have H := Lib.hid (headL_rest s h1 c1 (by omega) (by omega))
          have hb : bodyL s = (s.drop 2).take s[1].toNat := bodyL_eq s h1
          have hbl : (bodyL s).length ≤ 100 := by rw [hb]; simp; omega
          have Hb := Lib.hid hb
          have hfl := frameB_le (bodyL s)
          clear c2 c1 hb
          go_enter Try.func49, Try.ntmps49
          go_wp2_with fail
          rw [← Hb.out]
          refine (implFramePut_any (bodyL s) _ hbl).mono ?_
          rintro e w1 ⟨rfl, hb1⟩
          by_cases p1 : (frameB (bodyL s)).isPrefixOf s = true
          · have H' := Lib.hid (H.out.trans (if_pos p1))
            clear H
            go_wp2_with (go_at_call 55; refine (hasPrefix_any s (frameB (bodyL s)) _).mono ?_; rintro e w2 ⟨rfl, rfl⟩)
            go_ret3
            exact ⟨by rw [H'.out, Hb.out]; rfl, hb1⟩
          · have p1' : (frameB (bodyL s)).isPrefixOf s = false := Bool.eq_false_iff.2 p1
            have H' := H.out.trans (if_neg p1)
            clear H
            by_cases p2 : s.isPrefixOf (frameB (bodyL s)) = true
            · have H2 := Lib.hid (H'.trans (if_pos p2))
              clear H' p1
              go_wp2_with (first
                | (go_at_call 55; refine (hasPrefix_any s (frameB (bodyL s)) _).mono ?_; rintro e w2 ⟨rfl, rfl⟩)
                | (go_at_call 55; refine (hasPrefix_any (frameB (bodyL s)) s _).mono ?_; rintro e w2 ⟨rfl, rfl⟩))
              go_ret3
              exact ⟨by rw [H2.out]; rfl, hb1⟩
            · have p2' : s.isPrefixOf (frameB (bodyL s)) = false := Bool.eq_false_iff.2 p2
              have H2 := Lib.hid (H'.trans (if_neg p2))
              clear H' p1 p2
              go_wp2_with (first
                | (go_at_call 55; refine (hasPrefix_any s (frameB (bodyL s)) _).mono ?_; rintro e w2 ⟨rfl, rfl⟩)
                | (go_at_call 55; refine (hasPrefix_any (frameB (bodyL s)) s _).mono ?_; rintro e w2 ⟨rfl, rfl⟩))
              go_ret3
              exact ⟨by rw [H2.out]; rfl, hb1⟩
  · have H2 := Lib.hid (headL_not s h0 c1)
    have t1 : ((s[0].toNat : Int) == 126) = false := by simp; omega
    go_enter Try.func49, Try.ntmps49
    go_wp2_with fail
    go_ret3
    exact ⟨by rw [H2.out]; rfl, Below.refl _ _⟩

set_option maxHeartbeats 1000000 in
theorem implGet_any (s : List UInt8) (w : World) (hl : s.length ≤ 2000) :
    Calls Try.prog 26 #[.string ⟨s.toArray⟩] w fun e w' =>
      ∃ v, e = .returned (.tuple #[v, .int .i64 (getL s).2.1, .string ⟨(getL s).2.2.toArray⟩, .bool true]) ∧ w'.ownsRow w.heap.size 9 1 v (getL s).1.length (scells (getL s).1) ∧ Below w.heap.size w w' := by
  go_enter Try.func26, Try.ntmps26
  go_wp2
  go_loopw [0, 6, 7] (fun t v n wr => ∃ (r : List UInt8) (done : List (List UInt8)) (k : Nat), t = .string ⟨r.toArray⟩ ∧ n = .int .i64 k ∧ Hid (getL s = (done ++ (getL r).1, k + (getL r).2.1, (getL r).2.2)) ∧ done.length + k + r.length ≤ s.length ∧ wr.ownsRow w.heap.size 9 1 v done.length (scells done) ∧ Below w.heap.size w wr) (fun t _ _ _ => strLen t)
  case atStart => exact ⟨s, [], 0, rfl, rfl, by show _ = _; simp, by simp, World.ownsRow_nil _ _ _ _, Below.refl _ _⟩
  case round =>
    obtain ⟨r, done, k, rfl, rfl, hget, hlen, hown, hb⟩ := hrel
    have hsz := hb.size
    by_cases hr : r = []
    · subst hr
      go_wp2_with fail
      refine bodyPost_ret (results_four rfl _ _ _) rfl ?_
      have h := hget.out
      rw [getL_nil] at h
      refine ⟨u6, ?_, ?_, hb⟩
      · rw [h]; rfl
      · rw [h]; simpa using hown
    · have hr0 : (r == []) = false := by simpa using hr
      have hcall := fun W => frameAt_any r W hr (by omega)
      have hle := headL_le r
      have hbd := headL_body r
      have g1 := getL_frame r hr
      have g2 := getL_may r hr
      have g3 := getL_junk r hr
      generalize headL r = hh at hcall hle hbd g1 g2 g3
      obtain ⟨body, size, may⟩ := hh
      simp only [] at hcall hle hbd g1 g2 g3
      have hget0 := hget.out
      clear hget
      have Hcall := Lib.hid hcall
      clear hcall
      by_cases h1 : 0 < size
      · have hn : Hid (getL s = ((done ++ [body]) ++ (getL (r.drop size)).1, k + (getL (r.drop size)).2.1, (getL (r.drop size)).2.2)) := by
          show _ = _
          rw [hget0, g1 h1]; simp
        clear hget0 g1 g2 g3
        go_wp2_with (first
          | (go_at_call 49; refine (Hcall.out _).mono ?_; rintro e w1 ⟨rfl, hb1⟩; have hb2 := hb.trans (hb1.mono hsz); have hsz2 := hb2.size; have hown2 := Lib.hid (ownsRow_below hown hb1))
          | (at_builtin; refine wpList_app1 _ rfl _ _ 29 rfl w.heap.size 9 (.string ⟨#[]⟩) 16 Try.underlying29 Try.infoStr rfl w1 _ rfl rfl _ _ _ rfl rfl hown2.out (by unfold maxLen; omega) (by omega) hsz2 ?_; intro v' w2 hown3 hb3; have Ho := Lib.hid hown3; clear hown3))
        go_roundw
        case rel =>
          refine ⟨r.drop size, done ++ [body], k, by simp, rfl, hn, ?_, ?_, hb2.trans hb3⟩
          · simp; omega
          · have := Ho.out
            rw [scells_snoc, List.length_append]; exact this
        case measure => simp [strLen]; omega
      · obtain rfl : size = 0 := by omega
        cases may with
        | true =>
          have hn : getL s = (done, k, r) := by rw [hget0, g2 rfl rfl]; simp
          have Hn := Lib.hid hn
          clear hget0 g1 g2 g3 hn
          go_wp2_with (go_at_call 49; refine (Hcall.out _).mono ?_; rintro e w1 ⟨rfl, hb1⟩)
          refine bodyPost_ret (results_four rfl _ _ _) rfl ?_
          refine ⟨u6, ?_, ?_, hb.trans (hb1.mono hsz)⟩
          · rw [Hn.out]; rfl
          · rw [Hn.out]; exact ownsRow_below hown hb1
        | false =>
          have hn : Hid (getL s = (done ++ (getL (r.drop 1)).1, (k + 1) + (getL (r.drop 1)).2.1, (getL (r.drop 1)).2.2)) := by
            show _ = _
            rw [hget0, g3 rfl rfl]; simp; omega
          have hrl : 0 < r.length := List.length_pos_iff.2 hr
          clear hget0 g1 g2 g3
          go_wp2_with (go_at_call 49; refine (Hcall.out _).mono ?_; rintro e w1 ⟨rfl, hb1⟩)
          go_roundw
          case rel =>
            refine ⟨r.drop 1, done, k + 1, by simp [take_tail_all], by go_num, hn, ?_, ownsRow_below hown hb1, hb.trans (hb1.mono hsz)⟩
            simp; omega
          case measure => simp [strLen]; omega

theorem implGet_no (s : List UInt8) (w : World) (hl : 2000 < s.length) :
    Calls Try.prog 26 #[.string ⟨s.toArray⟩] w fun e w' => e = .returned (.tuple #[.slice none 0 0, .int .i64 0, .string ⟨#[]⟩, .bool false]) ∧ w = w' := by
  go_enter Try.func26, Try.ntmps26
  go_wp2_with fail
  refine bodyPost_ret (results_four rfl _ _ _) rfl ?_
  exact ⟨rfl, rfl⟩
end Go.Proofs.Ytjbpjpakcpjheaa
