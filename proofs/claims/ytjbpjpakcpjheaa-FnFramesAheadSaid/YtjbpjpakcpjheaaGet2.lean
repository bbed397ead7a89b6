/- FramesGet and FramesFeed, of the program and of the reference: all come to getL. -/
import Derived.Test.YtjbpjpakcpjheaaGet
import Derived.Test.YtjbpjpakcpjheaaHead2
namespace Go.Proofs.Ytjbpjpakcpjheaa
open Go.RowKit
set_option maxRecDepth 100000
set_option linter.unusedVariables false
attribute [local go_sem] ba_get ba_toList ba_extract take_drop_all ByteArray.mk_append_mk

/-- What FramesGet comes to, for texts of every length. -/
def getR (s : List UInt8) : List (List UInt8) × Nat × List UInt8 × Bool :=
  if s.length ≤ 2000 then ((getL s).1, (getL s).2.1, (getL s).2.2, true) else ([], 0, [], false)

/-- What a call of FramesGet leaves: a slice of its own with the texts, and the three others. -/
def GetPost (r : List (List UInt8) × Nat × List UInt8 × Bool) (w : World) (e : Ending) (w' : World) : Prop :=
  ∃ v, e = .returned (.tuple #[v, .int .i64 r.2.1, .string ⟨r.2.2.1.toArray⟩, .bool r.2.2.2]) ∧ w'.ownsRow w.heap.size 9 1 v r.1.length (scells r.1) ∧ Below w.heap.size w w'

theorem implGet_post (s : List UInt8) (w : World) :
    Calls Try.prog 26 #[.string ⟨s.toArray⟩] w (GetPost (getR s) w) := by
  by_cases h : s.length ≤ 2000
  · have e : getR s = ((getL s).1, (getL s).2.1, (getL s).2.2, true) := if_pos h
    rw [e]
    exact implGet_any s w h
  · have e : getR s = ([], 0, [], false) := if_neg h
    rw [e]
    refine (implGet_no s w (by omega)).mono ?_
    rintro e w' ⟨rfl, rfl⟩
    exact ⟨_, rfl, World.ownsRow_nil _ _ _ _, Below.refl _ _⟩

set_option maxHeartbeats 1000000 in
theorem l9Get_any (s : List UInt8) (w : World) (hl : s.length ≤ 2000) :
    Calls Try.prog 50 #[.string ⟨s.toArray⟩] w fun e w' =>
      ∃ v, e = .returned (.tuple #[v, .int .i64 (getL s).2.1, .string ⟨(getL s).2.2.toArray⟩]) ∧ w'.ownsRow w.heap.size 9 1 v (getL s).1.length (scells (getL s).1) ∧ Below w.heap.size w w' := by
  go_enter Try.func50, Try.ntmps50
  go_wp2
  go_loopw [0, 5, 6] (fun t v n wr => ∃ (r : List UInt8) (done : List (List UInt8)) (k : Nat), t = .string ⟨r.toArray⟩ ∧ n = .int .i64 k ∧ Hid (getL s = (done ++ (getL r).1, k + (getL r).2.1, (getL r).2.2)) ∧ done.length + k + r.length ≤ s.length ∧ wr.ownsRow w.heap.size 9 1 v done.length (scells done) ∧ Below w.heap.size w wr) (fun t _ _ _ => strLen t)
  case atStart => exact ⟨s, [], 0, rfl, rfl, by show _ = _; simp, by simp, World.ownsRow_lit w #[] 0 (Nat.le_refl _) (Nat.zero_le _) rfl, (Below.refl _ _).alloc (Nat.le_refl _) _⟩
  case round =>
    obtain ⟨r, done, k, rfl, rfl, hget, hlen, hown, hb⟩ := hrel
    have hsz := hb.size
    by_cases hr : r = []
    · subst hr
      go_wp2_with fail
      go_ret3
      have h := hget.out
      rw [getL_nil] at h
      refine ⟨u5, ?_, ?_, hb⟩
      · rw [h]; rfl
      · rw [h]; simpa using hown
    · have hr0 : (r == []) = false := by simpa using hr
      have hcall := fun W => l9Head_any r W hr (by omega)
      have hle := headL_le r
      have hbd := headL_body r
      have g1 := getL_frame r hr
      have g2 := getL_may r hr
      have g3 := getL_junk r hr
      generalize headL r = hh at hcall hle hbd g1 g2 g3
      obtain ⟨body, size, may⟩ := hh
      simp only [headV] at hcall hle hbd g1 g2 g3
      have hget0 := hget.out
      clear hget
      by_cases h1 : 0 < size
      · have hn : Hid (getL s = ((done ++ [body]) ++ (getL (r.drop size)).1, k + (getL (r.drop size)).2.1, (getL (r.drop size)).2.2)) := by
          show _ = _
          rw [hget0, g1 h1]; simp
        have hd : decide (0 < size) = true := by simpa using h1
        simp only [hd, Bool.true_or] at hcall
        have Hcall := Lib.hid hcall
        clear hget0 g1 g2 g3 hcall hd
        go_wp2_with (first
          | (go_at_call 56; refine (Hcall.out _).mono ?_; rintro e w1 ⟨rfl, hb1⟩; have hb2 := hb.trans (hb1.mono hsz); have hsz2 := hb2.size; have hown2 := Lib.hid (ownsRow_below hown hb1))
          | (at_builtin; refine wpList_app1 _ rfl _ _ 29 rfl w.heap.size 9 (.string ⟨#[]⟩) 16 Try.underlying29 Try.infoStr rfl w1 _ rfl rfl _ _ _ rfl rfl hown2.out (by unfold maxLen; omega) (by omega) hsz2 ?_; intro v' w2 hown3 hb3; have Ho := Lib.hid hown3; clear hown3))
        go_roundw
        case rel =>
          refine ⟨r.drop size, done ++ [body], k, by simp, rfl, hn, ?_, ?_, hb2.trans hb3⟩
          · simp; omega
          · have := Ho.out
            rw [scells_snoc, List.length_append]; exact this
        case measure => simp [strLen]; omega
      · obtain rfl : size = 0 := by omega
        have hd : decide (0 < 0) = false := rfl
        simp only [hd, Bool.false_or] at hcall
        have Hcall := Lib.hid hcall
        clear hcall hd
        cases may with
        | true =>
          have hn : getL s = (done, k, r) := by rw [hget0, g2 rfl rfl]; simp
          have Hn := Lib.hid hn
          clear hget0 g1 g2 g3 hn
          go_wp2_with (go_at_call 56; refine (Hcall.out _).mono ?_; rintro e w1 ⟨rfl, hb1⟩)
          go_ret3
          refine ⟨u5, ?_, ?_, hb.trans (hb1.mono hsz)⟩
          · rw [Hn.out]; rfl
          · rw [Hn.out]; exact ownsRow_below hown hb1
        | false =>
          have hn : Hid (getL s = (done ++ (getL (r.drop 1)).1, (k + 1) + (getL (r.drop 1)).2.1, (getL (r.drop 1)).2.2)) := by
            show _ = _
            rw [hget0, g3 rfl rfl]; simp; omega
          have hrl : 0 < r.length := List.length_pos_iff.2 hr
          clear hget0 g1 g2 g3
          go_wp2_with (go_at_call 56; refine (Hcall.out _).mono ?_; rintro e w1 ⟨rfl, hb1⟩)
          go_roundw
          case rel =>
            refine ⟨r.drop 1, done, k + 1, by simp [take_tail_all], by go_num, hn, ?_, ownsRow_below hown hb1, hb.trans (hb1.mono hsz)⟩
            simp; omega
          case measure => simp [strLen]; omega

theorem specGet_post (s : List UInt8) (w : World) :
    Calls Try.prog 29 #[.string ⟨s.toArray⟩] w (GetPost (getR s) w) := by
  by_cases h : s.length ≤ 2000
  · have e : getR s = ((getL s).1, (getL s).2.1, (getL s).2.2, true) := if_pos h
    rw [e]
    go_enter Try.func29, Try.ntmps29
    go_wp2_with (go_at_call 50; refine (l9Get_any s _ h).mono ?_; rintro e w1 ⟨v, rfl, hown, hb⟩)
    refine bodyPost_ret (results_four rfl _ _ _) rfl ?_
    exact ⟨v, rfl, hown, hb⟩
  · have e : getR s = ([], 0, [], false) := if_neg h
    rw [e]
    go_enter Try.func29, Try.ntmps29
    go_wp2_with fail
    refine bodyPost_ret (results_four rfl _ _ _) rfl ?_
    exact ⟨_, rfl, World.ownsRow_lit w #[] 0 (Nat.le_refl _) (Nat.zero_le _) rfl, (Below.refl _ _).alloc (Nat.le_refl _) _⟩

theorem implFeed_post (a s : List UInt8) (w : World) (ha : a.length ≤ 4194304) (hs : s.length ≤ 4194304) :
    Calls Try.prog 34 #[.string ⟨a.toArray⟩, .string ⟨s.toArray⟩] w (GetPost (getR (a ++ s)) w) := by
  go_enter Try.func34, Try.ntmps34
  go_wp2_with (go_at_call 26; refine (implGet_post (a ++ s) _).mono ?_; rintro e w1 ⟨v, rfl, hown, hb⟩)
  refine bodyPost_ret (results_four rfl _ _ _) rfl ?_
  exact ⟨v, rfl, hown, hb⟩

theorem specFeed_post (a s : List UInt8) (w : World) :
    Calls Try.prog 33 #[.string ⟨a.toArray⟩, .string ⟨s.toArray⟩] w (GetPost (getR (a ++ s)) w) := by
  by_cases h1 : a.length ≤ 2000
  · by_cases h2 : s.length ≤ 2000
    · go_enter Try.func33, Try.ntmps33
      go_wp2_with (go_at_call 29; refine (specGet_post (a ++ s) _).mono ?_; rintro e w1 ⟨v, rfl, hown, hb⟩)
      refine bodyPost_ret (results_four rfl _ _ _) rfl ?_
      exact ⟨v, rfl, hown, hb⟩
    · have e : getR (a ++ s) = ([], 0, [], false) := if_neg (by simp; omega)
      rw [e]
      go_enter Try.func33, Try.ntmps33
      go_wp2_with fail
      refine bodyPost_ret (results_four rfl _ _ _) rfl ?_
      exact ⟨_, rfl, World.ownsRow_lit w #[] 0 (Nat.le_refl _) (Nat.zero_le _) rfl, (Below.refl _ _).alloc (Nat.le_refl _) _⟩
  · have e : getR (a ++ s) = ([], 0, [], false) := if_neg (by simp; omega)
    rw [e]
    go_enter Try.func33, Try.ntmps33
    go_wp2_with fail
    refine bodyPost_ret (results_four rfl _ _ _) rfl ?_
    exact ⟨_, rfl, World.ownsRow_lit w #[] 0 (Nat.le_refl _) (Nat.zero_le _) rfl, (Below.refl _ _).alloc (Nat.le_refl _) _⟩
end Go.Proofs.Ytjbpjpakcpjheaa
