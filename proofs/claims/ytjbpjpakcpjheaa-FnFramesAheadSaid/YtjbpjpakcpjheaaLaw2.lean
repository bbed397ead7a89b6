/- The walks of the laws that compare FramesGet and FramesFeed with the reference, and look whether results share memory. -/
import Derived.Test.YtjbpjpakcpjheaaGet2
import Derived.Test.YtjbpjpakcpjheaaEqs
import Derived.Test.YtjbpjpakcpjheaaHeld
namespace Go.Proofs.Ytjbpjpakcpjheaa
open Go.RowKit
set_option maxRecDepth 100000
set_option linter.unusedVariables false
attribute [local go_sem] ba_get ba_toList ba_extract take_drop_all ByteArray.mk_append_mk

/-- A row of the call's own, its address told: nil, or a block from base on. -/
theorem own_form {w : World} {base : Nat} {e : TypeId} {v : Value} {n : Nat} {xs : List Value} (h : w.ownsRow base e 1 v n xs) :
    (v = .slice none 0 0 ∧ n = 0) ∨ ∃ g c, v = .slice (some ⟨g, 0, none⟩) n c ∧ base ≤ g ∧ g < w.heap.size := by
  rcases h.2 with ⟨rfl, rfl⟩ | ⟨g, cap, cur, rfl, hb, hh, hnc, hcm, hcs, htk⟩
  · exact .inl ⟨rfl, rfl⟩
  · exact .inr ⟨g, cap, rfl, hb, (h.lt g rfl).2⟩

/-- The marks are written into a result: nil or not. -/
theorem mark_any (base n k : Nat) (v : Value) (ls : List (List UInt8)) (w : World) (hk : k + n ≤ 4000000000) (hown : w.ownsRow base 9 1 v n (scells ls)) :
    Calls Try.prog 30 #[v, .int .i64 k] w fun e w' =>
      e = .returned (.int .i64 ((k + n : Nat) : Int)) ∧ w'.ownsRow base 9 1 v n (scells (marks k n)) ∧ w.grownBy w' v.ownBlock := by
  rcases own_form hown with ⟨rfl, rfl⟩ | ⟨g, c, rfl, _, _⟩
  · have hz : ls = [] := List.eq_nil_of_length_eq_zero (by have := hown.1; simpa [scells] using this)
    subst hz
    go_enter Try.func30, Try.ntmps30
    go_wp2
    refine wp_loop_rounds 1 ?_
    rw [rounds_succ]
    go_wp2
    go_ret
    exact ⟨rfl, hown, World.grownBy.refl _ _⟩
  · exact markStringS_any base g c n k ls w hk hown

theorem eq_own (b1 b2 n m : Nat) (v u : Value) (a b : List (List UInt8)) (w : World) (h1 : w.ownsRow b1 9 1 v n (scells a)) (h2 : w.ownsRow b2 9 1 u m (scells b)) :
    Calls Try.prog 24 #[v, u] w fun e w' => e = .returned (.bool (decide (a = b))) ∧ ∃ k, w' = w.drewN k := by
  obtain ⟨A, c, rfl, ha⟩ := RowAt.own h1
  obtain ⟨B, d, rfl, hb⟩ := RowAt.own h2
  exact eqStringS_any A B n m c d a b w ha hb

theorem held_own (b1 n k : Nat) (v : Value) (w : World) (hk : k + n ≤ 4000000000) (h1 : w.ownsRow b1 9 1 v n (scells (marks k n))) :
    Calls Try.prog 31 #[v, .int .i64 k] w fun e w' => e = .returned (.int .i64 ((k + n : Nat) : Int)) ∧ Below w.heap.size w w' := by
  obtain ⟨A, c, rfl, ha⟩ := RowAt.own h1
  exact heldStringS_any A c n k w hk ha

/-- Rows made one behind the other do not share a block. -/
theorem own_apart {w1 w2 : World} {b0 n m : Nat} {e : TypeId} {v u : Value} {xs ys : List Value} (h0 : w1.ownsRow b0 e 1 v n xs) (h1 : w2.ownsRow w1.heap.size e 1 u m ys) : v.ownBlock = none ∨ v.ownBlock ≠ u.ownBlock := by
  cases hv : v.ownBlock with
  | none => exact .inl rfl
  | some g =>
    refine .inr fun hu => ?_
    have h2 := (h0.lt g hv).2
    have h3 := (h1.lt g hu.symm).1
    omega

theorem getR_len (s : List UInt8) : (getR s).1.length ≤ 2000 := by
  unfold getR
  split
  · rename_i h
    have : ∀ (f : Nat) (s : List UInt8), (getF f s).1.length ≤ s.length := by
      intro f
      induction f with
      | zero => intro s; simp [getF]
      | succ f ih =>
        intro s
        simp only [getF]
        split
        · simp
        · split
          · rename_i h1 h2
            have := ih (s.drop (headL s).2.1)
            have := headL_le s
            simp at *; omega
          · split
            · simp
            · have := ih (s.drop 1)
              simp at *; omega
    have := this s.length s
    unfold getL
    exact Nat.le_trans this h
  · simp

set_option maxHeartbeats 2000000 in
theorem FnExactFramesGet_walk (w : World) (l : List UInt8) (hl : l.length ≤ maxLen) :
    Calls Try.prog 10 #[.string ⟨l.toArray⟩] w fun e w' => e = .returned (.bool true) ∧ Below w.heap.size w w' := by
  by_cases h : l.length ≤ 1048576
  · have Hs := Lib.hid (fun W => specGet_post l W)
    have Hi := Lib.hid (fun W => implGet_post l W)
    have hlen := getR_len l
    generalize getR l = r at Hs Hi hlen
    obtain ⟨ts, j, left, ok⟩ := r
    simp only [] at hlen
    go_enter Try.func10, Try.ntmps10
    go_wp2_with fail
    refine (Hs.out _).mono ?_
    rintro e w1 ⟨v0, rfl, own0, hb0⟩
    have hz0 := hb0.size
    have Own0 := Lib.hid own0
    clear own0
    go_wp2_with fail
    refine (Hi.out _).mono ?_
    rintro e w2 ⟨v1, rfl, own1, hb1⟩
    have hz1 := hb1.size
    have Own1 := Lib.hid own1
    clear own1
    go_wp2_with fail
    refine (eq_own _ _ _ _ v1 v0 ts ts w2 Own1.out (ownsRow_below Own0.out hb1)).mono ?_
    rintro e w3 ⟨rfl, q, rfl⟩
    go_wp2_with fail
    refine (mark_any _ _ 1 v1 ts (w2.drewN q) (by omega) Own1.out).mono ?_
    rintro e w4 ⟨rfl, own4, hg4⟩
    have Own4 := Lib.hid own4
    clear own4
    have hz4 : w2.heap.size ≤ w4.heap.size := hg4.size
    have own04 := (show (w2.drewN q).ownsRow w.heap.size 9 1 v0 ts.length (scells ts) from ownsRow_below Own0.out (below_drewN hb1 q)).kept hg4 (own_apart Own0.out Own1.out)
    have Own04 := Lib.hid own04
    have hb4 : Below w1.heap.size w1 w4 := (below_drewN hb1 q).grown hg4 hz1 (fun k hk => (Own1.out.lt k hk).1)
    clear own04
    go_wp2_with fail
    refine (held_own _ _ 1 v1 w4 (by omega) Own4.out).mono ?_
    rintro e w5 ⟨rfl, hb5⟩
    go_wp2_with fail
    refine (Hi.out _).mono ?_
    rintro e w6 ⟨v2, rfl, own6, hb6⟩
    have Own6 := Lib.hid own6
    clear own6
    have hz5 := hb5.size
    have hz6 := hb6.size
    go_wp2_with fail
    refine (eq_own _ _ _ _ v2 v0 ts ts w6 Own6.out (ownsRow_below (ownsRow_below Own04.out hb5) hb6)).mono ?_
    rintro e w7 ⟨rfl, q2, rfl⟩
    go_wp2_with fail
    refine (held_own _ _ 1 v1 (w6.drewN q2) (by omega) (show (w6.drewN q2).ownsRow _ _ _ _ _ _ from ownsRow_below (ownsRow_below Own4.out hb5) (below_drewN hb6 q2))).mono ?_
    rintro e w8 ⟨rfl, hb8⟩
    go_wp2_with fail
    go_ret
    refine ⟨rfl, ?_⟩
    have c1 : Below w.heap.size w w4 := hb0.trans (hb4.mono hz0)
    have c2 : Below w.heap.size w w6 := (c1.trans (hb5.mono c1.size)).trans (hb6.mono (Nat.le_trans c1.size hz5))
    exact (below_drewN c2 q2).trans (hb8.mono c2.size)
  · go_enter Try.func10, Try.ntmps10
    go_wp2_with fail
    go_ret
    exact ⟨rfl, Below.refl _ _⟩

set_option maxHeartbeats 2000000 in
theorem FnExactFramesFeed_walk (w : World) (a : List UInt8) (ha : a.length ≤ maxLen) (s : List UInt8) (hs : s.length ≤ maxLen) :
    Calls Try.prog 12 #[.string ⟨a.toArray⟩, .string ⟨s.toArray⟩] w fun e w' => e = .returned (.bool true) ∧ Below w.heap.size w w' := by
  by_cases h : a.length ≤ 1048576 ∧ s.length ≤ 1048576
  · obtain ⟨h1, h2⟩ := h
    have Hs := Lib.hid (fun W => specFeed_post a s W)
    have Hi := Lib.hid (fun W => implFeed_post a s W (by omega) (by omega))
    have hlen := getR_len (a ++ s)
    generalize getR (a ++ s) = r at Hs Hi hlen
    obtain ⟨ts, j, left, ok⟩ := r
    simp only [] at hlen
    go_enter Try.func12, Try.ntmps12
    go_wp2_with fail
    refine (Hs.out _).mono ?_
    rintro e w1 ⟨v0, rfl, own0, hb0⟩
    have hz0 := hb0.size
    have Own0 := Lib.hid own0
    clear own0
    go_wp2_with fail
    refine (Hi.out _).mono ?_
    rintro e w2 ⟨v1, rfl, own1, hb1⟩
    have hz1 := hb1.size
    have Own1 := Lib.hid own1
    clear own1
    go_wp2_with fail
    refine (eq_own _ _ _ _ v1 v0 ts ts w2 Own1.out (ownsRow_below Own0.out hb1)).mono ?_
    rintro e w3 ⟨rfl, q, rfl⟩
    go_wp2_with fail
    refine (mark_any _ _ 1 v1 ts (w2.drewN q) (by omega) Own1.out).mono ?_
    rintro e w4 ⟨rfl, own4, hg4⟩
    have Own4 := Lib.hid own4
    clear own4
    have hz4 : w2.heap.size ≤ w4.heap.size := hg4.size
    have own04 := (show (w2.drewN q).ownsRow w.heap.size 9 1 v0 ts.length (scells ts) from ownsRow_below Own0.out (below_drewN hb1 q)).kept hg4 (own_apart Own0.out Own1.out)
    have Own04 := Lib.hid own04
    have hb4 : Below w1.heap.size w1 w4 := (below_drewN hb1 q).grown hg4 hz1 (fun k hk => (Own1.out.lt k hk).1)
    clear own04
    go_wp2_with fail
    refine (held_own _ _ 1 v1 w4 (by omega) Own4.out).mono ?_
    rintro e w5 ⟨rfl, hb5⟩
    go_wp2_with fail
    refine (Hi.out _).mono ?_
    rintro e w6 ⟨v2, rfl, own6, hb6⟩
    have Own6 := Lib.hid own6
    clear own6
    have hz5 := hb5.size
    have hz6 := hb6.size
    go_wp2_with fail
    refine (eq_own _ _ _ _ v2 v0 ts ts w6 Own6.out (ownsRow_below (ownsRow_below Own04.out hb5) hb6)).mono ?_
    rintro e w7 ⟨rfl, q2, rfl⟩
    go_wp2_with fail
    refine (held_own _ _ 1 v1 (w6.drewN q2) (by omega) (show (w6.drewN q2).ownsRow _ _ _ _ _ _ from ownsRow_below (ownsRow_below Own4.out hb5) (below_drewN hb6 q2))).mono ?_
    rintro e w8 ⟨rfl, hb8⟩
    go_wp2_with fail
    go_ret
    refine ⟨rfl, ?_⟩
    have c1 : Below w.heap.size w w4 := hb0.trans (hb4.mono hz0)
    have c2 : Below w.heap.size w w6 := (c1.trans (hb5.mono c1.size)).trans (hb6.mono (Nat.le_trans c1.size hz5))
    exact (below_drewN c2 q2).trans (hb8.mono c2.size)
  · by_cases h1 : a.length ≤ 1048576
    · have h2 : 1048576 < s.length := by omega
      clear h
      go_enter Try.func12, Try.ntmps12
      go_wp2_with fail
      go_ret
      exact ⟨rfl, Below.refl _ _⟩
    · clear h
      go_enter Try.func12, Try.ntmps12
      go_wp2_with fail
      go_ret
      exact ⟨rfl, Below.refl _ _⟩
end Go.Proofs.Ytjbpjpakcpjheaa
