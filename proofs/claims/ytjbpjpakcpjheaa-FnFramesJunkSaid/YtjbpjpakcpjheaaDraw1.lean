/- The drawing functions of the laws on sums and frames: each returns texts of bounded length, and leaves what was there. -/
import Derived.Test.YtjbpjpakcpjheaaStream
import Derived.Test.YtjbpjpakcpjheaaGet2
namespace Go.Proofs.Ytjbpjpakcpjheaa
open Go.RowKit
set_option maxRecDepth 100000
set_option linter.unusedVariables false
attribute [local go_sem] ba_get ba_toList ba_extract take_drop_all ByteArray.mk_append_mk

theorem textRowOf (W : World) (ls : List (List UInt8)) (top : Nat) (h : ∀ l ∈ ls, l.length ≤ top) : TextRow (W.alloc (.cells (scells ls).toArray 9)) W.heap.size ls.length top :=
  ⟨_, heap_alloc_new W _, fun j hj => ⟨ls[j], by simp [scells, hj], h _ (List.getElem_mem hj)⟩⟩

/-- Behind a call on a reader that is new. -/
theorem below_grown {w a b : World} {g : Nat} (h : Below w.heap.size w a) (hg : a.grownBy b (some g)) (hgb : w.heap.size ≤ g) : Below w.heap.size w b :=
  h.grown hg h.size (fun k hk => by injection hk with hk; omega)

set_option maxHeartbeats 1000000 in
theorem DrawFramePut_any (A : Option Addr) (n c : Nat) (l : List UInt8) (w : World) (h : RowAt w A n (bcells l)) (hc : n ≤ c) (hcm : c ≤ maxLen) :
    Calls Try.prog 25 #[.slice A n c] w fun e w' => ∃ s : List UInt8, e = .returned (.string ⟨s.toArray⟩) ∧ s.length ≤ 101 ∧ Below w.heap.size w w' := by
  go_enter Try.func25, Try.ntmps25
  go_wp2_with fail
  refine (l6Open_any A n c l w h hc hcm).mono ?_
  rintro e w1 ⟨g, rfl, hR, hgb, hb1⟩
  have HR := Lib.hid hR
  have hgl := hR.lt
  clear hR h
  go_wp2_with fail
  refine (l6Many_any [120] 100 _ (by simp) (by omega)).mono ?_
  rintro e w2 ⟨⟨l1, rfl, hl1⟩, rfl⟩
  go_wp2_with fail
  refine (l6Many_any [120] 101 _ (by simp) (by omega)).mono ?_
  rintro e w2 ⟨⟨l2, rfl, hl2⟩, rfl⟩
  simp at hl1 hl2
  have T := Lib.hid (textRowOf w1 [[], [104, 105], [126, 126, 126], l1, l2] 101 (by simp; omega))
  have Hb1 := Lib.hid (hb1.alloc hb1.size (.cells (scells [[], [104, 105], [126, 126, 126], l1, l2]).toArray 9))
  go_wp2_with fail
  refine (pick_any g 0 5 _ (HR.out.alloc _) (by omega) (by omega) (by omega)).mono ?_
  rintro e w3 ⟨y, rfl, hy1, _, hR3, hg3⟩
  have hy : y < 5 := by omega
  have hb3 : Below w.heap.size w w3 := below_grown Hb1.out hg3 hgb
  obtain ⟨s, hcell, hs⟩ := (T.out.grown hg3 (by omega)).cell hy
  have i1 : (0 : Int) ≤ (y : Int) := by omega
  have i2 : (y : Int) < 5 := by omega
  have Hb3 := Lib.hid hb3
  clear hR3 hg3 hb3 hb1 hl1 hl2
  go_wp2_with fail
  go_ret
  exact ⟨s, rfl, hs, Hb3.out⟩

set_option maxHeartbeats 1000000 in
theorem DrawSumOf_any (A : Option Addr) (n c : Nat) (l : List UInt8) (w : World) (h : RowAt w A n (bcells l)) (hc : n ≤ c) (hcm : c ≤ maxLen) :
    Calls Try.prog 19 #[.slice A n c] w fun e w' => ∃ s : List UInt8, e = .returned (.string ⟨s.toArray⟩) ∧ s.length ≤ 2001 ∧ Below w.heap.size w w' := by
  go_enter Try.func19, Try.ntmps19
  go_wp2_with fail
  refine (l6Open_any A n c l w h hc hcm).mono ?_
  rintro e w0 ⟨g, rfl, hR, hgb, hb0⟩
  have HR := Lib.hid hR
  clear hR h
  go_wp2_with fail
  refine (l91Stream_any g 0 w0 HR.out (by omega)).mono ?_
  rintro e w1 ⟨l0, q, rfl, hl0, hq, hR1, hg1⟩
  have hb1 := below_grown hb0 hg1 hgb
  have hgl := hR1.lt
  have HR1 := Lib.hid hR1
  clear hR1 hg1 hb0 HR
  go_wp2_with fail
  refine (l6Many_any [120] 2000 _ (by simp) (by omega)).mono ?_
  rintro e w2 ⟨⟨l1, rfl, hl1⟩, rfl⟩
  go_wp2_with fail
  refine (l6Many_any [120] 2001 _ (by simp) (by omega)).mono ?_
  rintro e w2 ⟨⟨l2, rfl, hl2⟩, rfl⟩
  simp at hl1 hl2
  have T := Lib.hid (textRowOf w1 [l0, l1, l2] 2001 (by simp; omega))
  have Hb1 := Lib.hid (hb1.alloc hb1.size (.cells (scells [l0, l1, l2]).toArray 9))
  go_wp2_with fail
  refine (pick_any g q 7 _ (HR1.out.alloc _) (by omega) (by omega) (by omega)).mono ?_
  rintro e w3 ⟨y, rfl, hy1, _, hR3, hg3⟩
  have hy : y / 3 < 3 := by omega
  have hb3 : Below w.heap.size w w3 := below_grown Hb1.out hg3 hgb
  obtain ⟨s, hcell, hs⟩ := (T.out.grown hg3 (by omega)).cell hy
  have i1 : (0 : Int) ≤ (y : Int) := by omega
  have i2 : (y : Int) / 3 < 3 := by omega
  have Hb3 := Lib.hid hb3
  clear hR3 hg3 hb3 hb1 hl1 hl2 hl0
  go_wp2_with fail
  go_ret
  exact ⟨s, rfl, hs, Hb3.out⟩

theorem DrawStreamOf_any (A : Option Addr) (n c : Nat) (l : List UInt8) (w : World) (h : RowAt w A n (bcells l)) (hc : n ≤ c) (hcm : c ≤ maxLen) :
    Calls Try.prog 32 #[.slice A n c] w fun e w' => ∃ s : List UInt8, e = .returned (.string ⟨s.toArray⟩) ∧ s.length ≤ 480 ∧ Below w.heap.size w w' := by
  go_enter Try.func32, Try.ntmps32
  go_wp2_with fail
  refine (l6Open_any A n c l w h hc hcm).mono ?_
  rintro e w0 ⟨g, rfl, hR, hgb, hb0⟩
  have HR := Lib.hid hR
  clear hR h
  go_wp2_with fail
  refine (l91Stream_any g 0 w0 HR.out (by omega)).mono ?_
  rintro e w1 ⟨l0, q, rfl, hl0, hq, hR1, hg1⟩
  have Hb1 := Lib.hid (below_grown hb0 hg1 hgb)
  clear hR1 hg1 hb0 HR
  go_wp2_with fail
  go_ret
  exact ⟨l0, rfl, hl0, Hb1.out⟩

theorem DrawFramesGet_any (A : Option Addr) (n c : Nat) (l : List UInt8) (w : World) (h : RowAt w A n (bcells l)) (hc : n ≤ c) (hcm : c ≤ maxLen) :
    Calls Try.prog 35 #[.slice A n c] w fun e w' => ∃ s : List UInt8, e = .returned (.string ⟨s.toArray⟩) ∧ s.length ≤ 480 ∧ Below w.heap.size w w' := by
  go_enter Try.func35, Try.ntmps35
  go_wp2_with fail
  refine (l6Open_any A n c l w h hc hcm).mono ?_
  rintro e w0 ⟨g, rfl, hR, hgb, hb0⟩
  have HR := Lib.hid hR
  clear hR h
  go_wp2_with fail
  refine (l91Stream_any g 0 w0 HR.out (by omega)).mono ?_
  rintro e w1 ⟨l0, q, rfl, hl0, hq, hR1, hg1⟩
  have Hb1 := Lib.hid (below_grown hb0 hg1 hgb)
  clear hR1 hg1 hb0 HR
  go_wp2_with fail
  go_ret
  exact ⟨l0, rfl, hl0, Hb1.out⟩

theorem getR_left (s : List UInt8) : (getR s).2.2.1.length ≤ s.length := by
  have key : ∀ (f : Nat) (s : List UInt8), (getF f s).2.2.length ≤ s.length := by
    intro f
    induction f with
    | zero => intro s; simp [getF]
    | succ f ih =>
      intro s
      simp only [getF]
      split
      · simp
      · split
        · have h1 := ih (s.drop (headL s).2.1)
          exact Nat.le_trans h1 (by simp)
        · split
          · exact Nat.le_refl _
          · have h1 := ih (s.drop 1)
            exact Nat.le_trans h1 (by simp)
  unfold getR
  split
  · exact key s.length s
  · simp

set_option maxHeartbeats 2000000 in
theorem DrawFramesFeed_any (A : Option Addr) (n c : Nat) (l : List UInt8) (w : World) (h : RowAt w A n (bcells l)) (hc : n ≤ c) (hcm : c ≤ maxLen) :
    Calls Try.prog 36 #[.slice A n c] w fun e w' => ∃ s t : List UInt8, e = .returned (.tuple #[.string ⟨s.toArray⟩, .string ⟨t.toArray⟩]) ∧ s.length ≤ 480 ∧ t.length ≤ 480 ∧ Below w.heap.size w w' := by
  go_enter Try.func36, Try.ntmps36
  go_wp2_with fail
  refine (l6Open_any A n c l w h hc hcm).mono ?_
  rintro e w0 ⟨g, rfl, hR, hgb, hb0⟩
  have HR := Lib.hid hR
  clear hR h
  go_wp2_with fail
  refine (l91Stream_any g 0 w0 HR.out (by omega)).mono ?_
  rintro e w1 ⟨s, q, rfl, hs, hq, hR1, hg1⟩
  have hb1 := below_grown hb0 hg1 hgb
  have HR1 := Lib.hid hR1
  clear hR1 hg1 hb0 HR
  go_wp2_with fail
  refine (pick_any g q 256 _ HR1.out (by omega) (by omega) (by omega)).mono ?_
  rintro e w2 ⟨y, rfl, hy1, _, hR2, hg2⟩
  have hb2 := below_grown hb1 hg2 hgb
  have HR2 := Lib.hid hR2
  have hk1 : y % (s.length + 1) < s.length + 1 := Nat.mod_lt _ (by omega)
  have hkc : (y : Int) % ((s.length : Int) + 1) = ((y % (s.length + 1) : Nat) : Int) := by simp
  generalize y % (s.length + 1) = k at hk1 hkc
  clear hR2 hg2 hb1 HR1
  go_wp2_with fail
  have hleft := getR_left (s.take k)
  have Hg := Lib.hid (fun W => specGet_post (s.take k) W)
  generalize getR (s.take k) = r at hleft Hg
  obtain ⟨ts, j, left, ok⟩ := r
  simp only [] at hleft
  have hleft2 : left.length ≤ 480 := by simp at hleft; omega
  clear hleft
  refine (Hg.out _).mono ?_
  rintro e w3 ⟨v, rfl, own3, hb3⟩
  have HR3 := Lib.hid (HR2.out.below hb3)
  have hb4 := hb2.trans (hb3.mono hb2.size)
  clear own3 hb3 HR2
  go_wp2_with fail
  refine (pick_any g (q + 1) 6 _ HR3.out (by omega) (by omega) (by omega)).mono ?_
  rintro e w5 ⟨y2, rfl, hy2, _, hR5, hg5⟩
  have Hb5 := Lib.hid (below_grown hb4 hg5 hgb)
  clear hR5 hg5 hb4 hb2 HR3
  have k1 : (0 : Int) ≤ (k : Int) := by omega
  have k2 : (k : Int) ≤ (s.length : Int) := by omega
  by_cases hz : y2 = 0
  · subst hz
    go_wp2_with fail
    go_quiet (fail)
    go_wp2
    go_ret2
    exact ⟨s.take k, s.drop k, ret2 rfl rfl, by simp; omega, by simp; omega, below_drewN Hb5.out _⟩
  · have t0 : ((y2 : Int) == 0) = false := by simp; omega
    go_wp2_with fail
    go_quiet (fail)
    go_wp2
    go_ret2
    exact ⟨left, s.drop k, ret2 rfl rfl, hleft2, by simp; omega, below_drewN Hb5.out _⟩
end Go.Proofs.Ytjbpjpakcpjheaa
