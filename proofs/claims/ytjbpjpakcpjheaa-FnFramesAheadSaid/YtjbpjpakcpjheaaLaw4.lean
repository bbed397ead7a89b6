/- The walks of the laws FnFramesGet (each byte is in a frame, left out, or left over). -/
import Derived.Test.YtjbpjpakcpjheaaDraw1
import Derived.Test.YtjbpjpakcpjheaaLaw4L
import Derived.Test.YtjbpjpakcpjheaaWf
namespace Go.Proofs.Ytjbpjpakcpjheaa
open Go.RowKit
set_option maxRecDepth 100000
set_option linter.unusedVariables false
attribute [local go_sem] ba_get ba_toList ba_extract take_drop_all ByteArray.mk_append_mk

theorem wf_own (b1 b2 n m : Nat) (v u : Value) (a b : List (List UInt8)) (w : World) (h1 : w.ownsRow b1 9 1 v n (scells a)) (h2 : w.ownsRow b2 9 1 u m (scells b)) :
    Calls Try.prog 28 #[v, u] w fun e w' => e = .returned (.bool (decide (a = b))) ∧ ∃ k, w' = w.drewN k := by
  obtain ⟨A, c, rfl, ha⟩ := RowAt.own h1
  obtain ⟨B, d, rfl, hb⟩ := RowAt.own h2
  exact wfTexts_any A B n m c d a b w ha hb

theorem lensB_append (a b : List (List UInt8)) : lensB (a ++ b) = lensB a + lensB b := by simp [lensB]

set_option maxHeartbeats 2000000 in
theorem FnFramesGet_walk (w : World) (A : Option Addr) (n c : Nat) (l : List UInt8) (h : RowAt w A n (bcells l)) (hc : n ≤ c) (hcm : c ≤ maxLen) :
    Calls Try.prog 13 #[.slice A n c] w fun e w' => e = .returned (.bool true) ∧ Below w.heap.size w w' := by
  by_cases hn : n ≤ 1048576
  · go_enter Try.func13, Try.ntmps13
    go_wp2_with fail
    refine (DrawFramesGet_any A n c l w h hc hcm).mono ?_
    rintro e w1 ⟨s, rfl, hs, hb1⟩
    have hz1 := hb1.size
    clear h
    have Hi := Lib.hid (fun W => implGet_post s W)
    have Hs := Lib.hid (fun W => specGet_post s W)
    have hr : getR s = ((getL s).1, (getL s).2.1, (getL s).2.2, true) := if_pos (by omega)
    rw [hr] at Hi Hs
    clear hr
    obtain ⟨g1, g2, g3⟩ := getL_bytes s
    generalize getL s = r at Hi Hs g1 g2 g3
    obtain ⟨ts, j, left⟩ := r
    simp only [] at g1 g2 g3
    have G2 := Lib.hid g2
    have G3 := Lib.hid g3
    clear g2 g3
    go_wp2_with fail
    refine (Hi.out _).mono ?_
    rintro e w2 ⟨v1, rfl, own1, hb2⟩
    have hz2 := hb2.size
    have Own1 := Lib.hid own1
    clear own1
    go_wp2_with fail
    refine (Hs.out _).mono ?_
    rintro e w3 ⟨v0, rfl, own0, hb3⟩
    have hz3 := hb3.size
    have Own0 := Lib.hid own0
    clear own0
    go_wp2_with fail
    refine (wf_own _ _ _ _ v1 v0 ts ts w3 (ownsRow_below Own1.out hb3) Own0.out).mono ?_
    rintro e w4 ⟨rfl, q, rfl⟩
    obtain ⟨B, d, rfl, hrow⟩ := RowAt.own (show (w3.drewN q).ownsRow _ _ _ _ _ _ from ownsRow_below (ownsRow_below Own1.out hb3) (below_drewN (Below.refl _ _) q))
    have hbw : Below w.heap.size w (w3.drewN q) := below_drewN ((hb1.trans (hb2.mono hz1)).trans (hb3.mono (Nat.le_trans hz1 hz2))) q
    have Hbw := Lib.hid hbw
    have Hrow := Lib.hid hrow
    have hlen : ts.length ≤ 2000 := by
      have : ∀ ls : List (List UInt8), ls.length ≤ lensB ls := by
        intro ls
        induction ls with
        | nil => simp [lensB]
        | cons b ls ih =>
          have := frameB_pos b
          rw [lensB_cons, List.length_cons]; omega
      have := this ts
      omega
    clear hbw hrow hb1 hb2 hb3
    go_wp2_with fail
    go_goals
    go_loopw [13, 14] (fun x i wr => ∃ k : Nat, i = .int .i64 k ∧ k ≤ ts.length ∧ x = .int .i64 ((j + left.length + lensB (ts.take k) : Nat) : Int) ∧ Hid (Below (w3.drewN q).heap.size (w3.drewN q) wr)) (fun _ i _ => ts.length - (intOf i).toNat)
    case atStart => exact ⟨0, rfl, Nat.zero_le _, vint (by simp [lensB]), Below.refl _ _⟩
    case round =>
      obtain ⟨k, rfl, hk, rfl, hbk⟩ := hrel
      have hle : lensB (ts.take k) ≤ lensB ts := by
        have e := lensB_append (ts.take k) (ts.drop k)
        rw [List.take_append_drop] at e
        omega
      by_cases hlt : k < ts.length
      · obtain ⟨b, o, rfl, hbl, hcell⟩ := (Hrow.out.below hbk.out).at_ hlt
        have hx : wr.cell? ⟨b, o + k, none⟩ = some (.string ⟨(ts[k]).toArray⟩) := by rw [hcell]; simp [scells]
        have h100 : (ts[k]).length ≤ 100 := G2.out _ (List.getElem_mem hlt)
        have Hsn := Lib.hid (show lensB (ts.take (k + 1)) = lensB (ts.take k) + (frameB ts[k]).length by rw [take_snoc ts k hlt, lensB_snoc])
        have hfl := frameB_le ts[k]
        generalize ts[k] = p at hx h100 Hsn hfl
        clear hcell
        go_wp2_with fail
        refine (implFramePut_any p _ h100).mono ?_
        rintro e w5 ⟨rfl, hb5⟩
        have Hb5 := Lib.hid (hbk.out.trans (hb5.mono hbk.out.size))
        clear hb5
        go_wp2_with fail
        go_roundw
        case rel => exact ⟨k + 1, by go_num, by omega, vint (by rw [Hsn.out]; omega), Hb5.out⟩
        case measure => simp [intOf]; omega
      · obtain rfl : k = ts.length := by omega
        have hall : lensB (ts.take ts.length) = lensB ts := by rw [List.take_length]
        have hsum : j + left.length + lensB (ts.take ts.length) = s.length := by omega
        have t1 : (((j + left.length + lensB (ts.take ts.length) : Nat) : Int) == (s.length : Int)) = true := by simp; omega
        have hll : left.length ≤ s.length := by omega
        have a1 : (0 : Int) ≤ (s.length : Int) - (left.length : Int) := by omega
        have a2 : (s.length : Int) - (left.length : Int) ≤ (s.length : Int) := by omega
        have a3 : ((s.length : Int) - (left.length : Int)).toNat = s.length - left.length := by omega
        have t2 : (s.drop (s.length - left.length) == left) = true := by rw [G3.out]; simp
        go_wp2_with fail
        go_goals
        go_ret
        exact ⟨rfl, Hbw.out.trans (hbk.out.mono Hbw.out.size)⟩
  · go_enter Try.func13, Try.ntmps13
    go_wp2_with fail
    go_ret
    exact ⟨rfl, Below.refl _ _⟩
end Go.Proofs.Ytjbpjpakcpjheaa
