/- The walks of the laws FnSumOf (a sum sees each byte) and FnFramePut (a frame is read back). -/
import Derived.Test.YtjbpjpakcpjheaaDraw1
import Derived.Test.YtjbpjpakcpjheaaLaw3L
namespace Go.Proofs.Ytjbpjpakcpjheaa
open Go.RowKit
set_option maxRecDepth 100000
set_option linter.unusedVariables false
attribute [local go_sem] ba_get ba_toList ba_extract take_drop_all ByteArray.mk_append_mk

set_option maxHeartbeats 2000000 in
theorem FnFramePut_walk (w : World) (A : Option Addr) (n c : Nat) (l : List UInt8) (h : RowAt w A n (bcells l)) (hc : n ≤ c) (hcm : c ≤ maxLen) :
    Calls Try.prog 7 #[.slice A n c] w fun e w' => e = .returned (.bool true) ∧ Below w.heap.size w w' := by
  by_cases hn : n ≤ 1048576
  · go_enter Try.func7, Try.ntmps7
    go_wp2_with fail
    refine (DrawFramePut_any A n c l w h hc hcm).mono ?_
    rintro e w1 ⟨s, rfl, hs, hb1⟩
    have hz1 := hb1.size
    by_cases h100 : s.length ≤ 100
    · have Hg := Lib.hid (fun W => implGet_post (frameB s) W)
      have hr : getR (frameB s) = ([s], 0, [], true) := by
        have hle := frameB_le s
        have e := getL_frameB s [] h100
        rw [List.append_nil, getL_nil] at e
        unfold getR
        rw [if_pos (by omega), e]
      rw [hr] at Hg
      clear hr h
      go_wp2_with fail
      refine (implFramePut_any s _ h100).mono ?_
      rintro e w2 ⟨rfl, hb2⟩
      have hz2 := hb2.size
      go_wp2_with fail
      refine (specFramePut_any s _ h100).mono ?_
      rintro e w3 ⟨rfl, hb3⟩
      have hz3 := hb3.size
      go_wp2_with fail
      refine (Hg.out _).mono ?_
      rintro e w4 ⟨v, rfl, own4, hb4⟩
      obtain ⟨B, d, rfl, hrow⟩ := RowAt.own own4
      obtain ⟨b, o, rfl, hbl, hcell⟩ := hrow.at_ (k := 0) (by simp)
      have hx : w4.cell? ⟨b, o, none⟩ = some (.string ⟨s.toArray⟩) := by simpa [scells] using hcell
      clear own4 hrow hcell
      go_wp2_with fail
      go_ret
      exact ⟨rfl, ((hb1.trans (hb2.mono hz1)).trans (hb3.mono (Nat.le_trans hz1 hz2))).trans (hb4.mono (Nat.le_trans hz1 (Nat.le_trans hz2 hz3)))⟩
    · have h101 : 100 < s.length := by omega
      clear h
      go_wp2_with fail
      refine (implFramePut_no s _ h101).mono ?_
      rintro e w2 ⟨rfl, rfl⟩
      go_wp2_with fail
      refine (specFramePut_no s _ h101).mono ?_
      rintro e w3 ⟨rfl, rfl⟩
      go_wp2_with fail
      go_ret
      exact ⟨rfl, hb1⟩
  · go_enter Try.func7, Try.ntmps7
    go_wp2_with fail
    go_ret
    exact ⟨rfl, Below.refl _ _⟩

theorem sum_other (s : List UInt8) (k : Nat) (hk : k < s.length) : sumL (s.take k ++ byteOf ((s[k].toNat + 1) % 256) :: s.drop (k + 1)) ≠ sumL s := by
  have e : s = s.take k ++ [s[k]] ++ s.drop (k + 1) := by
    rw [List.append_assoc, List.singleton_append, ← List.drop_eq_getElem_cons hk, List.take_append_drop]
  have h := sumL_sees (s.take k) (s.drop (k + 1)) (byteOf ((s[k].toNat + 1) % 256)) s[k] (by
    intro e2
    have e3 := congrArg UInt8.toNat e2
    rw [byteOf_toNat (Nat.mod_lt _ (by decide))] at e3
    have := s[k].toNat_lt
    omega)
  rw [← e] at h
  rwa [List.append_assoc, List.singleton_append] at h

set_option maxHeartbeats 2000000 in
theorem FnSumOf_walk (w : World) (A : Option Addr) (n c : Nat) (l : List UInt8) (h : RowAt w A n (bcells l)) (hc : n ≤ c) (hcm : c ≤ maxLen)
    (B : Option Addr) (m d : Nat) (l2 : List UInt8) (h2 : RowAt w B m (bcells l2)) (hd : m ≤ d) (hdm : d ≤ maxLen) :
    Calls Try.prog 5 #[.slice A n c, .slice B m d] w fun e w' => e = .returned (.bool true) ∧ Below w.heap.size w w' := by
  by_cases hn : n ≤ 1048576
  · by_cases hm : m ≤ 1048576
    · clear h2
      go_enter Try.func5, Try.ntmps5
      go_wp2_with fail
      refine (DrawSumOf_any A n c l w h hc hcm).mono ?_
      rintro e w1 ⟨s, rfl, hs, hb1⟩
      have hz1 := hb1.size
      have Hi := Lib.hid (fun W => implSumOf_any s W (by unfold maxLen; omega))
      have Hs := Lib.hid (fun W => specSumOf_any s W (by unfold maxLen; omega))
      clear h
      by_cases h2000 : s.length ≤ 2000
      · rw [if_pos h2000] at Hi Hs
        go_wp2_with fail
        refine (Hi.out _).mono ?_
        rintro e w2 ⟨rfl, rfl⟩
        go_wp2_with fail
        refine (Hs.out _).mono ?_
        rintro e w2 ⟨rfl, rfl⟩
        by_cases h0 : 0 < s.length
        · have hlt := sumL_lt s
          have hk1 : m % s.length < s.length := Nat.mod_lt _ h0
          have hkc : (m : Int) % (s.length : Int) = ((m % s.length : Nat) : Int) := by simp
          generalize m % s.length = k at hk1 hkc
          have hne := sum_other s k hk1
          have hb := s[k].toNat_lt
          have e1 : IntKind.u8.wrap ((s[k].toNat : Int) + 1) = ((byteOf ((s[k].toNat + 1) % 256)).toNat : Int) := by
            rw [byteOf_toNat (Nat.mod_lt _ (by decide)), IntKind.wrap_u8]; omega
          generalize byteOf ((s[k].toNat + 1) % 256) = nb at hne e1
          have hcv := fun W g => Try.conv1 W g 1 nb
          have k1 : (0 : Int) ≤ (k : Int) := by omega
          have k2 : (k : Int) < (s.length : Int) := by omega
          have k3 : IntKind.i64.wrap ((k : Int) + 1) = (k : Int) + 1 := IntWalk.i64_in _ (by omega)
          have k4 : (0 : Int) ≤ (k : Int) + 1 := by omega
          have k5 : (k : Int) + 1 ≤ (s.length : Int) := by omega
          have k6 : ((k : Int) + 1).toNat = k + 1 := by omega
          have k7 : (k : Int) ≤ (s.length : Int) := by omega
          have ht : (s.take k ++ nb :: s.drop (k + 1)).length ≤ 2000 := by simp; omega
          have Ht := Lib.hid (fun W => implSumOf_any (s.take k ++ nb :: s.drop (k + 1)) W (by unfold maxLen; omega))
          rw [if_pos ht] at Ht
          have hx : ((sumL (s.take k ++ nb :: s.drop (k + 1)) : Int) == (sumL s : Int)) = false := by
            rw [beq_eq_false_iff_ne]; intro h; exact hne (Int.ofNat_inj.1 h)
          have hx2 : ((sumL (s.take k ++ nb :: s.drop (k + 1)) : Int) != (sumL s : Int)) = true := by
            rw [bne_iff_ne]; intro h; exact hne (Int.ofNat_inj.1 h)
          clear hne
          go_wp2_with fail
          go_region_with (fail)
          all_goals
            clear hcv
            go_wp2_with fail
            refine (Ht.out _).mono ?_
            rintro e w3 ⟨rfl, rfl⟩
            go_wp2_with fail
            go_ret
            refine ⟨ret1 (vbool (by first | rfl | (simp; omega))), ?_⟩
            exact (hb1.drew).alloc hz1 _
        · have h00 : s.length = 0 := by omega
          have e0 : s = [] := List.eq_nil_of_length_eq_zero h00
          subst e0
          go_wp2_with fail
          go_ret
          exact ⟨rfl, hb1⟩
      · rw [if_neg h2000] at Hi Hs
        go_wp2_with fail
        refine (Hi.out _).mono ?_
        rintro e w2 ⟨rfl, rfl⟩
        go_wp2_with fail
        refine (Hs.out _).mono ?_
        rintro e w2 ⟨rfl, rfl⟩
        go_wp2_with fail
        go_ret
        exact ⟨rfl, hb1⟩
    · clear h h2
      go_enter Try.func5, Try.ntmps5
      go_wp2_with fail
      go_ret
      exact ⟨rfl, Below.refl _ _⟩
  · clear h h2
    go_enter Try.func5, Try.ntmps5
    go_wp2_with fail
    go_ret
    exact ⟨rfl, Below.refl _ _⟩
end Go.Proofs.Ytjbpjpakcpjheaa
