/- The reference's frame of a text of at most 100 bytes: the same bytes as the program's. The region that makes it is shown by an invariant, each operation once. -/
import Derived.Test.YtjbpjpakcpjheaaFrame
import Derived.Test.YtjbpjpakcpjheaaRegion
namespace Go.Proofs.Ytjbpjpakcpjheaa
open Go.RowKit
set_option maxRecDepth 100000
attribute [local go_sem] ByteArray.mk_append_mk

set_option maxHeartbeats 1000000 in
theorem l9Frame_any (l : List UInt8) (w : World) (hl : l.length ≤ 100) :
    Calls Try.prog 39 #[.string ⟨l.toArray⟩] w fun e w' => e = .returned (.string ⟨(frameB l).toArray⟩) ∧ Below w.heap.size w w' := by
  have h1 := numB_length_le l.length
  have h2 := numB_length_le (sumL l)
  have h3 := sumL_lt l
  have hm : l.length ≤ maxLen := by unfold maxLen; omega
  have Hfin := Lib.hid (show 126 :: (numB l.length ++ (l ++ numB (sumL l))) = frameB l by simp [frameB])
  go_enter Try.func39, Try.ntmps39
  go_wp2_with fail
  refine wp_region_inv (by kernel_rfl) (by kernel_rfl)
    (fun u => { tmps := #[.string ⟨l.toArray⟩, undef, u 12, u 0, u 1, u 2, u 3, u 4, u 5, u 6, u 7, u 8, u 9, u 10, u 11], defers := [] })
    (fun i => if i = 12 then .string ⟨#[]⟩ else undef) rfl
    (fun i v W => match i with
      | 0 => ∃ g, v = .slice (some ⟨g, 0, none⟩) 1 1 ∧ g < W.heap.size ∧ W.cell? ⟨g, 0, none⟩ = some (.int .u8 126)
      | i + 1 => v = [Value.string ⟨#[126]⟩, .string ⟨l.toArray⟩, .int .i64 l.length, .string ⟨(numB l.length).toArray⟩, .string ⟨(126 :: numB l.length).toArray⟩, .string ⟨l.toArray⟩, .string ⟨(126 :: (numB l.length ++ l)).toArray⟩,
          .string ⟨l.toArray⟩, .int .i64 (sumL l), .string ⟨(numB (sumL l)).toArray⟩, .string ⟨(126 :: (numB l.length ++ (l ++ numB (sumL l)))).toArray⟩, .string ⟨(126 :: (numB l.length ++ (l ++ numB (sumL l)))).toArray⟩][i]?.getD undef)
    (fun _ W => Below w.heap.size w W) (fun W W' => Below W.heap.size W W') ?_ ?_ (Below.drew (Below.refl _ _)) ?_ ?_
  · repeat (first | exact Steps.nil | refine Steps.cons (fun _ _ => rfl) ?_)
  · rintro W W' h (_ | i) v hφ
    · obtain ⟨g, e, hg, hc⟩ := hφ
      exact ⟨g, e, Nat.lt_of_lt_of_le hg h.size, (h.cell (p := ⟨g, 0, none⟩) hg).trans hc⟩
    · exact hφ
  · repeat (first | exact Steps.nil | (refine Steps.cons ?_ ?_; rotate_left))
    all_goals
      intro L u W hL hpre hR K hK
      first | (simp [Region.binds] at hpre; done) | simp [Region.binds] at hpre | clear hpre
    · have hz := hR.size
      go_simp
      exact hK _ _ _ ⟨_, rfl, by simp, by simp [World.cell?_alloc_new]⟩ ((Below.refl _ _).alloc (Nat.le_refl _) _) (hR.alloc hz _) rfl
    · obtain ⟨_, g, hu, hg, hc⟩ := hpre
      have hcv := Try.conv1 W g 1 126 hc
      go_simp
      exact hK _ _ _ rfl (Below.refl _ _) hR (by simp [Act.put, hu])
    · go_simp
      exact hK _ _ _ rfl (Below.refl _ _) hR rfl
    · go_simp
      exact hK _ _ _ rfl (Below.refl _ _) hR (by simp [Act.put, hpre])
    · go_simp
      refine (l1Put_any l.length _ (by omega)).mono ?_
      rintro e w' ⟨rfl, hb⟩
      exact hK _ _ _ rfl hb (hR.trans (hb.mono hR.size)) (by simp [Act.put, hpre])
    · go_simp
      rw [if_neg (by omega)]
      go_simp
      exact hK _ _ _ rfl (Below.refl _ _) hR (by simp [Act.put, hpre])
    · go_simp
      exact hK _ _ _ rfl (Below.refl _ _) hR rfl
    · go_simp
      rw [if_neg (by omega)]
      go_simp
      exact hK _ _ _ rfl (Below.refl _ _) hR (by simp [Act.put, hpre])
    · go_simp
      exact hK _ _ _ rfl (Below.refl _ _) hR rfl
    · go_simp
      refine (l9Sum_any l _ hm).mono ?_
      rintro e w' ⟨rfl, rfl⟩
      exact hK _ _ _ rfl (Below.refl _ _) hR (by simp [Act.put, hpre])
    · go_simp
      refine (l1Put_any (sumL l) _ (by omega)).mono ?_
      rintro e w' ⟨rfl, hb⟩
      exact hK _ _ _ rfl hb (hR.trans (hb.mono hR.size)) (by simp [Act.put, hpre])
    · go_simp
      rw [if_neg (by omega)]
      go_simp
      exact hK _ _ _ rfl (Below.refl _ _) hR (by simp [Act.put, hpre])
    · go_simp
      exact hK _ _ _ rfl (Below.refl _ _) hR (by simp [Act.put, hpre])
  · intro L u W hL hφ hR
    have c12 := hφ 12 (by decide)
    simp at c12
    clear hφ hL
    go_wp2
    go_ret
    exact ⟨by rw [← Hfin.out, ← c12]; rfl, hR⟩

theorem specFramePut_any (l : List UInt8) (w : World) (hl : l.length ≤ 100) :
    Calls Try.prog 17 #[.string ⟨l.toArray⟩] w fun e w' => e = .returned (.tuple #[.string ⟨(frameB l).toArray⟩, .bool true]) ∧ Below w.heap.size w w' := by
  go_enter Try.func17, Try.ntmps17
  go_wp2_with (go_at_call 39; refine (l9Frame_any l _ hl).mono ?_; rintro e w' ⟨rfl, hb⟩)
  go_ret2
  exact ⟨rfl, hb⟩

theorem specFramePut_no (l : List UInt8) (w : World) (hl : 100 < l.length) :
    Calls Try.prog 17 #[.string ⟨l.toArray⟩] w fun e w' => e = .returned (.tuple #[.string ⟨#[]⟩, .bool false]) ∧ w = w' := by
  go_enter Try.func17, Try.ntmps17
  go_wp2_with fail
  go_ret2
  exact ⟨rfl, rfl⟩
end Go.Proofs.Ytjbpjpakcpjheaa
