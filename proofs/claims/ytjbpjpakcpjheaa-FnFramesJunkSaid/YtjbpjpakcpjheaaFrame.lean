/- FramePut: the program's and the reference's frame of a text of at most 100 bytes. -/
import Derived.Test.YtjbpjpakcpjheaaNum
import Derived.Test.YtjbpjpakcpjheaaSum
namespace Go.Proofs.Ytjbpjpakcpjheaa
open Go.RowKit
set_option maxRecDepth 100000
attribute [local go_sem] ByteArray.mk_append_mk

set_option maxHeartbeats 400000 in
theorem implFramePut_any (l : List UInt8) (w : World) (hl : l.length ≤ 100) :
    Calls Try.prog 18 #[.string ⟨l.toArray⟩] w fun e w' => e = .returned (.tuple #[.string ⟨(frameB l).toArray⟩, .bool true]) ∧ Below w.heap.size w w' := by
  have h1 := numB_length_le l.length
  have h2 := numB_length_le (sumL l)
  have h3 := sumL_lt l
  have hm : l.length ≤ maxLen := by unfold maxLen; omega
  have Hfin := Lib.hid (show (126 :: numB l.length) ++ l ++ numB (sumL l) = frameB l by simp [frameB])
  go_enter Try.func18, Try.ntmps18
  go_wp2_with (first
    | (go_at_call 40; refine (sized_any l _ (by omega)).mono ?_; rintro e w' ⟨rfl, hb⟩)
    | (go_at_call 38; refine (sum_any l _ hm).mono ?_; rintro e w' ⟨rfl, rfl⟩)
    | (go_at_call 41; refine (numText_any (sumL l) _ (by omega)).mono ?_; rintro e w' ⟨rfl, hb2⟩))
  go_ret2
  exact ⟨by rw [← Hfin.out]; simp, hb.trans (hb2.mono hb.size)⟩

theorem implFramePut_no (l : List UInt8) (w : World) (hl : 100 < l.length) :
    Calls Try.prog 18 #[.string ⟨l.toArray⟩] w fun e w' => e = .returned (.tuple #[.string ⟨#[]⟩, .bool false]) ∧ w = w' := by
  go_enter Try.func18, Try.ntmps18
  go_wp2_with fail
  go_ret2
  exact ⟨rfl, rfl⟩

end Go.Proofs.Ytjbpjpakcpjheaa
