/- Plain laws of FramesPut: the frames of texts, one behind the other, as far as they fit. No program in sight. -/
import Derived.Test.YtjbpjpakcpjheaaLaw3L
namespace Go.Proofs.Ytjbpjpakcpjheaa

/-- The frames of texts behind bytes that are there already; none where one is too long or all are too many. -/
def fpF : List (List UInt8) → List UInt8 → Option (List UInt8)
  | [], o => some o
  | s :: r, o => if s.length ≤ 100 ∧ o.length + (frameB s).length ≤ 2000 then fpF r (o ++ frameB s) else none

theorem fpF_some : ∀ (ls : List (List UInt8)) (o f : List UInt8), fpF ls o = some f → f = o ++ framesB ls ∧ (∀ b ∈ ls, b.length ≤ 100) ∧ (o.length ≤ 2000 → f.length ≤ 2000)
  | [], o, f, h => by
    simp [fpF] at h
    subst h
    exact ⟨by simp [framesB], by simp, fun h => h⟩
  | s :: r, o, f, h => by
    simp only [fpF] at h
    split at h
    · rename_i h1
      obtain ⟨e1, e2, e3⟩ := fpF_some r _ f h
      refine ⟨by rw [e1, framesB_cons, List.append_assoc], fun b hb => ?_, fun _ => e3 (by rw [List.length_append]; exact h1.2)⟩
      rcases List.mem_cons.1 hb with rfl | hb
      · exact h1.1
      · exact e2 b hb
    · cases h

/-- What FramesPut returns: the text, and whether it is one. -/
def fpR (ls : List (List UInt8)) : List UInt8 × Bool :=
  match fpF ls [] with
  | some f => (f, true)
  | none => ([], false)
end Go.Proofs.Ytjbpjpakcpjheaa
