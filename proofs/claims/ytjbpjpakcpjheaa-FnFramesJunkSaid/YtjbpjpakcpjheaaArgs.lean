/- How arguments that came in are opened: strings, slices of bytes and of strings, integers, as lists. -/
import Derived.Test.YtjbpjpakcpjheaaRows
import Derived.Test.YtjbpjpakcpjheaaLib
import Derived.ProofKit
import Derived.OpenShut
import Derived.ShutString
import Derived.ChangeOld
import Derived.SliceStrings
namespace Go.Proofs.Ytjbpjpakcpjheaa
set_option linter.unusedVariables false
open Go.ChangeShapes Go.WideShapes Go.ChangeAt Go.RowKit
open Go.ChangeMaps (open_string shut_string)

theorem getD_of_lt {α : Type} (l : List α) (d : α) {j : Nat} (h : j < l.length) : l.getD j d = l[j] := by simp [List.getD, h]

theorem own : ownKnob Try.prog.godebug = none := by kernel_rfl
theorem laidOut : laidOutB Try.prog = true := by kernel_rfl

section
variable {H : Type} {enc : TypeId × Value → H} {W : World} {base : Nat} {v : Value} {d : DataW H} {ps : List MemPlace}

theorem arg_string (hv : Value.okWide Try.prog W .any base 9 v) (h : DataW.Trod enc Try.prog W 0 (fun _ => true) true 9 v d ps) :
    ∃ l : List UInt8, v = .string ⟨l.toArray⟩ ∧ l.length ≤ maxLen := by
  obtain ⟨s, rfl, _, _, hs⟩ := open_string Try.underlying9 hv h
  exact ⟨s.data.toList, by simp, by simpa using hs⟩

theorem arg_int (hv : Value.okWide Try.prog W .any base 3 v) (h : DataW.Trod enc Try.prog W 0 (fun _ => true) true 3 v d ps) :
    ∃ x : Int, v = .int .i64 x ∧ -9223372036854775808 ≤ x ∧ x ≤ 9223372036854775807 := by
  obtain ⟨x, rfl, _, _, w⟩ := open_int Try.underlying3 hv h
  have hw := w
  simp [Lit.wf, IntKind.min, IntKind.max, IntKind.signed, IntKind.bits] at hw
  exact ⟨x, rfl, by omega, by omega⟩

theorem arg_bytes (hv : Value.okWide Try.prog W .any base 26 v) (h : DataW.Trod enc Try.prog W 0 (fun _ => true) true 26 v d ps) (hlt : ∀ x ∈ ps, x.block < W.heap.size) :
    ∃ A n c, ∃ l : List UInt8, v = .slice A n c ∧ RowAt W A n (bcells l) ∧ n ≤ c ∧ c ≤ maxLen := by
  obtain ⟨A, n, c, rfl⟩ := okWide_slice Try.underlying26 hv
  obtain ⟨fuel, hf⟩ := h
  rcases open_ints Try.underlying26 Try.underlying5 (by kernel_rfl) hf with ⟨hcs, _⟩ | ⟨x, n', c', zs, hcs, _, hl, hm, hz, _, hcell, hwz⟩
  · simp [Value.cells] at hcs
    obtain ⟨rfl, rfl, rfl⟩ := hcs
    exact ⟨none, 0, 0, [], rfl, ⟨rfl, Nat.zero_le _, fun h => absurd h (by omega)⟩, Nat.le_refl _, Nat.zero_le _⟩
  · simp [Value.cells] at hcs
    obtain ⟨rfl, rfl, rfl⟩ := hcs
    simp at hz
    refine ⟨some x, n, c, (zs.take n).map fun z => UInt8.ofNat z.toNat, rfl, ⟨by simp [bcells]; omega, Nat.le_trans hl hm, fun hn => ?_⟩, hl, hm⟩
    have h0 := hcell 0 (by omega)
    obtain ⟨b, off, spot⟩ := x
    have hspot : spot = none := by simpa [Addr.add] using World.cell?_spot h0
    subst hspot
    refine ⟨b, off, rfl, ?_, fun j u hu => ?_⟩
    · have := World.block_lt_of_cell? W _ h0
      simpa [Addr.add] using this
    · have hj : j < n := by
        have := (List.getElem?_eq_some_iff.1 hu).1
        simp [bcells] at this; omega
      have h1 := hcell j (by omega)
      have e1 : (⟨b, off, none⟩ : Addr).add j = ⟨b, off + j, none⟩ := by unfold Addr.add; split <;> simp_all
      rw [e1] at h1
      rw [h1]
      have hw := hwz (zs.getD j 0) (by rw [getD_of_lt _ _ (by omega)]; exact List.getElem_mem _)
      have hb2 : 0 ≤ zs.getD j 0 ∧ zs.getD j 0 ≤ 255 := by
        simp [Lit.wf, IntKind.min, IntKind.max, IntKind.signed, IntKind.bits] at hw
        simpa using hw
      simp only [bcells, List.getElem?_map, List.getElem?_take] at hu
      rw [if_pos hj, List.getElem?_eq_getElem (by omega : j < zs.length)] at hu
      simp at hu
      rw [← hu]
      rw [getD_of_lt _ _ (by omega : j < zs.length)] at hb2 ⊢
      congr 2
      omega

theorem arg_strings (hv : Value.okWide Try.prog W .any base 29 v) (h : DataW.Trod enc Try.prog W 0 (fun _ => true) true 29 v d ps) (hlt : ∀ x ∈ ps, x.block < W.heap.size) :
    ∃ A n c, ∃ l : List (List UInt8), v = .slice A n c ∧ RowAt W A n (scells l) ∧ ∀ s ∈ l, s.length ≤ maxLen := by
  obtain ⟨A, n, c, rfl⟩ := okWide_slice Try.underlying29 hv
  obtain ⟨fuel, hf⟩ := h
  rcases open_strings Try.underlying29 Try.underlying9 (by kernel_rfl) hf with ⟨hcs, _⟩ | ⟨x, n', c', ss, hcs, _, hl, hm, hz, _, hcell, hws⟩
  · simp [Value.cells] at hcs
    obtain ⟨rfl, rfl, rfl⟩ := hcs
    exact ⟨none, 0, 0, [], rfl, ⟨rfl, Nat.zero_le _, fun h => absurd h (by omega)⟩, fun s hs => by cases hs⟩
  · simp [Value.cells] at hcs
    obtain ⟨rfl, rfl, rfl⟩ := hcs
    simp at hz
    refine ⟨some x, n, c, (ss.take n).map fun s => s.data.toList, rfl, ⟨by simp [scells]; omega, Nat.le_trans hl hm, fun hn => ?_⟩, ?_⟩
    · have h0 := hcell 0 (by omega)
      obtain ⟨b, off, spot⟩ := x
      have hspot : spot = none := by simpa [Addr.add] using World.cell?_spot h0
      subst hspot
      refine ⟨b, off, rfl, ?_, fun j u hu => ?_⟩
      · have := World.block_lt_of_cell? W _ h0
        simpa [Addr.add] using this
      · have hj : j < n := by
          have := (List.getElem?_eq_some_iff.1 hu).1
          simp [scells] at this; omega
        have h1 := hcell j (by omega)
        have e1 : (⟨b, off, none⟩ : Addr).add j = ⟨b, off + j, none⟩ := by unfold Addr.add; split <;> simp_all
        rw [e1] at h1
        rw [h1]
        simp only [scells, List.getElem?_map, List.getElem?_take] at hu
        rw [if_pos hj, List.getElem?_eq_getElem (by omega : j < ss.length)] at hu
        simp at hu
        rw [← hu, getD_of_lt _ _ (by omega : j < ss.length)]
    · intro s hs
      obtain ⟨y, hy, rfl⟩ := List.mem_map.1 hs
      have := hws y (List.mem_of_mem_take hy)
      simpa using this
end
end Go.Proofs.Ytjbpjpakcpjheaa
