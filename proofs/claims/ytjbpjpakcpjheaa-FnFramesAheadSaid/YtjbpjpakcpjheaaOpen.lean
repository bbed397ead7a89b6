/- l6Open: a reader over a code. -/
import Derived.Test.YtjbpjpakcpjheaaPick
namespace Go.Proofs.Ytjbpjpakcpjheaa
open Go.RowKit
set_option maxRecDepth 100000
set_option linter.unusedVariables false

theorem rdr_new {w : World} {A : Option Addr} {n c : Nat} {l : List UInt8} (h : RowAt w A n (bcells l)) (hn : n ≤ 2000) : Rdr (w.alloc (.cells #[.slice A n c, .int .i64 0] 65)) w.heap.size 0 := by
  refine ⟨A, n, c, l, heap_alloc_new w _, h.alloc _, hn, fun b off e hpos => ?_⟩
  obtain ⟨b', off', e', hlt, _⟩ := h.2.2 hpos
  rw [e] at e'
  injection e' with e'
  injection e' with e1
  subst e1
  omega

theorem RowAt.take {w : World} {A : Option Addr} {n : Nat} {l : List UInt8} (h : RowAt w A n (bcells l)) (k : Nat) (hk : k ≤ n) : RowAt w A k (bcells (l.take k)) := by
  have hl : l.length = n := by have := h.1; simpa [bcells] using this
  refine ⟨by simp [bcells]; omega, Nat.le_trans hk h.2.1, fun h0 => ?_⟩
  obtain ⟨b, off, e, hlt, hc⟩ := h.2.2 (by omega)
  refine ⟨b, off, e, hlt, fun j u hu => hc j u ?_⟩
  have hj : j < k := by
    have := (List.getElem?_eq_some_iff.1 hu).1
    simp [bcells] at this; omega
  simpa [bcells, List.getElem?_take, hj] using hu

set_option maxHeartbeats 1000000 in
theorem l6Open_any (A : Option Addr) (n c : Nat) (l : List UInt8) (w : World) (h : RowAt w A n (bcells l)) (hc : n ≤ c) (hcm : c ≤ maxLen) :
    Calls Try.prog 42 #[.slice A n c] w fun e w' => ∃ g, e = .returned (.pointer (some ⟨g, 0, none⟩)) ∧ Rdr w' g 0 ∧ w.heap.size ≤ g ∧ Below w.heap.size w w' := by
  unfold maxLen at hcm
  by_cases hn : n ≤ 2000
  · go_enter Try.func42, Try.ntmps42
    go_wp2
    go_goals
    go_ret
    exact ⟨w.heap.size, rfl, rdr_new h hn, Nat.le_refl _, (Below.refl _ _).alloc (Nat.le_refl _) _⟩
  · go_enter Try.func42, Try.ntmps42
    go_wp2
    go_goals
    go_ret
    exact ⟨w.heap.size, rfl, rdr_new (h.take 2000 (by omega)) (Nat.le_refl _), Nat.le_refl _, (Below.refl _ _).alloc (Nat.le_refl _) _⟩
end Go.Proofs.Ytjbpjpakcpjheaa
