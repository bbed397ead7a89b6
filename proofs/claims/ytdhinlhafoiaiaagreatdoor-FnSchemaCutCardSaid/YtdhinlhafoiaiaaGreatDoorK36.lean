/- Texts joined: Wf, SUse. Conditions: as each theorem names them. -/
import Derived.Test.YtdhinlhafoiaiaaGreatDoorK01
import Derived.Test.YtdhinlhafoiaiaaGreatDoorK29
/- Two slices of texts are compared: the laws' own helpers. -/
namespace Go.Proofs.YtdhinlhafoiaiaaGreatDoor
open Go.RowKit
set_option maxRecDepth 100000
set_option linter.unusedVariables false
attribute [local go_sem] ba_get ba_toList ba_extract take_drop_all ByteArray.mk_append_mk

set_option maxHeartbeats 1000000 in
/-- Two slices of texts are compared. -/
theorem wfTexts_any (A B : Option Addr) (n m c d : Nat) (a b : List (List UInt8)) (w : World) (ha : RowAt w A n (scells a)) (hb : RowAt w B m (scells b)) :
    Calls Tryz.prog 48 #[.slice A n c, .slice B m d] w fun e w' => e = .returned (.bool (decide (a = b))) ∧ ∃ k, w' = w.drewN k := by
  have la : a.length = n := by have := ha.1; simpa [scells] using this
  have lb : b.length = m := by have := hb.1; simpa [scells] using this
  have hn63 : n ≤ 9223372036854775807 := by have := ha.2.1; unfold maxLen at this; omega
  have hm63 : m ≤ 9223372036854775807 := by have := hb.2.1; unfold maxLen at this; omega
  by_cases hnm : n = m
  · have t0 : ((n : Int) == m) = true := by simp [hnm]
    have hle : n ≤ m := by omega
    have Hnm := Lib.hid hnm
    clear hnm
    go_enter Tryz.func48, Tryz.ntmps48
    go_wp2
    go_loopw [5] (fun i wr => ∃ k : Nat, i = .int .i64 k ∧ k ≤ n ∧ Hid (a.take k = b.take k) ∧ ∃ q, wr = w.drewN q) (fun i _ => n - (intOf i).toNat)
    case atStart => exact ⟨0, rfl, Nat.zero_le _, rfl, 0, rfl⟩
    case round =>
      obtain ⟨k, rfl, hk, heq, q, rfl⟩ := hrel
      by_cases hlt : k < n
      · obtain ⟨b1, o1, rfl, hb1, hc1⟩ := ha.at_ hlt
        obtain ⟨b2, o2, rfl, hb2, hc2⟩ := hb.at_ (show k < m by omega)
        have i1 : (0 : Int) ≤ (k : Int) := by omega
        have i2 : (k : Int) < (n : Int) := by omega
        have i3 : (k : Int) < (m : Int) := by omega
        have x1 : w.cell? ⟨b1, o1 + k, none⟩ = some (.string ⟨(a[k]'(by omega)).toArray⟩) := by rw [hc1]; simp [scells]
        have x2 : w.cell? ⟨b2, o2 + k, none⟩ = some (.string ⟨(b[k]'(by omega)).toArray⟩) := by rw [hc2]; simp [scells]
        have Hta := Lib.hid (take_snoc a k (by omega))
        have Htb := Lib.hid (take_snoc b k (by omega))
        have Ha := Lib.hid (List.getElem_mem (show k < a.length by omega))
        have hne := Lib.hid (fun h : a[k]'(show k < a.length by omega) ≠ b[k]'(show k < b.length by omega) => show a ≠ b from fun e => h (by subst e; rfl))
        generalize a[k]'(show k < a.length by omega) = p at x1 Hta hne Ha
        generalize b[k]'(show k < b.length by omega) = r at x2 Htb hne
        clear hc1 hc2
        by_cases hpr : p = r
        · have t1 : (p == r) = true := by simp [hpr]
          have Hpr := Lib.hid hpr
          clear hpr
          go_wp2_with fail
          go_quiet (fail)
          go_wp2
          go_roundw
          case rel =>
            refine ⟨k + 1, by go_num, by omega, ?_, _, rfl⟩
            show a.take (k + 1) = b.take (k + 1)
            rw [Hta.out, Htb.out, heq.out, Hpr.out]
          case measure => simp [intOf]; omega
        · have t1 : (p == r) = false := by simpa using hpr
          have Hf := Lib.hid (show decide (a = b) = false by simpa using hne.out hpr)
          clear hpr hne
          go_wp2_with fail
          go_quiet (fail)
          go_wp2
          go_ret
          exact ⟨ret1 (vbool Hf.out.symm), _, World.drewN_drewN _ _ _⟩
      · have Hf := Lib.hid (show decide (a = b) = true by
          have := heq.out
          rw [List.take_of_length_le (by omega), List.take_of_length_le (by have := Hnm.out; omega)] at this
          simpa using this)
        go_wp2_with fail
        go_ret
        exact ⟨ret1 (vbool Hf.out.symm), q, rfl⟩
  · have t0 : ((n : Int) == m) = false := by simp; omega
    have Hf := Lib.hid (show decide (a = b) = false by
      simp; intro e; subst e; omega)
    clear hnm
    go_enter Tryz.func48, Tryz.ntmps48
    go_wp2_with fail
    go_ret
    exact ⟨ret1 (vbool Hf.out.symm), 0, rfl⟩

end Go.Proofs.YtdhinlhafoiaiaaGreatDoor
/- SchemaUsed of the reference, SchemaOk of the program, rows of names compared. -/
namespace Go.Proofs.YtdhinlhafoiaiaaGreatDoor
open Go.RowKit
set_option maxRecDepth 100000
set_option linter.unusedVariables false
set_option linter.unusedSimpArgs false
attribute [local go_sem] ba_get ba_toList ba_extract take_drop_all ByteArray.mk_append_mk

theorem OutRow.nm {w : World} {v : Value} {l : List Name} (h : OutRow w v l) : NmRow w v l := by
  obtain ⟨g, c, rfl, hg, h1, h2, hc⟩ := h
  refine ⟨_, c, rfl, by simp [scells], by omega, fun _ => ⟨g, 0, rfl, hg, fun j u hu => ?_⟩⟩
  obtain ⟨hj, rfl⟩ := List.getElem?_eq_some_iff.1 hu
  simp [scells] at hj ⊢
  exact hc j hj
theorem nm_wf (v u : Value) (a b : List Name) (w : World) (h1 : NmRow w v a) (h2 : NmRow w u b) :
    Calls Tryz.prog 48 #[v, u] w fun e w' => e = .returned (.bool (decide (a = b))) ∧ Below w.heap.size w w' := by
  obtain ⟨A, c, rfl, ha⟩ := h1
  obtain ⟨B, d, rfl, hb⟩ := h2
  exact (wfTexts_any A B _ _ c d a b w ha hb).mono fun e w' ⟨he, k, hk⟩ => ⟨he, by subst hk; exact ⟨rfl, rfl, rfl, Nat.le_refl _, fun _ _ => rfl⟩⟩
theorem iOk_any (s : List UInt8) (w : World) (hs : s.length ≤ 4000000) :
    Calls Tryz.prog 49 #[.string ⟨s.toArray⟩] w fun e w' => e = .returned (.bool (schemaL s).isSome) ∧ Below w.heap.size w w' := by
  have Hr := Lib.hid (fun W => readSchema_any s W hs)
  generalize schemaL s = o at *
  go_enter Tryz.func49, Tryz.ntmps49
  go_wp2_with fail
  refine (Hr.out _).mono ?_
  rintro e w1 ⟨hcase, hb1⟩
  cases o with
  | none =>
    obtain ⟨p, rfl⟩ := hcase
    go_wp2_with fail
    go_ret
    exact ⟨rfl, hb1⟩
  | some S =>
    obtain ⟨p, xs, _, rfl, _⟩ := hcase
    go_wp2_with fail
    go_ret
    exact ⟨rfl, hb1⟩
set_option maxHeartbeats 1000000 in
theorem sUse_any (s d : List UInt8) (w : World) (hs : s.length ≤ 4000000) (hd : d.length ≤ 4000000) :
    Calls Tryz.prog 47 #[.string ⟨s.toArray⟩, .string ⟨d.toArray⟩] w (IuPost (bothL s d) w) := by
  have Hk := Lib.hid (fun W => sKind_any s d W hs hd)
  have Hgood := Lib.hid (fun S k (h : bothL s d = some (S, k)) => bothL_good h)
  generalize bothL s d = o at Hk Hgood
  go_enter Tryz.func47, Tryz.ntmps47
  go_wp2_with fail
  refine (Hk.out _).mono ?_
  rintro e w1 ⟨hcase, hb1⟩
  cases o with
  | none =>
    obtain ⟨A, n, c, rfl⟩ := hcase
    go_wp2_with fail
    go_ret2
    exact ⟨_, rfl, ⟨_, _, rfl, by simp [RowAt, usedO, scells]⟩, hb1.alloc hb1.size _⟩
  | some x =>
    obtain ⟨S, k⟩ := x
    obtain ⟨v, xs, rfl, hxs, hsc⟩ := hcase
    simp only at hxs
    obtain ⟨⟨hlines, hkinds, _⟩, _, _, hkok, hkd, href⟩ := Hgood.out S k rfl
    subst hxs
    subst hkd
    have hx8 : xs.length ≤ 8 := by have := hlines.2.1; simpa [tysOf] using this
    have Hsc := Lib.hid hsc
    have Hb1 := Lib.hid hb1
    have Hu := Lib.hid (fun W v' (h1 : SSc W v xs) (h2 : OutRow W v' []) => sUsed_any v xs hkinds hlines.1 hx8 9 k [] W v' h1 hkok href (Mets.nil _) List.Pairwise.nil (by simp; omega) h2)
    clear hlines hkinds hkok href hsc hb1 Hgood Hk
    change Hid (∀ W v' (h1 : SSc W v xs) (h2 : OutRow W v' []), Calls Tryz.prog 58 #[v, .string ⟨(kdB k).toArray⟩, v'] W (UsPost (usedO (some (tysOf xs, k))) W)) at Hu
    generalize hus : usedO (some (tysOf xs, k)) = us at Hu
    have Hus := Lib.hid hus
    clear hus
    go_wp2_with fail
    refine (Hu.out _ _ (Hsc.out.below ((Below.refl _ _).alloc (Nat.le_refl _) _)) ⟨w1.heap.size, 0, rfl, by simp, Nat.le_refl _, Nat.zero_le _, fun j hj => by simp at hj⟩).mono ?_
    rintro e w2 ⟨v2, rfl, ho, hb2⟩
    have Ho := Lib.hid ho.nm
    have Hb2 := Lib.hid (Hb1.out.trans ((((Below.refl w1.heap.size w1).alloc (Nat.le_refl _) _).trans (hb2.mono (by simp))).mono Hb1.out.size))
    clear ho hb2
    go_wp2_with fail
    go_ret2
    exact ⟨v2, rfl, by rw [Hus.out]; exact Ho.out, Hb2.out⟩
end Go.Proofs.YtdhinlhafoiaiaaGreatDoor
