/- Texts joined: LawG3. Conditions: as each theorem names them. -/
import Derived.Test.YtdhinlhafoiaiaaGreatDoorK23
import Derived.Test.YtdhinlhafoiaiaaGreatDoorK32
/- The walks of the drawn laws on registries. -/
namespace Go.Proofs.YtdhinlhafoiaiaaGreatDoor
open Go.RowKit
set_option maxRecDepth 100000
set_option linter.unusedVariables false
set_option linter.unusedSimpArgs false
attribute [local go_sem] ba_get ba_toList ba_extract take_drop_all ByteArray.mk_append_mk

set_option maxHeartbeats 2000000 in
theorem FnRegistryOk_walk (w : World) (A : Option Addr) (n c : Nat) (l : List UInt8) (h : RowAt w A n (bcells l)) (hc : n ≤ c) (hcm : c ≤ maxLen) :
    Calls Tryz.prog 6 #[.slice A n c] w fun e w' => e = .returned (.bool true) ∧ Below w.heap.size w w' := by
  by_cases hn : n ≤ 1048576
  · have H0 := Lib.hid h
    clear h
    go_enter Tryz.func6, Tryz.ntmps6
    go_wp2_with fail
    refine (DrawRegistryOk_any A n c l w H0.out hc hcm).mono ?_
    rintro e w1 ⟨vs, v, rfl, hv, hsv, hp, hle, hb1⟩
    have Hb1 := Lib.hid hb1
    have Hl := Lib.hid (show ∀ x ∈ vs, x.1.length ≤ 4000000 ∧ x.2.length ≤ 4000000 from fun x hx => by have := hsv x hx; omega)
    have Hl2 := Lib.hid (show ∀ x ∈ vs.dropLast, x.1.length ≤ 4000000 ∧ x.2.length ≤ 4000000 from fun x hx => Hl.out x (List.dropLast_subset _ hx))
    have Hv := Lib.hid hv
    have Hk := Lib.hid (fun h => regOk_drop (vs := vs) h)
    obtain ⟨A2, c2, rfl, hc2, _, _⟩ := hv
    have Hd := Lib.hid (vrow_drop Hv.out)
    have Hvl := Lib.hid (rfl : vs.length = vs.length)
    have hvd : vs.dropLast.length ≤ 1048576 := by simp; omega
    generalize hnv : vs.length = nv at hp hle hc2 Hd
    have Hnv := Lib.hid hnv
    have hn1 : vs.length ≤ 1048576 := by omega
    clear hb1 hsv Hvl
    have Hba := Lib.hid (show Below w1.heap.size w1 (w1.alloc (.cells #[.slice A2 nv c2] 42)) from (Below.refl _ _).alloc (Nat.le_refl _) _)
    have Hi := Lib.hid (fun W (hW : Below w1.heap.size w1 W) => iRegOk_any _ vs W (Hv.out.below hW) hn1 Hl.out)
    have Hs := Lib.hid (fun W (hW : Below w1.heap.size w1 W) => sRegOk_any _ vs W (Hv.out.below hW) hn1 Hl.out)
    have Hj := Lib.hid (fun W (hW : Below w1.heap.size w1 W) => iRegOk_any _ vs.dropLast W (Hd.out.below hW) hvd Hl2.out)
    rw [hnv] at Hi Hs
    generalize regOk vs.dropLast = rd at Hj Hk
    generalize regOk vs = ro at Hi Hs Hk
    clear hnv hn1 hvd
    go_wp2_with fail
    refine (Hi.out _ Hba.out).mono ?_
    rintro e w2 ⟨rfl, hb2⟩
    have Hc2 := Lib.hid (Hba.out.trans (hb2.mono Hba.out.size))
    have x2 : w2.cell? ⟨w1.heap.size, 0, none⟩ = some (.slice A2 nv c2) := (hb2.cell (p := ⟨w1.heap.size, 0, none⟩) (by simp)).trans (by simp [go_sem])
    have z2 : w1.heap.size < w2.heap.size := by have := hb2.size; simp at this; omega
    clear hb2
    go_wp2_with fail
    refine (Hs.out _ Hc2.out).mono ?_
    rintro e w3 ⟨rfl, hb3⟩
    have Hc3 := Lib.hid (Hc2.out.trans (hb3.mono Hc2.out.size))
    have x3 : w3.cell? ⟨w1.heap.size, 0, none⟩ = some (.slice A2 nv c2) := (hb3.cell (p := ⟨w1.heap.size, 0, none⟩) z2).trans x2
    have Hb3 := Lib.hid (Hb1.out.trans (Hc3.out.mono Hb1.out.size))
    have tr : (ro == ro) = true := by simp
    clear hb3 x2
    cases ro with
    | false =>
      go_wp2_with fail
      go_ret
      exact ⟨rfl, Hb3.out⟩
    | true =>
      have hrd := Hk.out rfl
      subst hrd
      have n1 : ((nv : Int) == 0) = false := by simp; omega
      have n2 : IntKind.i64.wrap ((nv : Int) - 1) = ((nv - 1 : Nat) : Int) := by rw [IntWalk.i64_in _ (by omega)]; omega
      have n3 : (0 : Int) ≤ ((nv - 1 : Nat) : Int) := by omega
      have n4 : ((nv - 1 : Nat) : Int) ≤ (c2 : Int) := by omega
      go_wp2_with fail
      refine (Hj.out _ Hc3.out).mono ?_
      rintro e w4 ⟨rfl, hb4⟩
      have Hb4 := Lib.hid (Hb3.out.trans (hb4.mono Hb3.out.size))
      clear hb4
      go_wp2_with fail
      go_ret
      exact ⟨rfl, Hb4.out⟩
  · unfold maxLen at hcm
    go_enter Tryz.func6, Tryz.ntmps6
    go_wp2_with fail
    go_ret
    exact ⟨rfl, Below.refl _ _⟩

end Go.Proofs.YtdhinlhafoiaiaaGreatDoor
