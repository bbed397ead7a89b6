/- Texts joined: LawG2. Conditions: as each theorem names them. -/
import Derived.Test.YtdhinlhafoiaiaaGreatDoorK21
import Derived.Test.YtdhinlhafoiaiaaGreatDoorK22
import Derived.Test.YtdhinlhafoiaiaaGreatDoorK28
import Derived.Test.YtdhinlhafoiaiaaGreatDoorK29
import Derived.Test.YtdhinlhafoiaiaaGreatDoorK31
/- The walks of the drawn laws on evolution. -/
namespace Go.Proofs.YtdhinlhafoiaiaaGreatDoor
open Go.RowKit
set_option maxRecDepth 100000
set_option linter.unusedVariables false
set_option linter.unusedSimpArgs false
attribute [local go_sem] ba_get ba_toList ba_extract take_drop_all ByteArray.mk_append_mk

set_option maxHeartbeats 2000000 in
theorem FnEvolveBoth_walk (w : World) (A : Option Addr) (n c : Nat) (l : List UInt8) (h : RowAt w A n (bcells l)) (hc : n ≤ c) (hcm : c ≤ maxLen) :
    Calls Tryz.prog 4 #[.slice A n c] w fun e w' => e = .returned (.bool true) ∧ Below w.heap.size w w' := by
  by_cases hn : n ≤ 1048576
  · have H0 := Lib.hid h
    clear h
    go_enter Tryz.func4, Tryz.ntmps4
    go_wp2_with fail
    refine (DrawEvolveBoth_any A n c l w H0.out hc hcm).mono ?_
    rintro e w1 ⟨a, b, c', d, rfl, ha, hb, hc', hd, hb1⟩
    have Hb1 := Lib.hid hb1
    clear hb1
    have Hi := Lib.hid (fun W => iEvolveBoth_any a b c' d W (by omega) (by omega) (by omega) (by omega))
    have Hs := Lib.hid (fun W => sEvolveBoth_any a b c' d W (by omega) (by omega) (by omega) (by omega))
    have Hr := Lib.hid (fun W => iEvolveBoth_any c' d a b W (by omega) (by omega) (by omega) (by omega))
    have He := Lib.hid (fun W => iEvolve_any a b c' d W (by omega) (by omega) (by omega) (by omega))
    rw [Bool.and_comm] at Hr
    generalize evolveL (bothL c' d) (bothL a b) = y at *
    cases hx : evolveL (bothL a b) (bothL c' d) with
    | false =>
      rw [hx] at Hi Hs Hr He
      clear hx
      simp only [Bool.false_and] at Hi Hs Hr
      go_wp2_with fail
      refine (Hi.out _).mono ?_
      rintro e w2 ⟨rfl, hb2⟩
      have Hb2 := Lib.hid (Hb1.out.trans (hb2.mono Hb1.out.size))
      clear hb2
      go_wp2_with fail
      refine (Hs.out _).mono ?_
      rintro e w3 ⟨rfl, hb3⟩
      have Hb3 := Lib.hid (Hb2.out.trans (hb3.mono Hb2.out.size))
      clear hb3
      go_wp2_with fail
      refine (Hr.out _).mono ?_
      rintro e w4 ⟨rfl, hb4⟩
      have Hb4 := Lib.hid (Hb3.out.trans (hb4.mono Hb3.out.size))
      clear hb4
      go_wp2_with fail
      go_ret
      exact ⟨rfl, Hb4.out⟩
    | true =>
      rw [hx] at Hi Hs Hr He
      clear hx
      simp only [Bool.true_and] at Hi Hs Hr
      cases y with
      | false =>
        go_wp2_with fail
        refine (Hi.out _).mono ?_
        rintro e w2 ⟨rfl, hb2⟩
        have Hb2 := Lib.hid (Hb1.out.trans (hb2.mono Hb1.out.size))
        clear hb2
        go_wp2_with fail
        refine (Hs.out _).mono ?_
        rintro e w3 ⟨rfl, hb3⟩
        have Hb3 := Lib.hid (Hb2.out.trans (hb3.mono Hb2.out.size))
        clear hb3
        go_wp2_with fail
        refine (Hr.out _).mono ?_
        rintro e w4 ⟨rfl, hb4⟩
        have Hb4 := Lib.hid (Hb3.out.trans (hb4.mono Hb3.out.size))
        clear hb4
        go_wp2_with fail
        go_ret
        exact ⟨rfl, Hb4.out⟩
      | true =>
        go_wp2_with fail
        refine (Hi.out _).mono ?_
        rintro e w2 ⟨rfl, hb2⟩
        have Hb2 := Lib.hid (Hb1.out.trans (hb2.mono Hb1.out.size))
        clear hb2
        go_wp2_with fail
        refine (Hs.out _).mono ?_
        rintro e w3 ⟨rfl, hb3⟩
        have Hb3 := Lib.hid (Hb2.out.trans (hb3.mono Hb2.out.size))
        clear hb3
        go_wp2_with fail
        refine (Hr.out _).mono ?_
        rintro e w4 ⟨rfl, hb4⟩
        have Hb4 := Lib.hid (Hb3.out.trans (hb4.mono Hb3.out.size))
        clear hb4
        go_wp2_with fail
        refine (He.out _).mono ?_
        rintro e w5 ⟨rfl, hb5⟩
        have Hb5 := Lib.hid (Hb4.out.trans (hb5.mono Hb4.out.size))
        clear hb5
        go_wp2_with fail
        go_ret
        exact ⟨rfl, Hb5.out⟩
  · unfold maxLen at hcm
    go_enter Tryz.func4, Tryz.ntmps4
    go_wp2_with fail
    go_ret
    exact ⟨rfl, Below.refl _ _⟩

set_option maxHeartbeats 2000000 in
theorem FnEvolveReads_walk (w : World) (A : Option Addr) (n c : Nat) (l : List UInt8) (h : RowAt w A n (bcells l)) (hc : n ≤ c) (hcm : c ≤ maxLen) :
    Calls Tryz.prog 11 #[.slice A n c] w fun e w' => e = .returned (.bool true) ∧ Below w.heap.size w w' := by
  by_cases hn : n ≤ 1048576
  · have H0 := Lib.hid h
    clear h
    go_enter Tryz.func11, Tryz.ntmps11
    go_wp2_with fail
    refine (DrawEvolveReads_any A n c l w H0.out hc hcm).mono ?_
    rintro e w1 ⟨a, b, c', d, rfl, ha, hb, hc', hd, hb1⟩
    have Hb1 := Lib.hid hb1
    clear hb1
    have Hi := Lib.hid (fun W => iEvolve_any a b c' d W (by omega) (by omega) (by omega) (by omega))
    have Hs := Lib.hid (fun W => sEvolve_any a b c' d W (by omega) (by omega) (by omega) (by omega))
    have Hu := Lib.hid (fun W => iUsed_any a b W (by omega) (by omega))
    have He := Lib.hid (fun W => iEvolve_any a b a b W (by omega) (by omega) (by omega) (by omega))
    rw [evolve_self] at He
    generalize evolveL (bothL a b) (bothL c' d) = x at *
    generalize bothL a b = o at *
    have tx : (x == x) = true := by simp
    have tox : ((o.isSome) == (o.isSome)) = true := by simp
    unfold IuPost at Hu
    generalize o.isSome = oo at *
    go_wp2_with fail
    refine (Hi.out _).mono ?_
    rintro e w2 ⟨rfl, hb2⟩
    have Hb2 := Lib.hid (Hb1.out.trans (hb2.mono Hb1.out.size))
    clear hb2
    go_wp2_with fail
    refine (Hs.out _).mono ?_
    rintro e w3 ⟨rfl, hb3⟩
    have Hb3 := Lib.hid (Hb2.out.trans (hb3.mono Hb2.out.size))
    clear hb3
    go_wp2_with fail
    refine (Hu.out _).mono ?_
    rintro e w4 ⟨v, rfl, _, hb4⟩
    have Hb4 := Lib.hid (Hb3.out.trans (hb4.mono Hb3.out.size))
    clear hb4
    go_wp2_with fail
    refine (He.out _).mono ?_
    rintro e w5 ⟨rfl, hb5⟩
    have Hb5 := Lib.hid (Hb4.out.trans (hb5.mono Hb4.out.size))
    clear hb5
    go_wp2_with fail
    go_ret
    exact ⟨rfl, Hb5.out⟩
  · unfold maxLen at hcm
    go_enter Tryz.func11, Tryz.ntmps11
    go_wp2_with fail
    go_ret
    exact ⟨rfl, Below.refl _ _⟩

end Go.Proofs.YtdhinlhafoiaiaaGreatDoor
