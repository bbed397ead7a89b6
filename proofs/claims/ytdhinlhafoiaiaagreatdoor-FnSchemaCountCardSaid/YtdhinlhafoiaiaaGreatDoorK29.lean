/- Texts joined: LawG1. Conditions: as each theorem names them. -/
import Derived.Test.YtdhinlhafoiaiaaGreatDoorK17
import Derived.Test.YtdhinlhafoiaiaaGreatDoorK22
import Derived.Test.YtdhinlhafoiaiaaGreatDoorK25
import Derived.Test.YtdhinlhafoiaiaaGreatDoorK26
import Derived.Test.YtdhinlhafoiaiaaGreatDoorK28
/- The walks of the drawn laws on counts, forms and likeness of schemas. -/
namespace Go.Proofs.YtdhinlhafoiaiaaGreatDoor
open Go.RowKit
set_option maxRecDepth 100000
set_option linter.unusedVariables false
set_option linter.unusedSimpArgs false
attribute [local go_sem] ba_get ba_toList ba_extract take_drop_all ByteArray.mk_append_mk

theorem both_short {a : List UInt8 × List UInt8} {s d : List UInt8} (h : formL (bothL s d) = some a) : a.1.length ≤ 400 ∧ a.2.length ≤ 12 := form_short h
set_option maxHeartbeats 2000000 in
theorem FnSchemaForm_walk (w : World) (A : Option Addr) (n c : Nat) (l : List UInt8) (h : RowAt w A n (bcells l)) (hc : n ≤ c) (hcm : c ≤ maxLen) :
    Calls Tryz.prog 7 #[.slice A n c] w fun e w' => e = .returned (.bool true) ∧ Below w.heap.size w w' := by
  by_cases hn : n ≤ 1048576
  · have H0 := Lib.hid h
    clear h
    go_enter Tryz.func7, Tryz.ntmps7
    go_wp2_with fail
    refine (DrawSchemaForm_any A n c l w H0.out hc hcm).mono ?_
    rintro e w1 ⟨s, k, rfl, hs, hk, hb1⟩
    have hsl := hs.1
    have hkl := hk.len
    have Hb1 := Lib.hid hb1
    clear hb1 hs hk
    have Hi := Lib.hid (fun W => iForm_any s k W (by omega) (by omega))
    have Hs := Lib.hid (fun W => sForm_any s k W (by omega) (by omega))
    rcases hf : formL (bothL s k) with _ | a
    · rw [hf] at Hi Hs
      clear hf
      simp only [formV] at Hi Hs
      go_wp2_with fail
      refine (Hi.out _).mono ?_
      rintro e w2 ⟨rfl, hb2⟩
      have Hb2 := Lib.hid (Hb1.out.trans (hb2.mono Hb1.out.size))
      clear hb2
      go_wp2_with fail
      refine (Hs.out _).mono ?_
      rintro e w3 ⟨rfl, hb3⟩
      have Hb3 := Lib.hid (Hb2.out.trans (hb3.mono Hb2.out.size))
      clear hb3
      go_wp2_with fail
      go_ret
      exact ⟨rfl, Hb3.out⟩
    · obtain ⟨ha1, ha2⟩ := form_short hf
      have ht := form_twice hf
      have Hi2 := Lib.hid (fun W => iForm_any a.1 a.2 W (by omega) (by omega))
      have Hev := Lib.hid (fun W => iEvolveBoth_any s k a.1 a.2 W (by omega) (by omega) (by omega) (by omega))
      rw [form_reads hf ht, form_reads ht hf] at Hev
      rw [ht] at Hi2
      rw [hf] at Hi Hs
      clear hf ht
      obtain ⟨x, y⟩ := a
      simp only [formV, Bool.and_self] at Hi Hs Hi2 Hev
      go_wp2_with fail
      refine (Hi.out _).mono ?_
      rintro e w2 ⟨rfl, hb2⟩
      have Hb2 := Lib.hid (Hb1.out.trans (hb2.mono Hb1.out.size))
      clear hb2
      go_wp2_with fail
      refine (Hs.out _).mono ?_
      rintro e w3 ⟨rfl, hb3⟩
      have Hb3 := Lib.hid (Hb2.out.trans (hb3.mono Hb2.out.size))
      clear hb3
      go_wp2_with fail
      refine (Hi2.out _).mono ?_
      rintro e w4 ⟨rfl, hb4⟩
      have Hb4 := Lib.hid (Hb3.out.trans (hb4.mono Hb3.out.size))
      clear hb4
      go_wp2_with fail
      refine (Hev.out _).mono ?_
      rintro e w5 ⟨rfl, hb5⟩
      have Hb5 := Lib.hid (Hb4.out.trans (hb5.mono Hb4.out.size))
      clear hb5
      go_wp2_with fail
      go_ret
      exact ⟨rfl, Hb5.out⟩
  · unfold maxLen at hcm
    go_enter Tryz.func7, Tryz.ntmps7
    go_wp2_with fail
    go_ret
    exact ⟨rfl, Below.refl _ _⟩

set_option maxHeartbeats 2000000 in
theorem FnSchemaCount_walk (w : World) (A : Option Addr) (n c : Nat) (l : List UInt8) (h : RowAt w A n (bcells l)) (hc : n ≤ c) (hcm : c ≤ maxLen) :
    Calls Tryz.prog 3 #[.slice A n c] w fun e w' => e = .returned (.bool true) ∧ Below w.heap.size w w' := by
  by_cases hn : n ≤ 1048576
  · have H0 := Lib.hid h
    clear h
    go_enter Tryz.func3, Tryz.ntmps3
    go_wp2_with fail
    refine (DrawSchemaCount_any A n c l w H0.out hc hcm).mono ?_
    rintro e w1 ⟨s, k, rfl, hs, hk, hb1⟩
    have hsl := hs.1
    have hkl := hk.len
    have Hb1 := Lib.hid hb1
    clear hb1 hs hk
    have Hi := Lib.hid (fun W => iCount_any s k W (by omega) (by omega))
    have Hs := Lib.hid (fun W => sCount_any s k W (by omega) (by omega))
    have Hf := Lib.hid (fun W => iForm_any s k W (by omega) (by omega))
    rcases hb : bothL s k with _ | x
    · rw [hb] at Hi Hs
      clear hb Hf
      unfold CnPost at Hi Hs
      simp only [cntL] at Hi Hs
      go_wp2_with fail
      refine (Hi.out _).mono ?_
      rintro e w2 ⟨rfl, hb2⟩
      have Hb2 := Lib.hid (Hb1.out.trans (hb2.mono Hb1.out.size))
      clear hb2
      go_wp2_with fail
      refine (Hs.out _).mono ?_
      rintro e w3 ⟨rfl, hb3⟩
      have Hb3 := Lib.hid (Hb2.out.trans (hb3.mono Hb2.out.size))
      clear hb3
      go_wp2_with fail
      go_ret
      exact ⟨rfl, Hb3.out⟩
    · obtain ⟨N, M, hN, hNl, hMl⟩ : ∃ N M : Nat, cntL (bothL s k) = ((N : Int), (M : Int)) ∧ N ≤ 8 ∧ M ≤ 64 := by
        obtain ⟨S, q⟩ := x
        obtain ⟨g1, _, _, _, _, g6⟩ := bothL_good hb
        rw [hb]
        have h8 : (usedL S q).length ≤ 8 := used_len g1 g6
        exact ⟨_, _, rfl, h8, Nat.le_trans (countF_le g1.1.1 _) (by omega)⟩
      rcases hf : formL (bothL s k) with _ | a
      · rw [hf] at Hf
        unfold CnPost at Hi Hs
        rw [hN] at Hi Hs
        have Hc0 := Lib.hid (fun W => iCount_any [] [] W (by simp) (by simp))
        rw [show bothL [] [] = none by decide +kernel] at Hc0
        clear hf hb hN
        unfold CnPost at Hc0
        simp only [formV] at Hf
        simp only [cntL] at Hc0
        go_wp2_with fail
        refine (Hi.out _).mono ?_
        rintro e w2 ⟨rfl, hb2⟩
        have Hb2 := Lib.hid (Hb1.out.trans (hb2.mono Hb1.out.size))
        clear hb2
        go_wp2_with fail
        refine (Hs.out _).mono ?_
        rintro e w3 ⟨rfl, hb3⟩
        have Hb3 := Lib.hid (Hb2.out.trans (hb3.mono Hb2.out.size))
        clear hb3
        go_wp2_with fail
        refine (Hf.out _).mono ?_
        rintro e w4 ⟨rfl, hb4⟩
        have Hb4 := Lib.hid (Hb3.out.trans (hb4.mono Hb3.out.size))
        clear hb4
        go_wp2_with fail
        refine (Hc0.out _).mono ?_
        rintro e w5 ⟨rfl, hb5⟩
        have Hb5 := Lib.hid (Hb4.out.trans (hb5.mono Hb4.out.size))
        clear hb5
        go_wp2_with fail
        go_ret
        exact ⟨rfl, Hb5.out⟩
      · obtain ⟨ha1, ha2⟩ := form_short hf
        have Hi2 := Lib.hid (fun W => iCount_any a.1 a.2 W (by omega) (by omega))
        unfold CnPost at Hi Hs Hi2
        rw [form_cnt hf, hN] at Hi2
        rw [hN] at Hi Hs
        rw [hf] at Hf
        clear hf hb hN
        obtain ⟨y, z⟩ := a
        change Hid (∀ W, Calls Tryz.prog 17 #[.string ⟨s.toArray⟩, .string ⟨k.toArray⟩] W fun e w' => e = .returned (.tuple #[.string ⟨y.toArray⟩, .string ⟨z.toArray⟩, .bool true]) ∧ Below W.heap.size W w') at Hf
        go_wp2_with fail
        refine (Hi.out _).mono ?_
        rintro e w2 ⟨rfl, hb2⟩
        have Hb2 := Lib.hid (Hb1.out.trans (hb2.mono Hb1.out.size))
        clear hb2
        go_wp2_with fail
        refine (Hs.out _).mono ?_
        rintro e w3 ⟨rfl, hb3⟩
        have Hb3 := Lib.hid (Hb2.out.trans (hb3.mono Hb2.out.size))
        clear hb3
        go_wp2_with fail
        refine (Hf.out _).mono ?_
        rintro e w4 ⟨rfl, hb4⟩
        have Hb4 := Lib.hid (Hb3.out.trans (hb4.mono Hb3.out.size))
        clear hb4
        go_wp2_with fail
        refine (Hi2.out _).mono ?_
        rintro e w5 ⟨rfl, hb5⟩
        have Hb5 := Lib.hid (Hb4.out.trans (hb5.mono Hb4.out.size))
        clear hb5
        go_wp2_with fail
        go_ret
        exact ⟨rfl, Hb5.out⟩
  · unfold maxLen at hcm
    go_enter Tryz.func3, Tryz.ntmps3
    go_wp2_with fail
    go_ret
    exact ⟨rfl, Below.refl _ _⟩

set_option maxHeartbeats 2000000 in
theorem FnSchemaAlike_walk (w : World) (A : Option Addr) (n c : Nat) (l : List UInt8) (h : RowAt w A n (bcells l)) (hc : n ≤ c) (hcm : c ≤ maxLen) :
    Calls Tryz.prog 9 #[.slice A n c] w fun e w' => e = .returned (.bool true) ∧ Below w.heap.size w w' := by
  by_cases hn : n ≤ 1048576
  · have H0 := Lib.hid h
    clear h
    go_enter Tryz.func9, Tryz.ntmps9
    go_wp2_with fail
    refine (DrawSchemaAlike_any A n c l w H0.out hc hcm).mono ?_
    rintro e w1 ⟨a, b, c', d, rfl, ha, hb, hc', hd, hb1⟩
    have Hb1 := Lib.hid hb1
    clear hb1
    have Hi := Lib.hid (fun W => iAlike_any a b c' d W (by omega) (by omega) (by omega) (by omega))
    have Hs := Lib.hid (fun W => sAlike_any a b c' d W (by omega) (by omega) (by omega) (by omega))
    have Hr := Lib.hid (fun W => iAlike_any c' d a b W (by omega) (by omega) (by omega) (by omega))
    rw [alikeB_symm (formL (bothL c' d)) (formL (bothL a b))] at Hr
    cases hal : alikeB (formL (bothL a b)) (formL (bothL c' d)) with
    | false =>
      rw [hal] at Hi Hs Hr
      clear hal
      go_wp2_with fail
      refine (Hi.out _).mono ?_
      rintro e w2 ⟨rfl, hb2⟩
      have Hb2 := Lib.hid (Hb1.out.trans (hb2.mono Hb1.out.size))
      clear hb2
      go_wp2_with fail
      refine (Hs.out _).mono ?_
      rintro e w3 ⟨rfl, hb3⟩
      have Hb3 := Lib.hid (Hb2.out.trans (hb3.mono Hb2.out.size))
      clear hb3
      go_wp2_with fail
      refine (Hr.out _).mono ?_
      rintro e w4 ⟨rfl, hb4⟩
      have Hb4 := Lib.hid (Hb3.out.trans (hb4.mono Hb3.out.size))
      clear hb4
      go_wp2_with fail
      go_ret
      exact ⟨rfl, Hb4.out⟩
    | true =>
      have Hev := Lib.hid (fun W => iEvolveBoth_any a b c' d W (by omega) (by omega) (by omega) (by omega))
      rw [(alike_reads hal).1, (alike_reads hal).2] at Hev
      rw [hal] at Hi Hs Hr
      clear hal
      simp only [Bool.and_self] at Hev
      go_wp2_with fail
      refine (Hi.out _).mono ?_
      rintro e w2 ⟨rfl, hb2⟩
      have Hb2 := Lib.hid (Hb1.out.trans (hb2.mono Hb1.out.size))
      clear hb2
      go_wp2_with fail
      refine (Hs.out _).mono ?_
      rintro e w3 ⟨rfl, hb3⟩
      have Hb3 := Lib.hid (Hb2.out.trans (hb3.mono Hb2.out.size))
      clear hb3
      go_wp2_with fail
      refine (Hr.out _).mono ?_
      rintro e w4 ⟨rfl, hb4⟩
      have Hb4 := Lib.hid (Hb3.out.trans (hb4.mono Hb3.out.size))
      clear hb4
      go_wp2_with fail
      refine (Hev.out _).mono ?_
      rintro e w5 ⟨rfl, hb5⟩
      have Hb5 := Lib.hid (Hb4.out.trans (hb5.mono Hb4.out.size))
      clear hb5
      go_wp2_with fail
      go_ret
      exact ⟨rfl, Hb5.out⟩
  · unfold maxLen at hcm
    go_enter Tryz.func9, Tryz.ntmps9
    go_wp2_with fail
    go_ret
    exact ⟨rfl, Below.refl _ _⟩

end Go.Proofs.YtdhinlhafoiaiaaGreatDoor
