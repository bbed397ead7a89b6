/- Texts joined: LawG4. Conditions: as each theorem names them. -/
import Derived.Test.YtdhinlhafoiaiaaGreatDoorK22
import Derived.Test.YtdhinlhafoiaiaaGreatDoorK27
import Derived.Test.YtdhinlhafoiaiaaGreatDoorK31
import Derived.Test.YtdhinlhafoiaiaaGreatDoorK35
import Derived.Test.YtdhinlhafoiaiaaGreatDoorK36
/- The walks of the drawn laws on the order of types. -/
namespace Go.Proofs.YtdhinlhafoiaiaaGreatDoor
open Go.RowKit
set_option maxRecDepth 100000
set_option linter.unusedVariables false
set_option linter.unusedSimpArgs false
attribute [local go_sem] ba_get ba_toList ba_extract take_drop_all ByteArray.mk_append_mk

theorem kind_signs {l s : List UInt8} {S : List Ty} {q : Kd} (h : DKs l) (hb : bothL s l = some (S, q)) : q.base = [64] → q.signs.length ≤ 8 := by
  intro h64
  obtain ⟨_, _, _, hk, hq, _⟩ := bothL_good hb
  have e : l.takeWhile isSign = q.signs := by
    rw [← hq]
    unfold kdB coreB
    rw [if_pos h64]
    rw [List.takeWhile_append_of_pos (fun a ha => by simpa using List.all_eq_true.1 hk.1 a ha)]
    simp [isSign]
  rw [← e]
  rcases h with (⟨sg, b, rfl, h1, h2, h3⟩ | h) | h | rfl
  · rw [List.takeWhile_append_of_pos (fun a ha => by simpa using List.all_eq_true.1 h2 a ha), List.length_append]
    have := (show ∀ b ∈ baseTs, (b.takeWhile isSign).length ≤ 3 by decide) b h3
    omega
  · have := (show ∀ l ∈ weirdTs, l = [63, 63, 63, 63, 63, 63, 63, 63, 63, 63, 63, 63, 63, 63, 110] ∨ (l.takeWhile isSign).length ≤ 8 by decide) l h
    rcases this with rfl | h
    · have := hk.2.2
      rw [hq] at this
      simp at this
    · exact h
  · exact (show ∀ l ∈ someTs, (l.takeWhile isSign).length ≤ 8 by decide) l h
  · decide
theorem alike_rev {s d : List UInt8} {S : List Ty} {k : Kd} (h : bothL s d = some (S, k)) (hn : NoRun s) (hl : s.length ≤ 300) (hk : k.base = [64] → k.signs.length ≤ 8) : alikeB (formL (bothL s d)) (formL (bothL (revT s [] []) d)) = true := by
  obtain ⟨g1, _, g3, g4, _, g6⟩ := bothL_good h
  obtain ⟨_, _, _, _, _, _, _, hf⟩ := rev_law h
  rw [hf, h]
  have hs := form_some g1 g4 g6 (fun t ht h69 f hf hb => few_signs g3 hn t ht h69 f hf (((g1.1.1 t ht).2.2.1.1 f hf).2.2.2.2 h69).1.1 hb) hk (by rw [g3]; exact hl)
  unfold formL
  simp only [hs, if_true]
  simp [alikeB]
theorem revT_at {s : List UInt8} {i f : Nat} {t : List UInt8} (hi : i < s.length) (hf : f ≤ i) :
    revT (s.drop i) ((s.take i).drop f) t = if s[i] = 10 then revT (s.drop (i + 1)) ((s.take (i + 1)).drop (i + 1)) ((s.take (i + 1)).drop f ++ t) else revT (s.drop (i + 1)) ((s.take (i + 1)).drop f) t := by
  have e : (s.take (i + 1)).drop f = (s.take i).drop f ++ [s[i]] := by
    rw [List.take_succ_eq_append_getElem hi, List.drop_append_of_le_length (by simp; omega)]
  rw [List.drop_eq_getElem_cons hi, revT, e]
  split
  · rename_i h10
    have e2 : (s.take (i + 1)).drop (i + 1) = [] := List.drop_eq_nil_of_le (by simp; omega)
    rw [e2, h10]
    simp
  · rfl

set_option maxHeartbeats 2000000 in
theorem FnSchemaOrder_walk (w : World) (A : Option Addr) (n c : Nat) (l : List UInt8) (h : RowAt w A n (bcells l)) (hc : n ≤ c) (hcm : c ≤ maxLen) :
    Calls Tryz.prog 12 #[.slice A n c] w fun e w' => e = .returned (.bool true) ∧ Below w.heap.size w w' := by
  by_cases hn : n ≤ 1048576
  · have H0 := Lib.hid h
    clear h
    go_enter Tryz.func12, Tryz.ntmps12
    go_wp2_with fail
    refine (DrawSchemaUsed_any A n c l w H0.out hc hcm).mono ?_
    rintro e w1 ⟨s, k, rfl, hs, hk, hb1⟩
    have hsl := hs.1
    have hkl := hk.len
    have Hb1 := Lib.hid hb1
    have Hnr := Lib.hid hs.2
    have Hks := Lib.hid hk
    clear hb1 hs hk
    have Hi := Lib.hid (fun W => iUsed_any s k W (by omega) (by omega))
    have Hs := Lib.hid (fun W => sUse_any s k W (by omega) (by omega))
    rcases hb : bothL s k with _ | x
    · rw [hb] at Hi Hs
      clear hb Hnr Hks
      unfold IuPost at Hi Hs
      simp only [usedO, Option.isSome_none] at Hi Hs
      go_wp2_with fail
      refine (Hi.out _).mono ?_
      rintro e w2 ⟨v2, rfl, hr2, hb2⟩
      have Hr2 := Lib.hid hr2
      have Hb2 := Lib.hid (Hb1.out.trans (hb2.mono Hb1.out.size))
      clear hr2 hb2
      go_wp2_with fail
      refine (Hs.out _).mono ?_
      rintro e w3 ⟨v3, rfl, hr3, hb3⟩
      have Hr3 := Lib.hid hr3
      have Hb3 := Lib.hid (Hb2.out.trans (hb3.mono Hb2.out.size))
      have Hr2' := Lib.hid (Hr2.out.below hb3)
      clear hr3 hb3 Hr2
      go_wp2_with fail
      refine (nm_wf v2 v3 [] [] _ Hr2'.out Hr3.out).mono ?_
      rintro e w4 ⟨rfl, hb4⟩
      have Hb4 := Lib.hid (Hb3.out.trans (hb4.mono Hb3.out.size))
      have Hr4 := Lib.hid (Hr2'.out.below hb4)
      have Hr5 := Lib.hid (Hr3.out.below hb4)
      clear hb4
      go_wp2_with fail
      refine (nm_wf v2 v3 [] [] _ Hr4.out Hr5.out).mono ?_
      rintro e w5 ⟨rfl, hb5⟩
      have Hb5 := Lib.hid (Hb4.out.trans (hb5.mono Hb4.out.size))
      clear hb5
      go_wp2_with fail
      go_ret
      exact ⟨rfl, Hb5.out⟩
    · obtain ⟨Sx, q⟩ := x
      obtain ⟨r1, r2, r3, r4, r5, r6, r7, r8⟩ := rev_law hb
      have hal := alike_rev hb Hnr.out (by omega) (kind_signs Hks.out hb)
      have Hrev : Hid (revT (s.drop 0) ((s.take 0).drop 0) [] = revT s [] []) := by simp [Hid]
      generalize hT : revT s [] [] = T at *
      have Hal := Lib.hid (fun W => iAlike_any s k T k W (by omega) (by omega) (by omega) (by omega))
      have Hev := Lib.hid (fun W => iEvolveBoth_any s k T k W (by omega) (by omega) (by omega) (by omega))
      have Hok := Lib.hid (fun W => iOk_any T W (by omega))
      have Hu2 := Lib.hid (fun W => iUsed_any T k W (by omega) (by omega))
      rw [hal] at Hal
      rw [r6, r7] at Hev
      rw [r3] at Hok
      have eu : usedO (bothL T k) = usedO (bothL s k) := by rw [r4, hb]; exact r5
      have ei : (bothL T k).isSome = true := by rw [r4]; rfl
      have ej : (bothL s k).isSome = true := by rw [hb]; rfl
      unfold IuPost at Hi Hs Hu2
      rw [eu, ei] at Hu2
      rw [ej] at Hi Hs
      generalize usedO (bothL s k) = us at Hi Hs Hu2
      simp only [Bool.and_self, Option.isSome_some] at Hev Hok
      clear r1 r3 r4 r5 r6 r7 r8 hal eu ei ej hb Hnr Hks hT
      go_wp2_with fail
      refine (Hi.out _).mono ?_
      rintro e w2 ⟨v2, rfl, hr2, hb2⟩
      have Hr2 := Lib.hid hr2
      have Hb2 := Lib.hid (Hb1.out.trans (hb2.mono Hb1.out.size))
      clear hr2 hb2
      go_wp2_with fail
      refine (Hs.out _).mono ?_
      rintro e w3 ⟨v3, rfl, hr3, hb3⟩
      have Hr3 := Lib.hid hr3
      have Hb3 := Lib.hid (Hb2.out.trans (hb3.mono Hb2.out.size))
      have Hr2' := Lib.hid (Hr2.out.below hb3)
      clear hr3 hb3 Hr2
      have Hw := Lib.hid (nm_wf v2 v3 us us w3 Hr2'.out Hr3.out)
      rw [show decide (us = us) = true by simp] at Hw
      go_wp2_with fail
      refine Hw.out.mono ?_
      rintro e w4 ⟨rfl, hb4⟩
      have Hb4 := Lib.hid (Hb3.out.trans (hb4.mono Hb3.out.size))
      have Hr4 := Lib.hid (Hr2'.out.below hb4)
      clear hb4 Hr3 Hw Hr2'
      go_wp2_with fail
      go_loop [9, 10, 11] (fun t f i => ∃ (u : List UInt8) (a b : Nat), t = .string ⟨u.toArray⟩ ∧ f = .int .i64 (a : Int) ∧ i = .int .i64 (b : Int) ∧ a ≤ b ∧ b ≤ s.length ∧ u.length ≤ a ∧ Hid (revT (s.drop b) ((s.take b).drop a) u = T)) (fun _ _ i => s.length - (intOf i).toNat)
      case atStart => exact ⟨[], 0, 0, rfl, rfl, rfl, Nat.le_refl _, Nat.zero_le _, Nat.zero_le _, Hrev.out⟩
      case round =>
        obtain ⟨u, a, b, rfl, rfl, rfl, hab, hbs, hul, HT⟩ := hrel
        have b0 : (0 : Int) ≤ (b : Int) := by omega
        by_cases hlt : b < s.length
        · have b1 : (b : Int) < (s.length : Int) := by omega
          have Hst := Lib.hid (revT_at (t := u) hlt hab)
          have Hat := Lib.hid HT.out
          by_cases h10 : s[b] = 10
          · have t10 : (((s[b]'hlt).toNat : Int) == 10) = true := by have := byte_eq (d := 10) h10; simpa using this
            have H10 := Lib.hid h10
            clear h10
            have c1 : (a : Int) ≤ (b : Int) + 1 := by omega
            have c2 : (b : Int) + 1 ≤ (s.length : Int) := by omega
            have c3 : (0 : Int) ≤ (a : Int) := by omega
            have wb : IntKind.i64.wrap ((b : Int) + 1) = ((b + 1 : Nat) : Int) := by rw [IntWalk.i64_in _ (by omega)]; omega
            go_wp2_with fail
            go_round
            case rel => exact ⟨_, b + 1, b + 1, rfl, by go_num, by go_num, Nat.le_refl _, by omega, (by simp; omega), (by
              have h := Hst.out
              rw [if_pos H10.out, HT.out, show (s.take (b + 1)).drop a = (s.drop a).take (b + 1 - a) from List.drop_take] at h
              exact h.symm)⟩
            case measure => simp [intOf]; omega
          · have t10 : (((s[b]'hlt).toNat : Int) == 10) = false := by have := byte_ne (d := 10) h10; simpa using this
            have H10 := Lib.hid h10
            clear h10
            go_wp2_with fail
            go_round
            case rel => exact ⟨u, a, b + 1, rfl, rfl, by go_num, by omega, by omega, hul, (by
              have h := Hst.out
              rw [if_neg H10.out, HT.out] at h
              exact h.symm)⟩
            case measure => simp [intOf]; omega
        · obtain rfl : b = s.length := by omega
          have hu : u = T := by
            have h := HT.out
            rw [List.drop_length] at h
            exact h
          subst hu
          clear hab hul b0 hlt
          go_wp2_with fail
          refine (Hu2.out _).mono ?_
          rintro e w5 ⟨v5, rfl, hr5, hb5⟩
          have Hr5 := Lib.hid hr5
          have Hr4' := Lib.hid (Hr4.out.below hb5)
          have Hb5 := Lib.hid (Hb4.out.trans (hb5.mono Hb4.out.size))
          clear hr5 hb5
          go_wp2_with fail
          refine (Hok.out _).mono ?_
          rintro e w6 ⟨rfl, hb6⟩
          have Hr6 := Lib.hid (Hr5.out.below hb6)
          have Hs6 := Lib.hid (Hr4'.out.below hb6)
          have Hb6 := Lib.hid (Hb5.out.trans (hb6.mono Hb5.out.size))
          clear hb6
          go_wp2_with fail
          refine (Hev.out _).mono ?_
          rintro e w7 ⟨rfl, hb7⟩
          have Hw := Lib.hid (nm_wf v2 v5 us us w7 (Hs6.out.below hb7) (Hr6.out.below hb7))
          rw [show decide (us = us) = true by simp] at Hw
          have Hb7 := Lib.hid (Hb6.out.trans (hb7.mono Hb6.out.size))
          clear hb7
          go_wp2_with fail
          refine Hw.out.mono ?_
          rintro e w8 ⟨rfl, hb8⟩
          have Hb8 := Lib.hid (Hb7.out.trans (hb8.mono Hb7.out.size))
          clear hb8
          go_wp2_with fail
          refine (Hal.out _).mono ?_
          rintro e w9 ⟨rfl, hb9⟩
          have Hb9 := Lib.hid (Hb8.out.trans (hb9.mono Hb8.out.size))
          clear hb9
          go_wp2_with fail
          go_ret
          exact ⟨rfl, Hb9.out⟩
  · unfold maxLen at hcm
    go_enter Tryz.func12, Tryz.ntmps12
    go_wp2_with fail
    go_ret
    exact ⟨rfl, Below.refl _ _⟩

end Go.Proofs.YtdhinlhafoiaiaaGreatDoor
