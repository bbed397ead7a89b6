/- Texts joined: IField, IType, Reg, ArgsR, SStand. Conditions: as each theorem names them. -/
import Derived.BigRegion
import Derived.BigQuiet
import Derived.Deep.QuietTactic
import Derived.OwnWalk
import Derived.Deep.Slices
import Derived.Deep.Fields
import Derived.Test.YtcjfgbcdlcdeaaaGreatDoorK01
import Derived.Test.YtcjfgbcdlcdeaaaGreatDoorK03
import Derived.Test.YtcjfgbcdlcdeaaaGreatDoorK09
import Derived.Test.YtcjfgbcdlcdeaaaGreatDoorK13
/- readField of the program. -/
namespace Go.Proofs.YtcjfgbcdlcdeaaaGreatDoor
open Go.RowKit
set_option maxRecDepth 100000
set_option linter.unusedVariables false
set_option linter.unusedSimpArgs false
attribute [local go_sem] ba_get ba_toList ba_extract take_drop_all ByteArray.mk_append_mk

theorem cutL_len (c : UInt8) (s : List UInt8) : (cutL c s).1.length ≤ s.length ∧ (cutL c s).2.1.length ≤ s.length := by
  rcases cutL_cases c s with ⟨_, h⟩ | ⟨p, t, rfl, _, h⟩
  · rw [h]; simp
  · rw [h]; simp; omega
/-- Field by parts. -/
def fieldP (st : UInt8) (ps : List (List UInt8)) (vl : List UInt8) (td : Bool) : Option Fd :=
  if st = 69 then
    match fdL2 ps with
    | some (n, b) => if td = true then none else some ⟨n, b, Kd.nil, vl⟩
    | none => none
  else
    match fdL3 ps with
    | some (n, b, c) => (match kindL c with
      | some k => if td = true ∧ ¬ (st = 82 ∧ k.signs = [] ∧ standOk k.base vl = true) then none else some ⟨n, b, k, vl⟩
      | none => none)
    | none => none
theorem fieldP_eq (st : UInt8) (s : List UInt8) : fieldI st s = fieldP st (splitL 58 (cutL 61 s).1) (cutL 61 s).2.1 (cutL 61 s).2.2 := rfl
theorem fieldP_len {st : UInt8} {ps : List (List UInt8)} {vl : List UInt8} {td : Bool} (h : ps.length ≠ if st = 69 then 2 else 3) : fieldP st ps vl td = none := by
  unfold fieldP
  by_cases e : st = 69
  · rw [if_pos e] at h ⊢
    match ps, h with
    | [], _ => rfl
    | [_], _ => rfl
    | [_, _], h => exact absurd rfl h
    | _ :: _ :: _ :: _, _ => rfl
  · rw [if_neg e] at h ⊢
    match ps, h with
    | [], _ => rfl
    | [_], _ => rfl
    | [_, _], _ => rfl
    | [_, _, _], h => exact absurd rfl h
    | _ :: _ :: _ :: _ :: _, _ => rfl
/-- The first two parts. -/
def headOk (a b : List UInt8) (n : Nat) : Prop := decL a = some n ∧ 1 ≤ n ∧ n ≤ 200 ∧ nameOk b = true
theorem fieldP_head {st : UInt8} {a b : List UInt8} {r : List (List UInt8)} {vl : List UInt8} {td : Bool} (h : ∀ n, ¬ headOk a b n) : fieldP st (a :: b :: r) vl td = none := by
  have h2 : ∀ c, fdL2 (a :: b :: c) = none := by
    intro c
    match c with
    | [] =>
      cases hd : decL a with
      | none => simp only [fdL2, hd]
      | some n => simp only [fdL2, hd]; exact if_neg fun (e : 1 ≤ n ∧ n ≤ 200 ∧ nameOk b = true) => h n ⟨hd, e.1, e.2.1, e.2.2⟩
    | _ :: _ => rfl
  have h3 : ∀ c, fdL3 (a :: b :: c) = none := by
    intro c
    match c with
    | [] => rfl
    | [x] =>
      cases hd : decL a with
      | none => simp only [fdL3, hd]
      | some n => simp only [fdL3, hd]; exact if_neg fun (e : 1 ≤ n ∧ n ≤ 200 ∧ nameOk b = true) => h n ⟨hd, e.1, e.2.1, e.2.2⟩
    | _ :: _ :: _ => rfl
  unfold fieldP
  rw [h2, h3]
  split <;> rfl
theorem fieldP_E {a b : List UInt8} {vl : List UInt8} {td : Bool} {n : Nat} (h : headOk a b n) : fieldP 69 [a, b] vl td = if td = true then none else some ⟨n, b, Kd.nil, vl⟩ := by
  obtain ⟨h1, h2, h3, h4⟩ := h
  unfold fieldP fdL2
  simp [h1, h2, h3, h4]
theorem fieldP_R {st : UInt8} {a b c : List UInt8} {vl : List UInt8} {td : Bool} {n : Nat} (hst : st ≠ 69) (h : headOk a b n) : fieldP st [a, b, c] vl td = (match kindL c with
      | some k => if td = true ∧ ¬ (st = 82 ∧ k.signs = [] ∧ standOk k.base vl = true) then none else some ⟨n, b, k, vl⟩
      | none => none) := by
  obtain ⟨h1, h2, h3, h4⟩ := h
  unfold fieldP fdL3
  simp [h1, h2, h3, h4, hst]
theorem base_baseL {k : Kd} (h : baseOk k) : baseL k.base := by
  rcases h with ⟨h, _⟩ | ⟨h | h | h, _⟩
  · exact .inr (.inr (.inr h))
  · exact .inl h
  · exact .inr (.inl h)
  · exact .inr (.inr (.inl h))
/-- A texts' row of two or three. -/
theorem parts2 {ps : List (List UInt8)} (h : ps.length = 2) : ∃ a b, ps = [a, b] := by
  match ps, h with
  | [a, b], _ => exact ⟨a, b, rfl⟩
theorem parts3 {ps : List (List UInt8)} (h : ps.length = 3) : ∃ a b c, ps = [a, b, c] := by
  match ps, h with
  | [a, b, c], _ => exact ⟨a, b, c, rfl⟩
theorem there_drewN {w : World} {b o n : Nat} (h : w.there b o n) (k : Nat) : (w.drewN k).there b o n := by
  induction k generalizing w with
  | zero => exact h
  | succ k ih => exact ih (by simpa using h)
set_option maxHeartbeats 1000000 in
theorem iField_E (st : UInt8) (hst : st = 69) (s : List UInt8) (w : World) (hs : s.length ≤ 4000000) :
    Calls Tryz.prog 147 #[.string ⟨s.toArray⟩, .int .u8 (st.toNat : Int)] w (IfPost (fieldI st s) w) := by
  have HF := Lib.hid (fieldP_eq st s)
  have Hcut := Lib.hid (fun W => Cut_any s 61 W (by omega))
  have hcl := (cutL_len 61 s).1
  have hvl := (cutL_len 61 s).2
  generalize cutL 61 s = r at HF Hcut hcl hvl
  obtain ⟨hd, vl, td⟩ := r
  simp only at hcl hvl HF
  have Hsp := Lib.hid (fun W => Split_any hd 58 W (by omega))
  have hne := splitL_ne 58 hd
  have Hpl := Lib.hid (splitL_plen 58 hd)
  generalize splitL 58 hd = ps at HF Hsp hne Hpl
  have e69 : ((st.toNat : Int) == 69) = true := byte_eq hst
  have n69 : ((st.toNat : Int) != 69) = false := bne_byte_no hst
  have Hst0 := Lib.hid hst
  clear hst
  go_enter Tryz.func147, Tryz.ntmps147
  go_wp2_with fail
  refine (Hcut.out _).mono ?_
  rintro e w1 ⟨rfl, k1, rfl⟩
  unfold cutV
  go_wp2_with fail
  refine (Hsp.out _).mono ?_
  rintro e w2 ⟨v, rfl, ho, hb⟩
  obtain ⟨g, c, rfl, hg1, hg2, hcells⟩ := own_texts ho hne
  have hzz : w.heap.size < w2.heap.size := by have := hb.size; simp at this; omega
  have HT := Lib.hid (show w2.there w.heap.size 0 6 from there_below (there_drewN (there_new w [.int .i64 0, .string ⟨#[]⟩, .string ⟨#[]⟩, .string ⟨#[]⟩, .string ⟨#[]⟩, .string ⟨#[]⟩] 115) k1) (by simp) hb)
  have Hb := Lib.hid (show Below w.heap.size w w2 from (below_drewN ((Below.refl w.heap.size w).alloc (Nat.le_refl _) _) k1).trans (hb.mono (by simp)))
  have Hcells := Lib.hid hcells
  clear hb ho hcells hne
  by_cases hlen : ps.length = 2
  · obtain ⟨a, b, rfl⟩ := parts2 hlen
    have c0 := Hcells.out 0 (by simp)
    have c1 := Hcells.out 1 (by simp)
    simp at c0 c1
    have la : a.length ≤ 4000000 := by have := Hpl.out a (by simp); omega
    have lb : b.length ≤ 4000000 := by have := Hpl.out b (by simp); omega
    clear Hpl Hcells hlen
    have hpn := fun W => (show Calls Tryz.prog 177 #[.string ⟨a.toArray⟩, .int .i64 200] W fun e w' => e = .returned (pnV a 200) ∧ W = w' from plainNumber_any a 200 W (by omega) (by decide))
    have Hhead := Lib.hid (show ∀ n, headOk a b n ↔ decL a = some n ∧ 1 ≤ n ∧ n ≤ 200 ∧ nameOk b = true from fun n => Iff.rfl)
    have Hno := Lib.hid (fun (h : ∀ n, ¬ headOk a b n) => HF.out.trans (fieldP_head h))
    generalize hda : decL a = od at *
    have Hda := Lib.hid hda
    clear hda
    cases od with
    | none =>
      have Hpn := Lib.hid (fun W => (pnV_no (m := 200) Hda.out) ▸ hpn W)
      clear hpn
      go_wp2_with fail
      refine (Hpn.out _).mono ?_
      rintro e w3 ⟨rfl, rfl⟩
      go_wp2_with ((with_reducible refine wpList_store_hid (op := ⟨none, .store 115 _ _, _, _, _, none⟩) rfl 115 _ _ rfl w.heap.size 0 [.int .i64 0, .string ⟨#[]⟩, .string ⟨#[]⟩, .string ⟨#[]⟩, .string ⟨#[]⟩, .string ⟨#[]⟩] ?_ ?_ ?_ ?_ ?_ ?_); rfl; rfl; (first | exact World.there_alloc HT.out _ | exact HT.out); kernel_rfl; (simp [Value.oneCell']); intro w9 HS9)
      have HZ := Lib.hid (show w9.rangeAt w.heap.size 0 [.int .i64 0, .string ⟨#[]⟩, .string ⟨#[]⟩, .string ⟨#[]⟩, .string ⟨#[]⟩, .string ⟨#[]⟩] from by rw [HS9.out]; exact World.rangeAt_setCells_same _ _ _ _ (by first | exact World.there_alloc HT.out _ | exact HT.out))
      refine bodyPost_ret (v := .tuple #[.agg ([.int .i64 0, .string ⟨#[]⟩, .string ⟨#[]⟩, .string ⟨#[]⟩, .string ⟨#[]⟩, .string ⟨#[]⟩] : List Value).toArray, .bool false]) ?_ rfl ?_
      · exact results_cell_tmp Tryz.results147 _ _ w.heap.size [.int .i64 0, .string ⟨#[]⟩, .string ⟨#[]⟩, .string ⟨#[]⟩, .string ⟨#[]⟩, .string ⟨#[]⟩] _ _ rfl rfl HZ.out Tryz.underlying115 rfl (by kernel_rfl)
      · exact IfPost.no (Hno.out (fun n h => by have := ((Hhead.out n).1 h).1; cases this)) rfl (by rw [HS9.out]; refine below_setCells _ (Nat.le_refl _) _ _ _ ?_; first | with_reducible exact Hb.out | exact Hb.out.alloc Hb.out.size _)
    | some n =>
      have Hpn := Lib.hid (fun W => (pnV_yes (m := 200) Hda.out) ▸ hpn W)
      clear hpn
      have hn9 : n ≤ 999999 := (decL_some.1 Hda.out).1
      rcases Nat.lt_or_ge 200 n with h200 | h200
      · have Hdec := Lib.hid (show decide (n ≤ 200) = false by simp; omega)
        rw [Hdec.out] at Hpn
        go_wp2_with fail
        refine (Hpn.out _).mono ?_
        rintro e w3 ⟨rfl, rfl⟩
        go_wp2_with ((with_reducible refine wpList_store_hid (op := ⟨none, .store 115 _ _, _, _, _, none⟩) rfl 115 _ _ rfl w.heap.size 0 [.int .i64 0, .string ⟨#[]⟩, .string ⟨#[]⟩, .string ⟨#[]⟩, .string ⟨#[]⟩, .string ⟨#[]⟩] ?_ ?_ ?_ ?_ ?_ ?_); rfl; rfl; (first | exact World.there_alloc HT.out _ | exact HT.out); kernel_rfl; (simp [Value.oneCell']); intro w9 HS9)
        have HZ := Lib.hid (show w9.rangeAt w.heap.size 0 [.int .i64 0, .string ⟨#[]⟩, .string ⟨#[]⟩, .string ⟨#[]⟩, .string ⟨#[]⟩, .string ⟨#[]⟩] from by rw [HS9.out]; exact World.rangeAt_setCells_same _ _ _ _ (by first | exact World.there_alloc HT.out _ | exact HT.out))
        refine bodyPost_ret (v := .tuple #[.agg ([.int .i64 0, .string ⟨#[]⟩, .string ⟨#[]⟩, .string ⟨#[]⟩, .string ⟨#[]⟩, .string ⟨#[]⟩] : List Value).toArray, .bool false]) ?_ rfl ?_
        · exact results_cell_tmp Tryz.results147 _ _ w.heap.size [.int .i64 0, .string ⟨#[]⟩, .string ⟨#[]⟩, .string ⟨#[]⟩, .string ⟨#[]⟩, .string ⟨#[]⟩] _ _ rfl rfl HZ.out Tryz.underlying115 rfl (by kernel_rfl)
        · exact IfPost.no (Hno.out (fun m h => by have h' := (Hhead.out m).1 h; have := h'.1; cases this; omega)) rfl (by rw [HS9.out]; refine below_setCells _ (Nat.le_refl _) _ _ _ ?_; first | with_reducible exact Hb.out | exact Hb.out.alloc Hb.out.size _)
      · have Hdec := Lib.hid (show decide (n ≤ 200) = true by simp; omega)
        rw [Hdec.out] at Hpn
        rcases Nat.eq_zero_or_pos n with h0 | h0
        · subst h0
          go_wp2_with fail
          refine (Hpn.out _).mono ?_
          rintro e w3 ⟨rfl, rfl⟩
          go_wp2_with ((with_reducible refine wpList_store_hid (op := ⟨none, .store 115 _ _, _, _, _, none⟩) rfl 115 _ _ rfl w.heap.size 0 [.int .i64 0, .string ⟨#[]⟩, .string ⟨#[]⟩, .string ⟨#[]⟩, .string ⟨#[]⟩, .string ⟨#[]⟩] ?_ ?_ ?_ ?_ ?_ ?_); rfl; rfl; (first | exact World.there_alloc HT.out _ | exact HT.out); kernel_rfl; (simp [Value.oneCell']); intro w9 HS9)
          have HZ := Lib.hid (show w9.rangeAt w.heap.size 0 [.int .i64 0, .string ⟨#[]⟩, .string ⟨#[]⟩, .string ⟨#[]⟩, .string ⟨#[]⟩, .string ⟨#[]⟩] from by rw [HS9.out]; exact World.rangeAt_setCells_same _ _ _ _ (by first | exact World.there_alloc HT.out _ | exact HT.out))
          refine bodyPost_ret (v := .tuple #[.agg ([.int .i64 0, .string ⟨#[]⟩, .string ⟨#[]⟩, .string ⟨#[]⟩, .string ⟨#[]⟩, .string ⟨#[]⟩] : List Value).toArray, .bool false]) ?_ rfl ?_
          · exact results_cell_tmp Tryz.results147 _ _ w.heap.size [.int .i64 0, .string ⟨#[]⟩, .string ⟨#[]⟩, .string ⟨#[]⟩, .string ⟨#[]⟩, .string ⟨#[]⟩] _ _ rfl rfl HZ.out Tryz.underlying115 rfl (by kernel_rfl)
          · exact IfPost.no (Hno.out (fun m h => by have h' := (Hhead.out m).1 h; have := h'.1; cases this; omega)) rfl (by rw [HS9.out]; refine below_setCells _ (Nat.le_refl _) _ _ _ ?_; first | with_reducible exact Hb.out | exact Hb.out.alloc Hb.out.size _)
        · have hlt1 : decide ((n : Int) < 1) = false := by rw [decide_eq_false_iff_not]; omega
          have Hname := Lib.hid (fun W => isName_any b W (by omega))
          generalize hnb : nameOk b = nb at *
          have Hnb := Lib.hid hnb
          clear hnb
          go_wp2_with fail
          refine (Hpn.out _).mono ?_
          rintro e w3 ⟨rfl, rfl⟩
          go_wp2_with fail
          refine (Hname.out _).mono ?_
          rintro e w4 ⟨rfl, hb4⟩
          have hz4 : w2.heap.size < w4.heap.size := by have := hb4.size; simp at this; omega
          have HT4 := Lib.hid (show w4.there w.heap.size 0 6 from there_below (World.there_alloc HT.out _) (by simp; omega) hb4)
          have HR4 := Lib.hid (show w4.rangeAt w2.heap.size 0 [.int .i64 (n : Int), .string ⟨b.toArray⟩, .string ⟨#[]⟩, .string ⟨#[]⟩, .string ⟨#[]⟩, .string ⟨vl.toArray⟩] from rangeAt_below (rangeAt_new w2 _ _) (by simp) hb4)
          have HK4 := Lib.hid (show w4.there w2.heap.size 0 6 from there_below (there_new w2 [.int .i64 (n : Int), .string ⟨b.toArray⟩, .string ⟨#[]⟩, .string ⟨#[]⟩, .string ⟨#[]⟩, .string ⟨vl.toArray⟩] _) (by simp) hb4)
          have Hb4 := Lib.hid (show Below w.heap.size w w4 from (Hb.out.alloc Hb.out.size _).trans (hb4.mono (by simp; omega)))
          clear hb4
          cases nb with
          | false =>
            go_wp2_with ((with_reducible refine wpList_store_hid (op := ⟨none, .store 115 _ _, _, _, _, none⟩) rfl 115 _ _ rfl w.heap.size 0 [.int .i64 0, .string ⟨#[]⟩, .string ⟨#[]⟩, .string ⟨#[]⟩, .string ⟨#[]⟩, .string ⟨#[]⟩] ?_ ?_ ?_ ?_ ?_ ?_); rfl; rfl; (first | exact World.there_alloc HT4.out _ | exact HT4.out); kernel_rfl; (simp [Value.oneCell']); intro w9 HS9)
            have HZ := Lib.hid (show w9.rangeAt w.heap.size 0 [.int .i64 0, .string ⟨#[]⟩, .string ⟨#[]⟩, .string ⟨#[]⟩, .string ⟨#[]⟩, .string ⟨#[]⟩] from by rw [HS9.out]; exact World.rangeAt_setCells_same _ _ _ _ (by first | exact World.there_alloc HT4.out _ | exact HT4.out))
            refine bodyPost_ret (v := .tuple #[.agg ([.int .i64 0, .string ⟨#[]⟩, .string ⟨#[]⟩, .string ⟨#[]⟩, .string ⟨#[]⟩, .string ⟨#[]⟩] : List Value).toArray, .bool false]) ?_ rfl ?_
            · exact results_cell_tmp Tryz.results147 _ _ w.heap.size [.int .i64 0, .string ⟨#[]⟩, .string ⟨#[]⟩, .string ⟨#[]⟩, .string ⟨#[]⟩, .string ⟨#[]⟩] _ _ rfl rfl HZ.out Tryz.underlying115 rfl (by kernel_rfl)
            · exact IfPost.no (Hno.out (fun m h => by have := ((Hhead.out m).1 h).2.2.2; cases this)) rfl (by rw [HS9.out]; refine below_setCells _ (Nat.le_refl _) _ _ _ ?_; first | with_reducible exact Hb4.out | exact Hb4.out.alloc Hb4.out.size _)
          | true =>
            have Hok := Lib.hid (show headOk a b n from (Hhead.out n).2 ⟨rfl, h0, h200, rfl⟩)
            have HF2 := Lib.hid (HF.out.trans (show fieldP st [a, b] vl td = if td = true then none else some ⟨n, b, Kd.nil, vl⟩ from by rw [Hst0.out]; exact fieldP_E Hok.out))
            clear Hno Hhead HF
            have n82 : ((st.toNat : Int) != 82) = true := bne_byte (c := st) (d := 82) (by rw [Hst0.out]; decide)
            cases td with
            | true =>
              go_wp2_with ((with_reducible refine wpList_store_hid (op := ⟨none, .store 115 _ _, _, _, _, none⟩) rfl 115 _ _ rfl w.heap.size 0 [.int .i64 0, .string ⟨#[]⟩, .string ⟨#[]⟩, .string ⟨#[]⟩, .string ⟨#[]⟩, .string ⟨#[]⟩] ?_ ?_ ?_ ?_ ?_ ?_); rfl; rfl; (first | exact World.there_alloc HT4.out _ | exact HT4.out); kernel_rfl; (simp [Value.oneCell']); intro w9 HS9)
              have HZ := Lib.hid (show w9.rangeAt w.heap.size 0 [.int .i64 0, .string ⟨#[]⟩, .string ⟨#[]⟩, .string ⟨#[]⟩, .string ⟨#[]⟩, .string ⟨#[]⟩] from by rw [HS9.out]; exact World.rangeAt_setCells_same _ _ _ _ (by first | exact World.there_alloc HT4.out _ | exact HT4.out))
              refine bodyPost_ret (v := .tuple #[.agg ([.int .i64 0, .string ⟨#[]⟩, .string ⟨#[]⟩, .string ⟨#[]⟩, .string ⟨#[]⟩, .string ⟨#[]⟩] : List Value).toArray, .bool false]) ?_ rfl ?_
              · exact results_cell_tmp Tryz.results147 _ _ w.heap.size [.int .i64 0, .string ⟨#[]⟩, .string ⟨#[]⟩, .string ⟨#[]⟩, .string ⟨#[]⟩, .string ⟨#[]⟩] _ _ rfl rfl HZ.out Tryz.underlying115 rfl (by kernel_rfl)
              · exact IfPost.no (HF2.out.trans (by simp)) rfl (by rw [HS9.out]; refine below_setCells _ (Nat.le_refl _) _ _ _ ?_; first | with_reducible exact Hb4.out | exact Hb4.out.alloc Hb4.out.size _)
            | false =>
              go_wp2_with (first | ((with_reducible refine wpList_store_hid (op := ⟨none, .store 115 _ _, _, _, _, none⟩) rfl 115 _ _ rfl w.heap.size 0 [.int .i64 (n : Int), .string ⟨b.toArray⟩, .string ⟨#[]⟩, .string ⟨#[]⟩, .string ⟨#[]⟩, .string ⟨vl.toArray⟩] ?_ ?_ ?_ ?_ ?_ ?_); rfl; rfl; (first | exact World.there_alloc HT4.out _ | exact HT4.out); kernel_rfl; (simp [Value.oneCell']); intro w9 HS9) | ((with_reducible refine wpList_load_mid (op := ⟨_, .load 115 _, _, _, _, none⟩) rfl 115 _ rfl w2.heap.size 0 ?_ [.int .i64 (n : Int), .string ⟨b.toArray⟩, .string ⟨#[]⟩, .string ⟨#[]⟩, .string ⟨#[]⟩, .string ⟨vl.toArray⟩] _ HR4.out Tryz.underlying115 ?_ ?_ ?_); rfl; rfl; kernel_rfl))
              have HZ := Lib.hid (show w9.rangeAt w.heap.size 0 [.int .i64 (n : Int), .string ⟨b.toArray⟩, .string ⟨#[]⟩, .string ⟨#[]⟩, .string ⟨#[]⟩, .string ⟨vl.toArray⟩] from by rw [HS9.out]; exact World.rangeAt_setCells_same _ _ _ _ (by first | exact World.there_alloc HT4.out _ | exact HT4.out))
              refine bodyPost_ret (v := .tuple #[.agg ([.int .i64 (n : Int), .string ⟨b.toArray⟩, .string ⟨#[]⟩, .string ⟨#[]⟩, .string ⟨#[]⟩, .string ⟨vl.toArray⟩] : List Value).toArray, .bool true]) ?_ rfl ?_
              · exact results_cell_tmp Tryz.results147 _ _ w.heap.size [.int .i64 (n : Int), .string ⟨b.toArray⟩, .string ⟨#[]⟩, .string ⟨#[]⟩, .string ⟨#[]⟩, .string ⟨vl.toArray⟩] _ _ rfl rfl HZ.out Tryz.underlying115 rfl (by kernel_rfl)
              · exact IfPost.yes (HF2.out.trans (if_neg (fun h => by cases h))) rfl (by rw [HS9.out]; refine below_setCells _ (Nat.le_refl _) _ _ _ ?_; first | with_reducible exact Hb4.out | exact Hb4.out.alloc Hb4.out.size _)
  · have Hno := Lib.hid (HF.out.trans (fieldP_len (vl := vl) (td := td) (st := st) (ps := ps) (by rw [if_pos Hst0.out]; exact hlen)))
    have hl1 : ¬ (ps.length : Int) = 2 := by omega
    have hl2 : ((ps.length : Int) != 2) = true := by rw [bne_iff_ne]; exact hl1
    clear HF Hpl Hcells
    go_wp2_with ((with_reducible refine wpList_store_hid (op := ⟨none, .store 115 _ _, _, _, _, none⟩) rfl 115 _ _ rfl w.heap.size 0 [.int .i64 0, .string ⟨#[]⟩, .string ⟨#[]⟩, .string ⟨#[]⟩, .string ⟨#[]⟩, .string ⟨#[]⟩] ?_ ?_ ?_ ?_ ?_ ?_); rfl; rfl; (first | exact World.there_alloc HT.out _ | exact HT.out); kernel_rfl; (simp [Value.oneCell']); intro w9 HS9)
    have HZ := Lib.hid (show w9.rangeAt w.heap.size 0 [.int .i64 0, .string ⟨#[]⟩, .string ⟨#[]⟩, .string ⟨#[]⟩, .string ⟨#[]⟩, .string ⟨#[]⟩] from by rw [HS9.out]; exact World.rangeAt_setCells_same _ _ _ _ (by first | exact World.there_alloc HT.out _ | exact HT.out))
    refine bodyPost_ret (v := .tuple #[.agg ([.int .i64 0, .string ⟨#[]⟩, .string ⟨#[]⟩, .string ⟨#[]⟩, .string ⟨#[]⟩, .string ⟨#[]⟩] : List Value).toArray, .bool false]) ?_ rfl ?_
    · exact results_cell_tmp Tryz.results147 _ _ w.heap.size [.int .i64 0, .string ⟨#[]⟩, .string ⟨#[]⟩, .string ⟨#[]⟩, .string ⟨#[]⟩, .string ⟨#[]⟩] _ _ rfl rfl HZ.out Tryz.underlying115 rfl (by kernel_rfl)
    · exact IfPost.no Hno.out rfl (by rw [HS9.out]; refine below_setCells _ (Nat.le_refl _) _ _ _ ?_; first | with_reducible exact Hb.out | exact Hb.out.alloc Hb.out.size _)
set_option maxHeartbeats 1000000 in
theorem iField_R (st : UInt8) (hst : st ≠ 69) (s : List UInt8) (w : World) (hs : s.length ≤ 4000000) :
    Calls Tryz.prog 147 #[.string ⟨s.toArray⟩, .int .u8 (st.toNat : Int)] w (IfPost (fieldI st s) w) := by
  have HF := Lib.hid (fieldP_eq st s)
  have Hcut := Lib.hid (fun W => Cut_any s 61 W (by omega))
  have hcl := (cutL_len 61 s).1
  have hvl := (cutL_len 61 s).2
  generalize cutL 61 s = r at HF Hcut hcl hvl
  obtain ⟨hd, vl, td⟩ := r
  simp only at hcl hvl HF
  have Hsp := Lib.hid (fun W => Split_any hd 58 W (by omega))
  have hne := splitL_ne 58 hd
  have Hpl := Lib.hid (splitL_plen 58 hd)
  generalize splitL 58 hd = ps at HF Hsp hne Hpl
  have e69 : ((st.toNat : Int) == 69) = false := byte_ne hst
  have n69 : ((st.toNat : Int) != 69) = true := bne_byte hst
  have Hst0 := Lib.hid hst
  clear hst
  go_enter Tryz.func147, Tryz.ntmps147
  go_wp2_with fail
  refine (Hcut.out _).mono ?_
  rintro e w1 ⟨rfl, k1, rfl⟩
  unfold cutV
  go_wp2_with fail
  refine (Hsp.out _).mono ?_
  rintro e w2 ⟨v, rfl, ho, hb⟩
  obtain ⟨g, c, rfl, hg1, hg2, hcells⟩ := own_texts ho hne
  have hzz : w.heap.size < w2.heap.size := by have := hb.size; simp at this; omega
  have HT := Lib.hid (show w2.there w.heap.size 0 6 from there_below (there_drewN (there_new w [.int .i64 0, .string ⟨#[]⟩, .string ⟨#[]⟩, .string ⟨#[]⟩, .string ⟨#[]⟩, .string ⟨#[]⟩] 115) k1) (by simp) hb)
  have Hb := Lib.hid (show Below w.heap.size w w2 from (below_drewN ((Below.refl w.heap.size w).alloc (Nat.le_refl _) _) k1).trans (hb.mono (by simp)))
  have Hcells := Lib.hid hcells
  clear hb ho hcells hne
  by_cases hlen : ps.length = 3
  · obtain ⟨a, b, d, rfl⟩ := parts3 hlen
    have c0 := Hcells.out 0 (by simp)
    have c1 := Hcells.out 1 (by simp)
    have c2 := Hcells.out 2 (by simp)
    simp at c0 c1 c2
    have la : a.length ≤ 4000000 := by have := Hpl.out a (by simp); omega
    have lb : b.length ≤ 4000000 := by have := Hpl.out b (by simp); omega
    have ld : d.length ≤ 4000000 := by have := Hpl.out d (by simp); omega
    clear Hpl Hcells hlen
    have hpn := fun W => (show Calls Tryz.prog 177 #[.string ⟨a.toArray⟩, .int .i64 200] W fun e w' => e = .returned (pnV a 200) ∧ W = w' from plainNumber_any a 200 W (by omega) (by decide))
    have Hhead := Lib.hid (show ∀ n, headOk a b n ↔ decL a = some n ∧ 1 ≤ n ∧ n ≤ 200 ∧ nameOk b = true from fun n => Iff.rfl)
    have Hno := Lib.hid (fun (h : ∀ n, ¬ headOk a b n) => HF.out.trans (fieldP_head h))
    generalize hda : decL a = od at *
    have Hda := Lib.hid hda
    clear hda
    cases od with
    | none =>
      have Hpn := Lib.hid (fun W => (pnV_no (m := 200) Hda.out) ▸ hpn W)
      clear hpn
      go_wp2_with fail
      refine (Hpn.out _).mono ?_
      rintro e w3 ⟨rfl, rfl⟩
      go_wp2_with ((with_reducible refine wpList_store_hid (op := ⟨none, .store 115 _ _, _, _, _, none⟩) rfl 115 _ _ rfl w.heap.size 0 [.int .i64 0, .string ⟨#[]⟩, .string ⟨#[]⟩, .string ⟨#[]⟩, .string ⟨#[]⟩, .string ⟨#[]⟩] ?_ ?_ ?_ ?_ ?_ ?_); rfl; rfl; (first | exact World.there_alloc HT.out _ | exact HT.out); kernel_rfl; (simp [Value.oneCell']); intro w9 HS9)
      have HZ := Lib.hid (show w9.rangeAt w.heap.size 0 [.int .i64 0, .string ⟨#[]⟩, .string ⟨#[]⟩, .string ⟨#[]⟩, .string ⟨#[]⟩, .string ⟨#[]⟩] from by rw [HS9.out]; exact World.rangeAt_setCells_same _ _ _ _ (by first | exact World.there_alloc HT.out _ | exact HT.out))
      refine bodyPost_ret (v := .tuple #[.agg ([.int .i64 0, .string ⟨#[]⟩, .string ⟨#[]⟩, .string ⟨#[]⟩, .string ⟨#[]⟩, .string ⟨#[]⟩] : List Value).toArray, .bool false]) ?_ rfl ?_
      · exact results_cell_tmp Tryz.results147 _ _ w.heap.size [.int .i64 0, .string ⟨#[]⟩, .string ⟨#[]⟩, .string ⟨#[]⟩, .string ⟨#[]⟩, .string ⟨#[]⟩] _ _ rfl rfl HZ.out Tryz.underlying115 rfl (by kernel_rfl)
      · exact IfPost.no (Hno.out (fun n h => by have := ((Hhead.out n).1 h).1; cases this)) rfl (by rw [HS9.out]; refine below_setCells _ (Nat.le_refl _) _ _ _ ?_; first | with_reducible exact Hb.out | exact Hb.out.alloc Hb.out.size _)
    | some n =>
      have Hpn := Lib.hid (fun W => (pnV_yes (m := 200) Hda.out) ▸ hpn W)
      clear hpn
      have hn9 : n ≤ 999999 := (decL_some.1 Hda.out).1
      rcases Nat.lt_or_ge 200 n with h200 | h200
      · have Hdec := Lib.hid (show decide (n ≤ 200) = false by simp; omega)
        rw [Hdec.out] at Hpn
        go_wp2_with fail
        refine (Hpn.out _).mono ?_
        rintro e w3 ⟨rfl, rfl⟩
        go_wp2_with ((with_reducible refine wpList_store_hid (op := ⟨none, .store 115 _ _, _, _, _, none⟩) rfl 115 _ _ rfl w.heap.size 0 [.int .i64 0, .string ⟨#[]⟩, .string ⟨#[]⟩, .string ⟨#[]⟩, .string ⟨#[]⟩, .string ⟨#[]⟩] ?_ ?_ ?_ ?_ ?_ ?_); rfl; rfl; (first | exact World.there_alloc HT.out _ | exact HT.out); kernel_rfl; (simp [Value.oneCell']); intro w9 HS9)
        have HZ := Lib.hid (show w9.rangeAt w.heap.size 0 [.int .i64 0, .string ⟨#[]⟩, .string ⟨#[]⟩, .string ⟨#[]⟩, .string ⟨#[]⟩, .string ⟨#[]⟩] from by rw [HS9.out]; exact World.rangeAt_setCells_same _ _ _ _ (by first | exact World.there_alloc HT.out _ | exact HT.out))
        refine bodyPost_ret (v := .tuple #[.agg ([.int .i64 0, .string ⟨#[]⟩, .string ⟨#[]⟩, .string ⟨#[]⟩, .string ⟨#[]⟩, .string ⟨#[]⟩] : List Value).toArray, .bool false]) ?_ rfl ?_
        · exact results_cell_tmp Tryz.results147 _ _ w.heap.size [.int .i64 0, .string ⟨#[]⟩, .string ⟨#[]⟩, .string ⟨#[]⟩, .string ⟨#[]⟩, .string ⟨#[]⟩] _ _ rfl rfl HZ.out Tryz.underlying115 rfl (by kernel_rfl)
        · exact IfPost.no (Hno.out (fun m h => by have h' := (Hhead.out m).1 h; have := h'.1; cases this; omega)) rfl (by rw [HS9.out]; refine below_setCells _ (Nat.le_refl _) _ _ _ ?_; first | with_reducible exact Hb.out | exact Hb.out.alloc Hb.out.size _)
      · have Hdec := Lib.hid (show decide (n ≤ 200) = true by simp; omega)
        rw [Hdec.out] at Hpn
        rcases Nat.eq_zero_or_pos n with h0 | h0
        · subst h0
          go_wp2_with fail
          refine (Hpn.out _).mono ?_
          rintro e w3 ⟨rfl, rfl⟩
          go_wp2_with ((with_reducible refine wpList_store_hid (op := ⟨none, .store 115 _ _, _, _, _, none⟩) rfl 115 _ _ rfl w.heap.size 0 [.int .i64 0, .string ⟨#[]⟩, .string ⟨#[]⟩, .string ⟨#[]⟩, .string ⟨#[]⟩, .string ⟨#[]⟩] ?_ ?_ ?_ ?_ ?_ ?_); rfl; rfl; (first | exact World.there_alloc HT.out _ | exact HT.out); kernel_rfl; (simp [Value.oneCell']); intro w9 HS9)
          have HZ := Lib.hid (show w9.rangeAt w.heap.size 0 [.int .i64 0, .string ⟨#[]⟩, .string ⟨#[]⟩, .string ⟨#[]⟩, .string ⟨#[]⟩, .string ⟨#[]⟩] from by rw [HS9.out]; exact World.rangeAt_setCells_same _ _ _ _ (by first | exact World.there_alloc HT.out _ | exact HT.out))
          refine bodyPost_ret (v := .tuple #[.agg ([.int .i64 0, .string ⟨#[]⟩, .string ⟨#[]⟩, .string ⟨#[]⟩, .string ⟨#[]⟩, .string ⟨#[]⟩] : List Value).toArray, .bool false]) ?_ rfl ?_
          · exact results_cell_tmp Tryz.results147 _ _ w.heap.size [.int .i64 0, .string ⟨#[]⟩, .string ⟨#[]⟩, .string ⟨#[]⟩, .string ⟨#[]⟩, .string ⟨#[]⟩] _ _ rfl rfl HZ.out Tryz.underlying115 rfl (by kernel_rfl)
          · exact IfPost.no (Hno.out (fun m h => by have h' := (Hhead.out m).1 h; have := h'.1; cases this; omega)) rfl (by rw [HS9.out]; refine below_setCells _ (Nat.le_refl _) _ _ _ ?_; first | with_reducible exact Hb.out | exact Hb.out.alloc Hb.out.size _)
        · have hlt1 : decide ((n : Int) < 1) = false := by rw [decide_eq_false_iff_not]; omega
          have Hname := Lib.hid (fun W => isName_any b W (by omega))
          generalize hnb : nameOk b = nb at *
          have Hnb := Lib.hid hnb
          clear hnb
          go_wp2_with fail
          refine (Hpn.out _).mono ?_
          rintro e w3 ⟨rfl, rfl⟩
          go_wp2_with fail
          refine (Hname.out _).mono ?_
          rintro e w4 ⟨rfl, hb4⟩
          have hz4 : w2.heap.size < w4.heap.size := by have := hb4.size; simp at this; omega
          have HT4 := Lib.hid (show w4.there w.heap.size 0 6 from there_below (World.there_alloc HT.out _) (by simp; omega) hb4)
          have HR4 := Lib.hid (show w4.rangeAt w2.heap.size 0 [.int .i64 (n : Int), .string ⟨b.toArray⟩, .string ⟨#[]⟩, .string ⟨#[]⟩, .string ⟨#[]⟩, .string ⟨vl.toArray⟩] from rangeAt_below (rangeAt_new w2 _ _) (by simp) hb4)
          have HK4 := Lib.hid (show w4.there w2.heap.size 0 6 from there_below (there_new w2 [.int .i64 (n : Int), .string ⟨b.toArray⟩, .string ⟨#[]⟩, .string ⟨#[]⟩, .string ⟨#[]⟩, .string ⟨vl.toArray⟩] _) (by simp) hb4)
          have Hb4 := Lib.hid (show Below w.heap.size w w4 from (Hb.out.alloc Hb.out.size _).trans (hb4.mono (by simp; omega)))
          have c2x : w4.cell? ⟨g, 2, none⟩ = some (.string ⟨d.toArray⟩) := (hb4.cell (p := ⟨g, 2, none⟩) (by simp; omega)).trans (by rw [World.cell?_alloc_old _ _ _ (by simp; omega)]; exact c2)
          clear hb4
          cases nb with
          | false =>
            go_wp2_with ((with_reducible refine wpList_store_hid (op := ⟨none, .store 115 _ _, _, _, _, none⟩) rfl 115 _ _ rfl w.heap.size 0 [.int .i64 0, .string ⟨#[]⟩, .string ⟨#[]⟩, .string ⟨#[]⟩, .string ⟨#[]⟩, .string ⟨#[]⟩] ?_ ?_ ?_ ?_ ?_ ?_); rfl; rfl; (first | exact World.there_alloc HT4.out _ | exact HT4.out); kernel_rfl; (simp [Value.oneCell']); intro w9 HS9)
            have HZ := Lib.hid (show w9.rangeAt w.heap.size 0 [.int .i64 0, .string ⟨#[]⟩, .string ⟨#[]⟩, .string ⟨#[]⟩, .string ⟨#[]⟩, .string ⟨#[]⟩] from by rw [HS9.out]; exact World.rangeAt_setCells_same _ _ _ _ (by first | exact World.there_alloc HT4.out _ | exact HT4.out))
            refine bodyPost_ret (v := .tuple #[.agg ([.int .i64 0, .string ⟨#[]⟩, .string ⟨#[]⟩, .string ⟨#[]⟩, .string ⟨#[]⟩, .string ⟨#[]⟩] : List Value).toArray, .bool false]) ?_ rfl ?_
            · exact results_cell_tmp Tryz.results147 _ _ w.heap.size [.int .i64 0, .string ⟨#[]⟩, .string ⟨#[]⟩, .string ⟨#[]⟩, .string ⟨#[]⟩, .string ⟨#[]⟩] _ _ rfl rfl HZ.out Tryz.underlying115 rfl (by kernel_rfl)
            · exact IfPost.no (Hno.out (fun m h => by have := ((Hhead.out m).1 h).2.2.2; cases this)) rfl (by rw [HS9.out]; refine below_setCells _ (Nat.le_refl _) _ _ _ ?_; first | with_reducible exact Hb4.out | exact Hb4.out.alloc Hb4.out.size _)
          | true =>
            have Hok := Lib.hid (show headOk a b n from (Hhead.out n).2 ⟨rfl, h0, h200, rfl⟩)
            have HF2 := Lib.hid (HF.out.trans (fieldP_R (c := d) (vl := vl) (td := td) Hst0.out Hok.out))
            clear Hno Hhead HF
            have Hkd := Lib.hid (fun W => readKind_any d W ld)
            have Hkok := Lib.hid (fun k (h : kindL d = some k) => (kindL_some.1 h).1)
            generalize kindL d = ok at HF2 Hkd Hkok
            go_wp2_with fail
            refine (Hkd.out _).mono ?_
            rintro e w5 ⟨hcase, hb5⟩
            have HT5 := Lib.hid (show w5.there w.heap.size 0 6 from there_below HT4.out (by omega) hb5)
            have HR5 := Lib.hid (show w5.rangeAt w2.heap.size 0 _ from rangeAt_below HR4.out hz4 hb5)
            have HK5 := Lib.hid (show w5.there w2.heap.size 0 6 from there_below HK4.out hz4 hb5)
            have Hb5 := Lib.hid (Hb4.out.trans (hb5.mono Hb4.out.size))
            have hz5 : w2.heap.size < w5.heap.size := Nat.lt_of_lt_of_le hz4 hb5.size
            clear hb5
            cases ok with
            | none =>
              obtain ⟨a1, a2, a3, rfl⟩ := hcase
              go_wp2_with (first | ((with_reducible refine wpList_store_hid (op := ⟨none, .store 83 _ _, _, _, _, none⟩) rfl 83 _ _ rfl w2.heap.size 2 [.string a1, .string a2, .string a3] ?_ ?_ ?_ ?_ ?_ ?_); rfl; rfl; (exact there_sub HK5.out 2 3 (by decide) (by decide)); kernel_rfl; (simp [Value.oneCell']); intro w6 HS6; have HT6 := Lib.hid (show w6.there w.heap.size 0 6 from HS6.out ▸ World.there_setCells HT5.out _ _ _); have HR6 := Lib.hid (show w6.rangeAt w2.heap.size 0 [.int .i64 (n : Int), .string ⟨b.toArray⟩, .string a1, .string a2, .string a3, .string ⟨vl.toArray⟩] from HS6.out ▸ rangeAt_setCells_in [.int .i64 (n : Int), .string ⟨b.toArray⟩] [.string ⟨#[]⟩, .string ⟨#[]⟩, .string ⟨#[]⟩] [.string ⟨vl.toArray⟩] [.string a1, .string a2, .string a3] HR5.out rfl); have Hb6 := Lib.hid (show Below w.heap.size w w6 from HS6.out ▸ below_setCells _ (Nat.le_of_lt hzz) _ _ _ Hb5.out); have hz6 : w2.heap.size < w6.heap.size := (by rw [HS6.out, setCells_size]; exact hz5); have z2 : w6.cell? ⟨w2.heap.size, 2, none⟩ = some (.string a1) := (by simpa using rangeAt_cell HR6.out 2 rfl); have z3 : w6.cell? ⟨w2.heap.size, 3, none⟩ = some (.string a2) := (by simpa using rangeAt_cell HR6.out 3 rfl); clear HT5 HR5 HK5 HS6) | ((with_reducible refine wpList_store_hid (op := ⟨none, .store 115 _ _, _, _, _, none⟩) rfl 115 _ _ rfl w.heap.size 0 [.int .i64 0, .string ⟨#[]⟩, .string ⟨#[]⟩, .string ⟨#[]⟩, .string ⟨#[]⟩, .string ⟨#[]⟩] ?_ ?_ ?_ ?_ ?_ ?_); rfl; rfl; (first | exact World.there_alloc HT6.out _ | exact HT6.out); kernel_rfl; (simp [Value.oneCell']); intro w9 HS9))
              have HZ := Lib.hid (show w9.rangeAt w.heap.size 0 [.int .i64 0, .string ⟨#[]⟩, .string ⟨#[]⟩, .string ⟨#[]⟩, .string ⟨#[]⟩, .string ⟨#[]⟩] from by rw [HS9.out]; exact World.rangeAt_setCells_same _ _ _ _ (by first | exact World.there_alloc HT6.out _ | exact HT6.out))
              refine bodyPost_ret (v := .tuple #[.agg ([.int .i64 0, .string ⟨#[]⟩, .string ⟨#[]⟩, .string ⟨#[]⟩, .string ⟨#[]⟩, .string ⟨#[]⟩] : List Value).toArray, .bool false]) ?_ rfl ?_
              · exact results_cell_tmp Tryz.results147 _ _ w.heap.size [.int .i64 0, .string ⟨#[]⟩, .string ⟨#[]⟩, .string ⟨#[]⟩, .string ⟨#[]⟩, .string ⟨#[]⟩] _ _ rfl rfl HZ.out Tryz.underlying115 rfl (by kernel_rfl)
              · exact IfPost.no HF2.out rfl (by rw [HS9.out]; refine below_setCells _ (Nat.le_refl _) _ _ _ ?_; first | with_reducible exact Hb6.out | exact Hb6.out.alloc Hb6.out.size _)
            | some k =>
              have hcase' : e = .returned (.tuple #[.agg #[.string ⟨k.signs.toArray⟩, .string ⟨k.base.toArray⟩, .string ⟨k.name.toArray⟩], .bool true]) := hcase
              subst hcase'
              clear hcase
              have Hkk := Lib.hid (Hkok.out k rfl)
              have HF3 := Lib.hid (show fieldI st s = if td = true ∧ ¬ (st = 82 ∧ k.signs = [] ∧ standOk k.base vl = true) then none else some ⟨n, b, k, vl⟩ from HF2.out)
              clear HF2 Hkok
              cases td with
              | false =>
                go_wp2_with (first | ((with_reducible refine wpList_store_hid (op := ⟨none, .store 83 _ _, _, _, _, none⟩) rfl 83 _ _ rfl w2.heap.size 2 [.string ⟨k.signs.toArray⟩, .string ⟨k.base.toArray⟩, .string ⟨k.name.toArray⟩] ?_ ?_ ?_ ?_ ?_ ?_); rfl; rfl; (exact there_sub HK5.out 2 3 (by decide) (by decide)); kernel_rfl; (simp [Value.oneCell']); intro w6 HS6; have HT6 := Lib.hid (show w6.there w.heap.size 0 6 from HS6.out ▸ World.there_setCells HT5.out _ _ _); have HR6 := Lib.hid (show w6.rangeAt w2.heap.size 0 [.int .i64 (n : Int), .string ⟨b.toArray⟩, .string ⟨k.signs.toArray⟩, .string ⟨k.base.toArray⟩, .string ⟨k.name.toArray⟩, .string ⟨vl.toArray⟩] from HS6.out ▸ rangeAt_setCells_in [.int .i64 (n : Int), .string ⟨b.toArray⟩] [.string ⟨#[]⟩, .string ⟨#[]⟩, .string ⟨#[]⟩] [.string ⟨vl.toArray⟩] [.string ⟨k.signs.toArray⟩, .string ⟨k.base.toArray⟩, .string ⟨k.name.toArray⟩] HR5.out rfl); have Hb6 := Lib.hid (show Below w.heap.size w w6 from HS6.out ▸ below_setCells _ (Nat.le_of_lt hzz) _ _ _ Hb5.out); have hz6 : w2.heap.size < w6.heap.size := (by rw [HS6.out, setCells_size]; exact hz5); have z2 : w6.cell? ⟨w2.heap.size, 2, none⟩ = some (.string ⟨k.signs.toArray⟩) := (by simpa using rangeAt_cell HR6.out 2 rfl); have z3 : w6.cell? ⟨w2.heap.size, 3, none⟩ = some (.string ⟨k.base.toArray⟩) := (by simpa using rangeAt_cell HR6.out 3 rfl); clear HT5 HR5 HK5 HS6) | ((with_reducible refine wpList_store_hid (op := ⟨none, .store 115 _ _, _, _, _, none⟩) rfl 115 _ _ rfl w.heap.size 0 [.int .i64 (n : Int), .string ⟨b.toArray⟩, .string ⟨k.signs.toArray⟩, .string ⟨k.base.toArray⟩, .string ⟨k.name.toArray⟩, .string ⟨vl.toArray⟩] ?_ ?_ ?_ ?_ ?_ ?_); rfl; rfl; (first | exact World.there_alloc HT6.out _ | exact HT6.out); kernel_rfl; (simp [Value.oneCell']); intro w9 HS9) | ((with_reducible refine wpList_load_mid (op := ⟨_, .load 115 _, _, _, _, none⟩) rfl 115 _ rfl w2.heap.size 0 ?_ [.int .i64 (n : Int), .string ⟨b.toArray⟩, .string ⟨k.signs.toArray⟩, .string ⟨k.base.toArray⟩, .string ⟨k.name.toArray⟩, .string ⟨vl.toArray⟩] _ HR6.out Tryz.underlying115 ?_ ?_ ?_); rfl; rfl; kernel_rfl))
                have HZ := Lib.hid (show w9.rangeAt w.heap.size 0 [.int .i64 (n : Int), .string ⟨b.toArray⟩, .string ⟨k.signs.toArray⟩, .string ⟨k.base.toArray⟩, .string ⟨k.name.toArray⟩, .string ⟨vl.toArray⟩] from by rw [HS9.out]; exact World.rangeAt_setCells_same _ _ _ _ (by first | exact World.there_alloc HT6.out _ | exact HT6.out))
                refine bodyPost_ret (v := .tuple #[.agg ([.int .i64 (n : Int), .string ⟨b.toArray⟩, .string ⟨k.signs.toArray⟩, .string ⟨k.base.toArray⟩, .string ⟨k.name.toArray⟩, .string ⟨vl.toArray⟩] : List Value).toArray, .bool true]) ?_ rfl ?_
                · exact results_cell_tmp Tryz.results147 _ _ w.heap.size [.int .i64 (n : Int), .string ⟨b.toArray⟩, .string ⟨k.signs.toArray⟩, .string ⟨k.base.toArray⟩, .string ⟨k.name.toArray⟩, .string ⟨vl.toArray⟩] _ _ rfl rfl HZ.out Tryz.underlying115 rfl (by kernel_rfl)
                · exact IfPost.yes (HF3.out.trans (if_neg (by simp))) rfl (by rw [HS9.out]; refine below_setCells _ (Nat.le_refl _) _ _ _ ?_; first | with_reducible exact Hb6.out | exact Hb6.out.alloc Hb6.out.size _)
              | true =>
                rcases Decidable.em (st = 82) with h82 | h82
                · have n82 : ((st.toNat : Int) != 82) = false := bne_byte_no (c := st) (d := 82) h82
                  rcases Decidable.em (k.signs = []) with hsg | hsg
                  · have hsg1 : (k.signs != []) = false := by simp [hsg]
                    have hsg2 : k.signs.isEmpty = true := by simp [hsg]
                    have hsg3 : (!k.signs.isEmpty) = false := by simp [hsg]
                    have hbl := base_baseL Hkk.out.2.1
                    have Hst := Lib.hid (fun W => standing_any k.base vl W hbl (by omega))
                    have Hst2 := Lib.hid (show fieldI st s = if standOk k.base vl = true then some ⟨n, b, k, vl⟩ else none from by
                      rw [HF3.out]
                      by_cases hh : standOk k.base vl = true
                      · rw [if_neg (by simp [h82, hsg, hh]), if_pos hh]
                      · rw [if_pos (by simp [hh]), if_neg hh])
                    generalize standOk k.base vl = sb at Hst Hst2
                    clear hsg h82 hbl
                    go_wp2_with ((with_reducible refine wpList_store_hid (op := ⟨none, .store 83 _ _, _, _, _, none⟩) rfl 83 _ _ rfl w2.heap.size 2 [.string ⟨k.signs.toArray⟩, .string ⟨k.base.toArray⟩, .string ⟨k.name.toArray⟩] ?_ ?_ ?_ ?_ ?_ ?_); rfl; rfl; (exact there_sub HK5.out 2 3 (by decide) (by decide)); kernel_rfl; (simp [Value.oneCell']); intro w6 HS6; have HT6 := Lib.hid (show w6.there w.heap.size 0 6 from HS6.out ▸ World.there_setCells HT5.out _ _ _); have HR6 := Lib.hid (show w6.rangeAt w2.heap.size 0 [.int .i64 (n : Int), .string ⟨b.toArray⟩, .string ⟨k.signs.toArray⟩, .string ⟨k.base.toArray⟩, .string ⟨k.name.toArray⟩, .string ⟨vl.toArray⟩] from HS6.out ▸ rangeAt_setCells_in [.int .i64 (n : Int), .string ⟨b.toArray⟩] [.string ⟨#[]⟩, .string ⟨#[]⟩, .string ⟨#[]⟩] [.string ⟨vl.toArray⟩] [.string ⟨k.signs.toArray⟩, .string ⟨k.base.toArray⟩, .string ⟨k.name.toArray⟩] HR5.out rfl); have Hb6 := Lib.hid (show Below w.heap.size w w6 from HS6.out ▸ below_setCells _ (Nat.le_of_lt hzz) _ _ _ Hb5.out); have hz6 : w2.heap.size < w6.heap.size := (by rw [HS6.out, setCells_size]; exact hz5); have z2 : w6.cell? ⟨w2.heap.size, 2, none⟩ = some (.string ⟨k.signs.toArray⟩) := (by simpa using rangeAt_cell HR6.out 2 rfl); have z3 : w6.cell? ⟨w2.heap.size, 3, none⟩ = some (.string ⟨k.base.toArray⟩) := (by simpa using rangeAt_cell HR6.out 3 rfl); clear HT5 HR5 HK5 HS6)
                    refine (Hst.out _).mono ?_
                    rintro e w7 ⟨rfl, hb7⟩
                    have HT7 := Lib.hid (show w7.there w.heap.size 0 6 from there_below HT6.out (by omega) hb7)
                    have HR7 := Lib.hid (show w7.rangeAt w2.heap.size 0 _ from rangeAt_below HR6.out hz6 hb7)
                    have Hb7 := Lib.hid (Hb6.out.trans (hb7.mono Hb6.out.size))
                    clear hb7 z2 z3
                    cases sb with
                    | true =>
                      go_wp2_with (first | ((with_reducible refine wpList_store_hid (op := ⟨none, .store 115 _ _, _, _, _, none⟩) rfl 115 _ _ rfl w.heap.size 0 [.int .i64 (n : Int), .string ⟨b.toArray⟩, .string ⟨k.signs.toArray⟩, .string ⟨k.base.toArray⟩, .string ⟨k.name.toArray⟩, .string ⟨vl.toArray⟩] ?_ ?_ ?_ ?_ ?_ ?_); rfl; rfl; (first | exact World.there_alloc HT7.out _ | exact HT7.out); kernel_rfl; (simp [Value.oneCell']); intro w9 HS9) | ((with_reducible refine wpList_load_mid (op := ⟨_, .load 115 _, _, _, _, none⟩) rfl 115 _ rfl w2.heap.size 0 ?_ [.int .i64 (n : Int), .string ⟨b.toArray⟩, .string ⟨k.signs.toArray⟩, .string ⟨k.base.toArray⟩, .string ⟨k.name.toArray⟩, .string ⟨vl.toArray⟩] _ HR7.out Tryz.underlying115 ?_ ?_ ?_); rfl; rfl; kernel_rfl))
                      have HZ := Lib.hid (show w9.rangeAt w.heap.size 0 [.int .i64 (n : Int), .string ⟨b.toArray⟩, .string ⟨k.signs.toArray⟩, .string ⟨k.base.toArray⟩, .string ⟨k.name.toArray⟩, .string ⟨vl.toArray⟩] from by rw [HS9.out]; exact World.rangeAt_setCells_same _ _ _ _ (by first | exact World.there_alloc HT7.out _ | exact HT7.out))
                      refine bodyPost_ret (v := .tuple #[.agg ([.int .i64 (n : Int), .string ⟨b.toArray⟩, .string ⟨k.signs.toArray⟩, .string ⟨k.base.toArray⟩, .string ⟨k.name.toArray⟩, .string ⟨vl.toArray⟩] : List Value).toArray, .bool true]) ?_ rfl ?_
                      · exact results_cell_tmp Tryz.results147 _ _ w.heap.size [.int .i64 (n : Int), .string ⟨b.toArray⟩, .string ⟨k.signs.toArray⟩, .string ⟨k.base.toArray⟩, .string ⟨k.name.toArray⟩, .string ⟨vl.toArray⟩] _ _ rfl rfl HZ.out Tryz.underlying115 rfl (by kernel_rfl)
                      · exact IfPost.yes (Hst2.out.trans (if_pos (by simp))) rfl (by rw [HS9.out]; refine below_setCells _ (Nat.le_refl _) _ _ _ ?_; first | with_reducible exact Hb7.out | exact Hb7.out.alloc Hb7.out.size _)
                    | false =>
                      go_wp2_with ((with_reducible refine wpList_store_hid (op := ⟨none, .store 115 _ _, _, _, _, none⟩) rfl 115 _ _ rfl w.heap.size 0 [.int .i64 0, .string ⟨#[]⟩, .string ⟨#[]⟩, .string ⟨#[]⟩, .string ⟨#[]⟩, .string ⟨#[]⟩] ?_ ?_ ?_ ?_ ?_ ?_); rfl; rfl; (first | exact World.there_alloc HT7.out _ | exact HT7.out); kernel_rfl; (simp [Value.oneCell']); intro w9 HS9)
                      have HZ := Lib.hid (show w9.rangeAt w.heap.size 0 [.int .i64 0, .string ⟨#[]⟩, .string ⟨#[]⟩, .string ⟨#[]⟩, .string ⟨#[]⟩, .string ⟨#[]⟩] from by rw [HS9.out]; exact World.rangeAt_setCells_same _ _ _ _ (by first | exact World.there_alloc HT7.out _ | exact HT7.out))
                      refine bodyPost_ret (v := .tuple #[.agg ([.int .i64 0, .string ⟨#[]⟩, .string ⟨#[]⟩, .string ⟨#[]⟩, .string ⟨#[]⟩, .string ⟨#[]⟩] : List Value).toArray, .bool false]) ?_ rfl ?_
                      · exact results_cell_tmp Tryz.results147 _ _ w.heap.size [.int .i64 0, .string ⟨#[]⟩, .string ⟨#[]⟩, .string ⟨#[]⟩, .string ⟨#[]⟩, .string ⟨#[]⟩] _ _ rfl rfl HZ.out Tryz.underlying115 rfl (by kernel_rfl)
                      · exact IfPost.no (Hst2.out.trans (if_neg (by decide))) rfl (by rw [HS9.out]; refine below_setCells _ (Nat.le_refl _) _ _ _ ?_; first | with_reducible exact Hb7.out | exact Hb7.out.alloc Hb7.out.size _)
                  · have hsg1 : (k.signs != []) = true := by simp [hsg]
                    have hsg2 : k.signs.isEmpty = false := by simp [hsg]
                    have hsg3 : (!k.signs.isEmpty) = true := by simp [hsg]
                    have Hw := Lib.hid (HF3.out.trans (if_pos ⟨rfl, fun h => hsg h.2.1⟩))
                    clear hsg h82
                    go_wp2_with (first | ((with_reducible refine wpList_store_hid (op := ⟨none, .store 83 _ _, _, _, _, none⟩) rfl 83 _ _ rfl w2.heap.size 2 [.string ⟨k.signs.toArray⟩, .string ⟨k.base.toArray⟩, .string ⟨k.name.toArray⟩] ?_ ?_ ?_ ?_ ?_ ?_); rfl; rfl; (exact there_sub HK5.out 2 3 (by decide) (by decide)); kernel_rfl; (simp [Value.oneCell']); intro w6 HS6; have HT6 := Lib.hid (show w6.there w.heap.size 0 6 from HS6.out ▸ World.there_setCells HT5.out _ _ _); have HR6 := Lib.hid (show w6.rangeAt w2.heap.size 0 [.int .i64 (n : Int), .string ⟨b.toArray⟩, .string ⟨k.signs.toArray⟩, .string ⟨k.base.toArray⟩, .string ⟨k.name.toArray⟩, .string ⟨vl.toArray⟩] from HS6.out ▸ rangeAt_setCells_in [.int .i64 (n : Int), .string ⟨b.toArray⟩] [.string ⟨#[]⟩, .string ⟨#[]⟩, .string ⟨#[]⟩] [.string ⟨vl.toArray⟩] [.string ⟨k.signs.toArray⟩, .string ⟨k.base.toArray⟩, .string ⟨k.name.toArray⟩] HR5.out rfl); have Hb6 := Lib.hid (show Below w.heap.size w w6 from HS6.out ▸ below_setCells _ (Nat.le_of_lt hzz) _ _ _ Hb5.out); have hz6 : w2.heap.size < w6.heap.size := (by rw [HS6.out, setCells_size]; exact hz5); have z2 : w6.cell? ⟨w2.heap.size, 2, none⟩ = some (.string ⟨k.signs.toArray⟩) := (by simpa using rangeAt_cell HR6.out 2 rfl); have z3 : w6.cell? ⟨w2.heap.size, 3, none⟩ = some (.string ⟨k.base.toArray⟩) := (by simpa using rangeAt_cell HR6.out 3 rfl); clear HT5 HR5 HK5 HS6) | ((with_reducible refine wpList_store_hid (op := ⟨none, .store 115 _ _, _, _, _, none⟩) rfl 115 _ _ rfl w.heap.size 0 [.int .i64 0, .string ⟨#[]⟩, .string ⟨#[]⟩, .string ⟨#[]⟩, .string ⟨#[]⟩, .string ⟨#[]⟩] ?_ ?_ ?_ ?_ ?_ ?_); rfl; rfl; (first | exact World.there_alloc HT6.out _ | exact HT6.out); kernel_rfl; (simp [Value.oneCell']); intro w9 HS9))
                    have HZ := Lib.hid (show w9.rangeAt w.heap.size 0 [.int .i64 0, .string ⟨#[]⟩, .string ⟨#[]⟩, .string ⟨#[]⟩, .string ⟨#[]⟩, .string ⟨#[]⟩] from by rw [HS9.out]; exact World.rangeAt_setCells_same _ _ _ _ (by first | exact World.there_alloc HT6.out _ | exact HT6.out))
                    refine bodyPost_ret (v := .tuple #[.agg ([.int .i64 0, .string ⟨#[]⟩, .string ⟨#[]⟩, .string ⟨#[]⟩, .string ⟨#[]⟩, .string ⟨#[]⟩] : List Value).toArray, .bool false]) ?_ rfl ?_
                    · exact results_cell_tmp Tryz.results147 _ _ w.heap.size [.int .i64 0, .string ⟨#[]⟩, .string ⟨#[]⟩, .string ⟨#[]⟩, .string ⟨#[]⟩, .string ⟨#[]⟩] _ _ rfl rfl HZ.out Tryz.underlying115 rfl (by kernel_rfl)
                    · exact IfPost.no Hw.out rfl (by rw [HS9.out]; refine below_setCells _ (Nat.le_refl _) _ _ _ ?_; first | with_reducible exact Hb6.out | exact Hb6.out.alloc Hb6.out.size _)
                · have n82 : ((st.toNat : Int) != 82) = true := bne_byte (c := st) (d := 82) h82
                  have Hw := Lib.hid (HF3.out.trans (if_pos ⟨rfl, fun h => h82 h.1⟩))
                  clear h82
                  go_wp2_with (first | ((with_reducible refine wpList_store_hid (op := ⟨none, .store 83 _ _, _, _, _, none⟩) rfl 83 _ _ rfl w2.heap.size 2 [.string ⟨k.signs.toArray⟩, .string ⟨k.base.toArray⟩, .string ⟨k.name.toArray⟩] ?_ ?_ ?_ ?_ ?_ ?_); rfl; rfl; (exact there_sub HK5.out 2 3 (by decide) (by decide)); kernel_rfl; (simp [Value.oneCell']); intro w6 HS6; have HT6 := Lib.hid (show w6.there w.heap.size 0 6 from HS6.out ▸ World.there_setCells HT5.out _ _ _); have HR6 := Lib.hid (show w6.rangeAt w2.heap.size 0 [.int .i64 (n : Int), .string ⟨b.toArray⟩, .string ⟨k.signs.toArray⟩, .string ⟨k.base.toArray⟩, .string ⟨k.name.toArray⟩, .string ⟨vl.toArray⟩] from HS6.out ▸ rangeAt_setCells_in [.int .i64 (n : Int), .string ⟨b.toArray⟩] [.string ⟨#[]⟩, .string ⟨#[]⟩, .string ⟨#[]⟩] [.string ⟨vl.toArray⟩] [.string ⟨k.signs.toArray⟩, .string ⟨k.base.toArray⟩, .string ⟨k.name.toArray⟩] HR5.out rfl); have Hb6 := Lib.hid (show Below w.heap.size w w6 from HS6.out ▸ below_setCells _ (Nat.le_of_lt hzz) _ _ _ Hb5.out); have hz6 : w2.heap.size < w6.heap.size := (by rw [HS6.out, setCells_size]; exact hz5); have z2 : w6.cell? ⟨w2.heap.size, 2, none⟩ = some (.string ⟨k.signs.toArray⟩) := (by simpa using rangeAt_cell HR6.out 2 rfl); have z3 : w6.cell? ⟨w2.heap.size, 3, none⟩ = some (.string ⟨k.base.toArray⟩) := (by simpa using rangeAt_cell HR6.out 3 rfl); clear HT5 HR5 HK5 HS6) | ((with_reducible refine wpList_store_hid (op := ⟨none, .store 115 _ _, _, _, _, none⟩) rfl 115 _ _ rfl w.heap.size 0 [.int .i64 0, .string ⟨#[]⟩, .string ⟨#[]⟩, .string ⟨#[]⟩, .string ⟨#[]⟩, .string ⟨#[]⟩] ?_ ?_ ?_ ?_ ?_ ?_); rfl; rfl; (first | exact World.there_alloc HT6.out _ | exact HT6.out); kernel_rfl; (simp [Value.oneCell']); intro w9 HS9))
                  have HZ := Lib.hid (show w9.rangeAt w.heap.size 0 [.int .i64 0, .string ⟨#[]⟩, .string ⟨#[]⟩, .string ⟨#[]⟩, .string ⟨#[]⟩, .string ⟨#[]⟩] from by rw [HS9.out]; exact World.rangeAt_setCells_same _ _ _ _ (by first | exact World.there_alloc HT6.out _ | exact HT6.out))
                  refine bodyPost_ret (v := .tuple #[.agg ([.int .i64 0, .string ⟨#[]⟩, .string ⟨#[]⟩, .string ⟨#[]⟩, .string ⟨#[]⟩, .string ⟨#[]⟩] : List Value).toArray, .bool false]) ?_ rfl ?_
                  · exact results_cell_tmp Tryz.results147 _ _ w.heap.size [.int .i64 0, .string ⟨#[]⟩, .string ⟨#[]⟩, .string ⟨#[]⟩, .string ⟨#[]⟩, .string ⟨#[]⟩] _ _ rfl rfl HZ.out Tryz.underlying115 rfl (by kernel_rfl)
                  · exact IfPost.no Hw.out rfl (by rw [HS9.out]; refine below_setCells _ (Nat.le_refl _) _ _ _ ?_; first | with_reducible exact Hb6.out | exact Hb6.out.alloc Hb6.out.size _)
  · have Hno := Lib.hid (HF.out.trans (fieldP_len (vl := vl) (td := td) (st := st) (ps := ps) (by rw [if_neg Hst0.out]; exact hlen)))
    have hl1 : ¬ (ps.length : Int) = 3 := by omega
    have hl2 : ((ps.length : Int) != 3) = true := by rw [bne_iff_ne]; exact hl1
    clear HF Hpl Hcells
    go_wp2_with ((with_reducible refine wpList_store_hid (op := ⟨none, .store 115 _ _, _, _, _, none⟩) rfl 115 _ _ rfl w.heap.size 0 [.int .i64 0, .string ⟨#[]⟩, .string ⟨#[]⟩, .string ⟨#[]⟩, .string ⟨#[]⟩, .string ⟨#[]⟩] ?_ ?_ ?_ ?_ ?_ ?_); rfl; rfl; (first | exact World.there_alloc HT.out _ | exact HT.out); kernel_rfl; (simp [Value.oneCell']); intro w9 HS9)
    have HZ := Lib.hid (show w9.rangeAt w.heap.size 0 [.int .i64 0, .string ⟨#[]⟩, .string ⟨#[]⟩, .string ⟨#[]⟩, .string ⟨#[]⟩, .string ⟨#[]⟩] from by rw [HS9.out]; exact World.rangeAt_setCells_same _ _ _ _ (by first | exact World.there_alloc HT.out _ | exact HT.out))
    refine bodyPost_ret (v := .tuple #[.agg ([.int .i64 0, .string ⟨#[]⟩, .string ⟨#[]⟩, .string ⟨#[]⟩, .string ⟨#[]⟩, .string ⟨#[]⟩] : List Value).toArray, .bool false]) ?_ rfl ?_
    · exact results_cell_tmp Tryz.results147 _ _ w.heap.size [.int .i64 0, .string ⟨#[]⟩, .string ⟨#[]⟩, .string ⟨#[]⟩, .string ⟨#[]⟩, .string ⟨#[]⟩] _ _ rfl rfl HZ.out Tryz.underlying115 rfl (by kernel_rfl)
    · exact IfPost.no Hno.out rfl (by rw [HS9.out]; refine below_setCells _ (Nat.le_refl _) _ _ _ ?_; first | with_reducible exact Hb.out | exact Hb.out.alloc Hb.out.size _)
end Go.Proofs.YtcjfgbcdlcdeaaaGreatDoor
/- readType of the program: a line without fields. -/
namespace Go.Proofs.YtcjfgbcdlcdeaaaGreatDoor
open Go.RowKit
set_option maxRecDepth 100000
set_option linter.unusedVariables false
set_option linter.unusedSimpArgs false
attribute [local go_sem] ba_get ba_toList ba_extract take_drop_all ByteArray.mk_append_mk

theorem readField_any (st : UInt8) (hst : sortOk st) (s : List UInt8) (w : World) (hs : s.length ≤ 4000000) :
    Calls Tryz.prog 147 #[.string ⟨s.toArray⟩, .int .u8 (st.toNat : Int)] w (IfPost (fieldI st s) w) := by
  by_cases h : st = 69
  · exact iField_E st h s w hs
  · exact iField_R st h s w hs
/-- What reading a type leaves. -/
def ItPost (o : Option Ty) (w : World) (e : Ending) (w' : World) : Prop :=
  (match o with
    | some t => ∃ x : PT, x.ty = t ∧ e = .returned (.tuple #[x.ptr, .bool true]) ∧ w.heap.size ≤ x.blk ∧ ITy w' x ∧ ∀ k, x.fv.ownBlock = some k → w.heap.size ≤ k
    | none => ∃ p : Option Addr, e = .returned (.tuple #[.pointer p, .bool false])) ∧ Below w.heap.size w w'
theorem ItPost.no {w w' : World} {e : Ending} {o : Option Ty} (ho : o = none) {p : Option Addr} (he : e = .returned (.tuple #[.pointer p, .bool false])) (hb : Below w.heap.size w w') : ItPost o w e w' := by
  rw [ho]; exact ⟨⟨p, he⟩, hb⟩
theorem ItPost.yes {w w' : World} {e : Ending} {o : Option Ty} {t : Ty} (ho : o = some t) {b : Nat} {fv : Value} (he : e = .returned (.tuple #[.pointer (some ⟨b, 0, none⟩), .bool true])) (hwb : w.heap.size ≤ b) (ht : ITy w' ⟨t, b, fv⟩) (hf : ∀ k, fv.ownBlock = some k → w.heap.size ≤ k) (hb : Below w.heap.size w w') : ItPost o w e w' := by
  rw [ho]; exact ⟨⟨⟨t, b, fv⟩, rfl, he, hwb, ht, hf⟩, hb⟩

theorem sort_mem (c : UInt8) : decide (c ∈ ([82, 85, 69] : List UInt8)) = decide (sortOk c) := by
  rw [decide_eq_decide]; unfold sortOk; simp

theorem iType_nil (w : World) : Calls Tryz.prog 110 #[.string ⟨#[]⟩] w (ItPost (typeI []) w) := by
  go_enter Tryz.func110, Tryz.ntmps110
  go_wp2_with fail
  go_ret2
  exact ItPost.no rfl rfl (Below.refl _ _)

set_option maxHeartbeats 1000000 in
theorem iType_sort (c : UInt8) (r : List UInt8) (w : World) (hs : r.length ≤ 3999999) (hc : ¬ sortOk c) : Calls Tryz.prog 110 #[.string ⟨(c :: r).toArray⟩] w (ItPost (typeI (c :: r)) w) := by
  have HF := Lib.hid (show typeI (c :: r) = none by unfold typeI; simp only; rw [if_pos (.inl hc)])
  have Hc := Lib.hid (fun W => (show Calls Tryz.prog 145 #[.string ⟨#[82, 85, 69]⟩, .string ⟨#[c]⟩] W fun e w' => e = .returned (.bool false) ∧ W = w' from by
    have := Contains_any [82, 85, 69] c W
    rw [sort_mem, decide_eq_false hc] at this
    exact this))
  clear hc
  go_enter Tryz.func110, Tryz.ntmps110
  go_wp2_with fail
  refine (Hc.out _).mono ?_
  rintro e w' ⟨rfl, rfl⟩
  go_wp2_with fail
  go_ret2
  exact ItPost.no HF.out rfl (Below.refl _ _)

set_option maxHeartbeats 1000000 in
theorem iType_head (c : UInt8) (r : List UInt8) (w : World) (hs : r.length ≤ 3999999) (hc : sortOk c) (h : (cutL 61 r).2.2 = false ∨ nameOk (cutL 61 r).1 = false ∨ (cutL 61 r).2.1 = []) : Calls Tryz.prog 110 #[.string ⟨(c :: r).toArray⟩] w (ItPost (typeI (c :: r)) w) := by
  have HF := Lib.hid (show typeI (c :: r) = if (cutL 61 r).2.2 = false ∨ nameOk (cutL 61 r).1 = false then none else (if c = 82 then some ⟨c, (cutL 61 r).1, []⟩ else none) by
    unfold typeI
    simp only
    by_cases h1 : (cutL 61 r).2.2 = false ∨ nameOk (cutL 61 r).1 = false
    · rw [if_pos (.inr h1), if_pos h1]
    · have h2 : (cutL 61 r).2.1 = [] := by
        rcases h with h | h | h
        · exact absurd (.inl h) h1
        · exact absurd (.inr h) h1
        · exact h
      rw [if_neg (fun h3 => h3.elim (fun h3 => h3 hc) h1), if_neg h1, if_pos h2])
  have Hc := Lib.hid (fun W => (show Calls Tryz.prog 145 #[.string ⟨#[82, 85, 69]⟩, .string ⟨#[c]⟩] W fun e w' => e = .returned (.bool true) ∧ W = w' from by
    have := Contains_any [82, 85, 69] c W
    rw [sort_mem, decide_eq_true hc] at this
    exact this))
  have Hl := Lib.hid (fun (f : (cutL 61 r).2.2 = true ∧ (cutL 61 r).2.1 = []) => show tyB ⟨c, (cutL 61 r).1, []⟩ = c :: r from by
    rcases cutL_cases 61 r with ⟨_, e⟩ | ⟨p, t, e1, _, e⟩
    · rw [e] at f; cases f.1
    · rw [e] at f ⊢
      simp only at f
      have := f.2
      subst this
      rw [e1]; rfl)
  have Hcut := Lib.hid (fun W => Cut_any r 61 W (by omega))
  have hcl := (cutL_len 61 r).1
  generalize cutL 61 r = q at *
  obtain ⟨nm, rest, told⟩ := q
  simp only at hcl HF h Hl
  have Hh := Lib.hid h
  have Hc82 := Lib.hid hc
  clear hc h
  go_enter Tryz.func110, Tryz.ntmps110
  go_wp2_with fail
  refine (Hc.out _).mono ?_
  rintro e w' ⟨rfl, rfl⟩
  go_wp2_with fail
  refine (Hcut.out _).mono ?_
  rintro e w1 ⟨rfl, k1, rfl⟩
  unfold cutV
  cases told with
  | false =>
    go_wp2_with fail
    go_ret2
    exact ItPost.no (HF.out.trans (if_pos (by simp))) rfl (below_drewN (Below.refl _ _) _)
  | true =>
    have Hname := Lib.hid (fun W => isName_any nm W (by omega))
    generalize hnb : nameOk nm = nb at *
    have Hnb := Lib.hid hnb
    clear hnb
    go_wp2_with fail
    refine (Hname.out _).mono ?_
    rintro e w2 ⟨rfl, hb2⟩
    have Hb2 := Lib.hid (show Below w.heap.size w w2 from (below_drewN (Below.refl _ _) k1).trans (by simpa using hb2))
    clear hb2
    cases nb with
    | false =>
      go_wp2_with fail
      go_ret2
      exact ItPost.no (HF.out.trans (if_pos (by simp))) rfl Hb2.out
    | true =>
      obtain rfl : rest = [] := by
        rcases Hh.out with h | h | h
        · cases h
        · cases h
        · exact h
      have HF2 := Lib.hid (HF.out.trans (if_neg (by simp)))
      have Hl2 := Lib.hid (Hl.out (by simp))
      have hz := Hb2.out.size
      rcases Decidable.em (c = 82) with h82 | h82
      · have t1 : ((c.toNat : Int) == 82) = true := byte_eq (d := 82) h82
        have HF3 := Lib.hid (HF2.out.trans (if_pos h82))
        clear h82
        go_wp2_with fail
        go_quiet (fail)
        go_wp2_with fail
        go_ret2
        refine ItPost.yes HF3.out (b := w2.heap.size) (fv := .slice none 0 0) rfl Hb2.out.size ?_ (fun k hk => by simp [Value.ownBlock] at hk) (by repeat (first | exact Hb2.out.alloc Hb2.out.size _ | refine Below.drew ?_ | refine below_drewN ?_ _))
        refine ⟨by simp, by first | exact Blk.new _ _ _ | exact Blk.belowAt (Blk.new w2 _ _) (by simp) (by first | exact below_drewN (Below.refl _ _) _ | exact (Below.refl _ _).drew), by simp, by simp, by simp, ?_, none, 0, rfl, by simp, rfl, Nat.zero_le _, fun h => absurd h (by simp)⟩
        rw [Hl2.out]; simp
      · have t1 : ((c.toNat : Int) == 82) = false := byte_ne (d := 82) h82
        have HF3 := Lib.hid (HF2.out.trans (if_neg h82))
        clear h82
        go_wp2_with fail
        go_quiet (fail)
        go_wp2_with fail
        go_ret2
        exact ItPost.no HF3.out rfl (by repeat (first | exact Hb2.out.alloc Hb2.out.size _ | refine Below.drew ?_ | refine below_drewN ?_ _))

/-- What a line with fields tells. -/
def finP (c : UInt8) (nm : List UInt8) : Option (List Fd) → Option Ty
  | some r => some ⟨c, nm, r⟩
  | none => none
theorem typeI_fields {c : UInt8} {r nm rest : List UInt8} (hc : sortOk c) (h : cutL 61 r = (nm, rest, true)) (hn : nameOk nm = true) (hr : rest ≠ []) : typeI (c :: r) = finP c nm (fieldsI c (splitL 44 rest) []) := by
  unfold typeI
  simp only [h]
  rw [if_neg (by simp [hc, hn]), if_neg hr]
  cases fieldsI c (splitL 44 rest) [] <;> rfl
theorem fieldsI_step {c : UInt8} {ps : List (List UInt8)} {acc : List Fd} {k : Nat} (hk : k < ps.length) : fieldsI c (ps.drop k) acc = (match fieldI c ps[k] with | none => none | some f => if acc.length = 8 ∨ fitsIn acc f = false then none else fieldsI c (ps.drop (k + 1)) (acc ++ [f])) := by
  rw [List.drop_eq_getElem_cons hk, fieldsI]
  cases fieldI c ps[k] <;> rfl
theorem fitsIn_all {acc : List Fd} {f : Fd} (h : ∀ g ∈ acc, g.name ≠ f.name ∧ g.tag < f.tag) : fitsIn acc f = true := fitsIn_iff.2 h
theorem fits_no' {acc : List Fd} {f x : Fd} (hx : x ∈ acc) (h : f.tag ≤ x.tag ∨ x.name = f.name) : fitsIn acc f = false := by
  cases hh : fitsIn acc f with
  | false => rfl
  | true =>
    obtain ⟨h1, h2⟩ := fitsIn_iff.1 hh x hx
    rcases h with h | h
    · omega
    · exact absurd h h1
theorem grown_set (w : World) (a : Addr) (v : Value) : w.grownBy (w.setCell a v) (some a.block) :=
  ⟨rfl, rfl, rfl, by simp, fun k _ hk => Go.heap_setCell_other _ _ _ _ (fun e => hk (by rw [e]))⟩
theorem own_slice {w : World} {base k n : Nat} {e : TypeId} {v : Value} {xs : List Value} (h : w.ownsRow base e k v n xs) : ∃ A m c, v = .slice A m c := by
  rcases h.2 with ⟨rfl, _⟩ | ⟨g, cap, cur, rfl, _⟩
  · exact ⟨_, _, _, rfl⟩
  · exact ⟨_, _, _, rfl⟩
theorem own_oneCell {w : World} {base k n : Nat} {e : TypeId} {v : Value} {xs : List Value} (h : w.ownsRow base e k v n xs) : v.oneCell' = true := by
  obtain ⟨_, _, _, rfl⟩ := own_slice h
  rfl
/-- One field of a row that is read, as a range. -/
theorem IFds.range {w : World} {A : Option Addr} {fs : List Fd} (hr : RowAt w A (fs.length * 6) (fs.flatMap ifc)) {i : Nat} (hi : i < fs.length) : ∃ b off, A = some ⟨b, off, none⟩ ∧ b < w.heap.size ∧ w.rangeAt b (off + i * 6) (ifc fs[i]) := by
  obtain ⟨b, off, e, hlt, hc⟩ := hr.elem ifc_len (by decide) hi
  exact ⟨b, off, e, hlt, fun j v hv => by rw [Nat.add_assoc]; exact hc j v hv⟩
theorem Tryz.infoIf : (Tryz.prog.info? 115).map (fun i => (i.zero, i.size, i.bytes)) = some (some (.agg #[.int .i64 0, .string ⟨#[]⟩, .string ⟨#[]⟩, .string ⟨#[]⟩, .string ⟨#[]⟩, .string ⟨#[]⟩]), 6, 88) := by kernel_rfl
theorem ifc_one (fs : List Fd) : ∀ y ∈ fs.flatMap ifc, y.oneCell' = true := by
  intro y hy
  obtain ⟨f, _, hf⟩ := List.mem_flatMap.1 hy
  simp [ifc] at hf
  rcases hf with rfl | rfl | rfl | rfl | rfl | rfl <;> rfl
end Go.Proofs.YtcjfgbcdlcdeaaaGreatDoor
/- Versions and registries in memory; those that a law makes of its argument; their sizes; whether they are the same. -/
namespace Go.Proofs.YtcjfgbcdlcdeaaaGreatDoor
open Go.RowKit
set_option maxRecDepth 100000
set_option linter.unusedVariables false
set_option linter.unusedSimpArgs false
attribute [local go_sem] ba_get ba_toList ba_extract take_drop_all ByteArray.mk_append_mk

/-- A version: a schema and a kind, as texts. -/
abbrev Ver := List UInt8 × List UInt8
def verc (v : Ver) : List Value := [.string ⟨v.1.toArray⟩, .string ⟨v.2.toArray⟩]
theorem verc_len (v : Ver) : (verc v).length = 2 := rfl
/-- Cells that lie behind a pointer, if there are any. -/
def CellsAt (w : World) (A : Option Addr) (xs : List Value) : Prop := 0 < xs.length → ∃ b off, A = some ⟨b, off, none⟩ ∧ b < w.heap.size ∧ ∀ j u, xs[j]? = some u → w.cell? ⟨b, off + j, none⟩ = some u
theorem CellsAt.below {w w' : World} {A : Option Addr} {xs : List Value} (h : CellsAt w A xs) (hb : Below w.heap.size w w') : CellsAt w' A xs := fun hn => by
  obtain ⟨b, off, e, hlt, hc⟩ := h hn
  exact ⟨b, off, e, Nat.lt_of_lt_of_le hlt hb.size, fun j u hu => (hb.cell (p := ⟨b, off + j, none⟩) hlt).trans (hc j u hu)⟩
/-- A slice value that reads as versions. -/
def VRow (w : World) (v : Value) (vs : List Ver) : Prop := ∃ A c, v = .slice A vs.length c ∧ vs.length ≤ c ∧ vs.length ≤ maxLen ∧ CellsAt w A (vs.flatMap verc)
theorem VRow.below {w w' : World} {v : Value} {vs : List Ver} (h : VRow w v vs) (hb : Below w.heap.size w w') : VRow w' v vs := by
  obtain ⟨A, c, e, hc, hm, hr⟩ := h
  exact ⟨A, c, e, hc, hm, hr.below hb⟩
theorem VRow.at_ {w : World} {A : Option Addr} {vs : List Ver} (hr : CellsAt w A (vs.flatMap verc)) {i : Nat} (hi : i < vs.length) :
    ∃ b off, A = some ⟨b, off, none⟩ ∧ b < w.heap.size ∧ w.cell? ⟨b, off + i * 2, none⟩ = some (.string ⟨vs[i].1.toArray⟩) ∧ w.cell? ⟨b, off + i * 2 + 1, none⟩ = some (.string ⟨vs[i].2.toArray⟩) := by
  obtain ⟨b, off, e, hlt, hc⟩ := hr (by rw [flatMap_len verc_len]; omega)
  refine ⟨b, off, e, hlt, ?_, ?_⟩
  · have := hc (i * 2 + 0) (.string ⟨vs[i].1.toArray⟩) (by rw [flatMap_get verc_len vs i 0 hi (by decide)]; rfl)
    simpa using this
  · have := hc (i * 2 + 1) (.string ⟨vs[i].2.toArray⟩) (by rw [flatMap_get verc_len vs i 1 hi (by decide)]; rfl)
    simpa [Nat.add_assoc] using this

theorem toVersion_any (a b : ByteArray) (w : World) : Calls Tryz.prog 17 #[.agg #[.string a, .string b]] w fun e w' => e = .returned (.agg #[.string a, .string b]) ∧ Below w.heap.size w w' := by
  go_enter Tryz.func17, Tryz.ntmps17
  go_wp2_with fail
  exact bodyPost_ret (v := .agg #[.string a, .string b]) (by simp [results, Tryz.results17, go_sem]) rfl ⟨rfl, (((Below.refl _ _).alloc (Nat.le_refl _) _).alloc (by simp) _).alloc (by simp; omega) _⟩

theorem there_own {w : World} {base k n : Nat} {e : TypeId} {g cap : Nat} {xs : List Value} (h : w.ownsRow base e k (.slice (some ⟨g, 0, none⟩) n cap) n xs) : w.there g 0 (n * k) := fun j hj => by
  rcases h.2 with ⟨h0, _⟩ | ⟨g', cap', cur, e1, hb, hh, hnc, hcm, hcs, htk⟩
  · cases h0
  · injection e1 with e1 _ e2
    injection e1 with e1
    injection e1 with e1
    subst e1 e2
    have hlt : j < cur.size := by rw [hcs]; exact Nat.lt_of_lt_of_le hj (Nat.mul_le_mul_right _ hnc)
    refine ⟨?_, ?_⟩
    · simp only [World.cell?, hh, Nat.zero_add]
      simp [hlt]
    · simp [World.frozen?, hh]
theorem rangeAt_append {w : World} {b o : Nat} {l1 l2 : List Value} (h1 : w.rangeAt b o l1) (h2 : w.rangeAt b (o + l1.length) l2) : w.rangeAt b o (l1 ++ l2) := fun j v hv => by
  rcases Nat.lt_or_ge j l1.length with h | h
  · rw [List.getElem?_append_left h] at hv; exact h1 j v hv
  · rw [List.getElem?_append_right h] at hv
    have := h2 (j - l1.length) v hv
    rwa [show o + l1.length + (j - l1.length) = o + j by omega] at this
theorem Tryz.infoVer : (Tryz.prog.info? 35).map (fun i => (i.zero, i.size, i.bytes)) = some (some (.agg #[.string ⟨#[]⟩, .string ⟨#[]⟩]), 2, 32) := by kernel_rfl
theorem verc_one (vs : List Ver) : ∀ y ∈ vs.flatMap verc, y.oneCell' = true := by
  intro y hy
  obtain ⟨v, _, hv⟩ := List.mem_flatMap.1 hy
  simp [verc] at hv
  rcases hv with rfl | rfl <;> rfl

/-- A row of versions that the call made. -/
def VOwn (lo : Nat) (w : World) (v : Value) (vs : List Ver) : Prop := ∃ g, v = .slice (some ⟨g, 0, none⟩) vs.length vs.length ∧ lo ≤ g ∧ g < w.heap.size ∧ w.rangeAt g 0 (vs.flatMap verc)
theorem VOwn.row {lo : Nat} {w : World} {v : Value} {vs : List Ver} (h : VOwn lo w v vs) (hn : vs.length ≤ 1048576) : VRow w v vs := by
  obtain ⟨g, e, _, hg, hr⟩ := h
  exact ⟨_, _, e, Nat.le_refl _, by unfold maxLen; omega, fun _ => ⟨g, 0, rfl, hg, hr⟩⟩
theorem VOwn.set {lo : Nat} {w : World} {v : Value} {vs : List Ver} (h : VOwn lo w v vs) {b : Nat} (hb : b < lo) (u : Value) : VOwn lo (w.setCell ⟨b, 0, none⟩ u) v vs := by
  obtain ⟨g, e, h1, hg, hr⟩ := h
  exact ⟨g, e, h1, by simpa using hg, World.rangeAt_setCells_apart hr b 0 [u] (.inl (by omega))⟩

set_option maxHeartbeats 1000000 in
theorem toVersionS_any (v : Value) (vs : List Ver) (w : World) (h : VRow w v vs) (hn : vs.length ≤ 1048576) :
    Calls Tryz.prog 47 #[v] w fun e w' => ∃ v', e = .returned v' ∧ VOwn w.heap.size w' v' vs ∧ Below w.heap.size w w' := by
  obtain ⟨i0, hi, hz0, hz1, hz2⟩ := info_parts Tryz.infoVer
  obtain ⟨A, c, rfl, hcap, hvm, hr⟩ := h
  have Hr := Lib.hid hr
  clear hr
  go_enter Tryz.func47, Tryz.ntmps47
  go_wp2_with (at_make; refine wpList_make_full _ rfl _ _ 29 rfl w.heap.size 35 i0 (.agg #[.string ⟨#[]⟩, .string ⟨#[]⟩]) 2 Tryz.underlying29 hi hz0 hz1 .i64 .i64 _ _ vs.length rfl rfl rfl rfl (by rw [hz2]; omega) (by unfold maxLen; omega) (Nat.le_refl _) ?_; intro w0 hown0 hgrow0)
  have T0 := Lib.hid (there_own hown0)
  have hg0 : w.heap.size < w0.heap.size := (hown0.lt _ rfl).2
  have Hb0 := Lib.hid (show Below w.heap.size w w0 from (Below.refl _ _).grown hgrow0 (Nat.le_refl _) (by simp))
  clear hown0 hgrow0
  go_loopw [4] (fun i wr => ∃ k : Nat, i = .int .i64 k ∧ k ≤ vs.length ∧ Hid (wr.there w.heap.size 0 (vs.length * 2)) ∧ Hid (wr.rangeAt w.heap.size 0 ((vs.take k).flatMap verc)) ∧ Hid (Below w.heap.size w wr) ∧ w.heap.size < wr.heap.size) (fun i _ => vs.length - (intOf i).toNat)
  case atStart => exact ⟨0, rfl, Nat.zero_le _, T0.out, fun j v hv => by simp at hv, Hb0.out, hg0⟩
  case round =>
    obtain ⟨k, rfl, hk, hT, hR, hb, hgz⟩ := hrel
    have k1 : (0 : Int) ≤ (k : Int) := by omega
    by_cases hlt : k < vs.length
    · have k2 : (k : Int) < (vs.length : Int) := by omega
      obtain ⟨b, off, rfl, hbl, c0, c1⟩ := VRow.at_ (Hr.out.below hb.out) hlt
      have Hts := Lib.hid (take_snoc vs k hlt)
      have hlen : ((vs.take k).flatMap verc).length = k * 2 := by rw [flatMap_len verc_len, List.length_take, Nat.min_eq_left hk]
      have Hlen := Lib.hid hlen
      generalize vs[k] = x at c0 c1 Hts
      clear hlen
      go_wp2_with fail
      refine (toVersion_any ⟨x.1.toArray⟩ ⟨x.2.toArray⟩ wr).mono ?_
      rintro e w1 ⟨rfl, hb1⟩
      have T1 := Lib.hid (show w1.there w.heap.size (k * 2) 2 from there_sub (there_below hT.out hgz hb1) (k * 2) 2 (Nat.zero_le _) (by omega))
      have T1' := Lib.hid (there_below hT.out hgz hb1)
      have R1 := Lib.hid (rangeAt_below hR.out hgz hb1)
      have Hb1 := Lib.hid (hb.out.trans (hb1.mono hb.out.size))
      have hz1 : wr.heap.size ≤ w1.heap.size := hb1.size
      clear hb1 c0 c1
      go_wp2_with ((with_reducible refine wpList_store_hid (op := ⟨none, .store 35 _ _, _, _, _, none⟩) rfl 35 _ _ rfl w.heap.size (k * 2) [.string ⟨x.1.toArray⟩, .string ⟨x.2.toArray⟩] ?_ ?_ ?_ ?_ ?_ ?_); (first | rfl | (simp; done)); rfl; (exact T1.out); kernel_rfl; (simp [Value.oneCell']); intro w9 HS9)
      go_roundw
      case rel =>
        refine ⟨k + 1, by go_num, by omega, ?_, ?_, ?_, ?_⟩
        · rw [HS9.out]; exact World.there_setCells T1'.out _ _ _
        · rw [HS9.out, Hts.out, List.flatMap_append]
          refine rangeAt_append (World.rangeAt_setCells_apart R1.out _ _ _ (.inr (.inl (by rw [Hlen.out]; omega)))) ?_
          rw [Hlen.out]
          simpa [verc] using World.rangeAt_setCells_same w1 w.heap.size (k * 2) [.string ⟨x.1.toArray⟩, .string ⟨x.2.toArray⟩] T1.out
        · rw [HS9.out]; exact below_setCells _ (Nat.le_refl _) _ _ _ Hb1.out
        · rw [HS9.out, setCells_size]; omega
      case measure => simp [intOf]; omega
    · obtain rfl : k = vs.length := by omega
      go_wp2_with fail
      go_ret
      have := hR.out
      rw [List.take_length] at this
      exact ⟨_, rfl, ⟨w.heap.size, rfl, Nat.le_refl _, hgz, this⟩, hb.out⟩

set_option maxHeartbeats 1000000 in
theorem toRegistry_any (v : Value) (vs : List Ver) (w : World) (h : VRow w v vs) (hn : vs.length ≤ 1048576) :
    Calls Tryz.prog 16 #[.agg #[v]] w fun e w' => ∃ v', e = .returned (.agg #[v']) ∧ VRow w' v' vs ∧ Below w.heap.size w w' := by
  have H := Lib.hid h
  obtain ⟨A, c, rfl, _⟩ := h
  go_enter Tryz.func16, Tryz.ntmps16
  go_wp2_with fail
  refine (toVersionS_any _ vs _ (H.out.below ((((Below.refl _ _).alloc (Nat.le_refl _) _).alloc (by simp) _).alloc (by simp; omega) _)) hn).mono ?_
  rintro e w1 ⟨v', rfl, hv, hb1⟩
  obtain ⟨hc1, hf1, hz⟩ := bcell hb1
  have T1 := Lib.hid (show w1.cell? ⟨w.heap.size + 1, 0, none⟩ = some (.slice none 0 0) from (hc1 (w.heap.size + 1) 0 (by simp)).trans (by simp [go_sem]))
  have t1 := T1.out
  have t2 : w1.cell? ⟨w.heap.size + 1 + 1, 0, none⟩ = some (.slice none 0 0) := (hc1 (w.heap.size + 1 + 1) 0 (by simp)).trans (by simp [go_sem])
  have u1 : w1.frozen? ⟨w.heap.size + 1, 0, none⟩ = false := (hf1 (w.heap.size + 1) 0 (by simp)).trans (by simp [go_sem])
  have u2 : w1.frozen? ⟨w.heap.size + 1 + 1, 0, none⟩ = false := (hf1 (w.heap.size + 1 + 1) 0 (by simp)).trans (by simp [go_sem])
  have hz1 : w.heap.size + 1 + 1 < w1.heap.size := hz _ (by simp)
  have Hv := Lib.hid hv
  obtain ⟨g1, rfl, hg1, _, _⟩ := hv
  simp at hg1
  have Hb1 := Lib.hid (show Below w.heap.size w w1 from ((((Below.refl _ _).alloc (Nat.le_refl _) _).alloc (by simp) _).alloc (by simp; omega) _).trans (hb1.mono (by simp; omega)))
  clear hb1 hc1 hf1 hz
  have hne : ¬ (w.heap.size + 1 + 1 = w.heap.size + 1) := by omega
  go_wp2_with fail
  refine bodyPost_ret (v := .agg #[.slice (some ⟨g1, 0, none⟩) vs.length vs.length]) (by simp [results, Tryz.results16, go_sem, t1, t2, u1, u2, hne, hz1]) rfl ?_
  exact ⟨_, rfl, ((Hv.out.set (by simp) _).set (by simp) _).row hn, (Hb1.out.setCell (by simp; omega) _).setCell (by simp) _⟩

/-! ### sizes -/
/-- What a size leaves: what is left, or -1; where something is left, the texts are short. -/
def SzPost (P : Int → Prop) (left : Int) (w : World) (e : Ending) (w' : World) : Prop := ∃ r : Int, e = .returned (.int .i64 r) ∧ -1 ≤ r ∧ r ≤ left ∧ (0 ≤ r → P left) ∧ Below w.heap.size w w'
set_option maxHeartbeats 1000000 in
theorem szVersion_any (a b : List UInt8) (left : Int) (w : World) (ha : a.length ≤ maxLen) (hb : b.length ≤ maxLen) (h0 : 0 ≤ left) (h1 : left ≤ 1048576) :
    Calls Tryz.prog 14 #[.agg #[.string ⟨a.toArray⟩, .string ⟨b.toArray⟩], .int .i64 left] w (SzPost (fun l => (a.length : Int) ≤ l ∧ (b.length : Int) ≤ l) left w) := by
  unfold maxLen at ha hb
  go_enter Tryz.func14, Tryz.ntmps14
  by_cases hl : left - (a.length : Int) < 0
  · go_wp2_with fail
    go_ret
    exact ⟨-1, rfl, by omega, by omega, fun h => by omega, (Below.refl _ _).alloc (Nat.le_refl _) _⟩
  · by_cases hl2 : left - (a.length : Int) - (b.length : Int) < 0
    · go_wp2_with fail
      go_ret
      exact ⟨-1, rfl, by omega, by omega, fun h => by omega, (Below.refl _ _).alloc (Nat.le_refl _) _⟩
    · go_wp2_with fail
      go_ret
      exact ⟨left - (a.length : Int) - (b.length : Int), rfl, by omega, by omega, fun h => ⟨by omega, by omega⟩, (Below.refl _ _).alloc (Nat.le_refl _) _⟩
set_option maxHeartbeats 1000000 in
theorem szVersionS_any (v : Value) (vs : List Ver) (w : World) (h : VRow w v vs) (hl : ∀ x ∈ vs, x.1.length ≤ maxLen ∧ x.2.length ≤ maxLen) :
    Calls Tryz.prog 45 #[v, .int .i64 1048576] w (SzPost (fun l => (vs.length : Int) ≤ l ∧ ∀ x ∈ vs, (x.1.length : Int) ≤ l ∧ (x.2.length : Int) ≤ l) 1048576 w) := by
  obtain ⟨A, c, rfl, hcap, hvm, hr⟩ := h
  have Hr := Lib.hid hr
  have Hl := Lib.hid hl
  have hlen := hvm
  unfold maxLen at hlen
  clear hr hl
  go_enter Tryz.func45, Tryz.ntmps45
  by_cases hbig : 1048576 - (vs.length : Int) < 0
  · go_wp2_with fail
    go_ret
    exact ⟨-1, rfl, by omega, by omega, fun h => by omega, Below.refl _ _⟩
  · go_wp2_with fail
    go_loopw [5, 1] (fun i l wr => ∃ (k : Nat) (r : Int), i = .int .i64 k ∧ l = .int .i64 r ∧ k ≤ vs.length ∧ 0 ≤ r ∧ r ≤ 1048576 ∧ Hid (∀ x ∈ vs.take k, (x.1.length : Int) ≤ 1048576 ∧ (x.2.length : Int) ≤ 1048576) ∧ Hid (Below w.heap.size w wr)) (fun i _ _ => vs.length - (intOf i).toNat)
    case atStart => exact ⟨0, 1048576 - (vs.length : Int), rfl, rfl, Nat.zero_le _, by omega, by omega, by intro x hx; simp at hx, Below.refl _ _⟩
    case round =>
      obtain ⟨k, r, rfl, rfl, hk, hr0, hr1, hin, hb⟩ := hrel
      have k1 : (0 : Int) ≤ (k : Int) := by omega
      by_cases hlt : k < vs.length
      · have k2 : (k : Int) < (vs.length : Int) := by omega
        obtain ⟨b, off, rfl, hbl, c0, c1⟩ := VRow.at_ (Hr.out.below hb.out) hlt
        have Hts := Lib.hid (take_snoc vs k hlt)
        have hxl := Hl.out _ (List.getElem_mem hlt)
        generalize vs[k] = x at c0 c1 Hts hxl
        have Hxl := Lib.hid hxl
        clear hxl
        go_wp2_with fail
        refine (szVersion_any x.1 x.2 r wr Hxl.out.1 Hxl.out.2 hr0 hr1).mono ?_
        rintro e w1 ⟨r', rfl, q1, q2, q3, hb1⟩
        have Hq := Lib.hid q3
        have Hb1 := Lib.hid (hb.out.trans (hb1.mono hb.out.size))
        clear q3 hb1 c0 c1
        by_cases hneg : r' < 0
        · go_wp2_with fail
          go_ret
          exact ⟨-1, rfl, by omega, by omega, fun h => by omega, Hb1.out⟩
        · have Hin := Lib.hid (show ∀ y ∈ vs.take (k + 1), (y.1.length : Int) ≤ 1048576 ∧ (y.2.length : Int) ≤ 1048576 from by
            intro y hy
            rw [Hts.out] at hy
            rcases List.mem_append.1 hy with hy | hy
            · exact hin.out y hy
            · simp at hy; subst hy; have := Hq.out (by omega); exact ⟨by omega, by omega⟩)
          go_wp2_with fail
          go_roundw
          case rel => exact ⟨k + 1, r', by go_num, rfl, by omega, by omega, by omega, Hin.out, Hb1.out⟩
          case measure => simp [intOf]; omega
      · obtain rfl : k = vs.length := by omega
        have Hall := Lib.hid hin.out
        rw [List.take_length] at Hall
        go_wp2_with fail
        go_ret
        exact ⟨r, rfl, by omega, hr1, fun _ => ⟨by omega, Hall.out⟩, hb.out⟩
set_option maxHeartbeats 1000000 in
theorem szRegistry_any (v : Value) (vs : List Ver) (w : World) (h : VRow w v vs) (hl : ∀ x ∈ vs, x.1.length ≤ maxLen ∧ x.2.length ≤ maxLen) :
    Calls Tryz.prog 13 #[.agg #[v], .int .i64 1048576] w (SzPost (fun l => (vs.length : Int) ≤ l ∧ ∀ x ∈ vs, (x.1.length : Int) ≤ l ∧ (x.2.length : Int) ≤ l) 1048576 w) := by
  have H := Lib.hid h
  have Hl := Lib.hid hl
  obtain ⟨A, c, rfl, _⟩ := h
  clear hl
  go_enter Tryz.func13, Tryz.ntmps13
  go_wp2_with fail
  refine (szVersionS_any _ vs _ (H.out.below ((Below.refl _ _).alloc (Nat.le_refl _) _)) Hl.out).mono ?_
  rintro e w1 ⟨r, rfl, q1, q2, q3, hb1⟩
  have Hq := Lib.hid q3
  have Hb1 := Lib.hid (((Below.refl w.heap.size w).alloc (Nat.le_refl _) _).trans (hb1.mono (by simp)))
  clear q3 hb1
  by_cases hneg : r < 0
  · go_wp2_with fail
    go_ret
    exact ⟨-1, rfl, by omega, by omega, fun h => by omega, Hb1.out⟩
  · go_wp2_with fail
    go_ret
    exact ⟨r, rfl, q1, q2, Hq.out, Hb1.out⟩

/-! ### the same -/
theorem eqVersion_any (a b : List UInt8) (w : World) : Calls Tryz.prog 81 #[.agg #[.string ⟨a.toArray⟩, .string ⟨b.toArray⟩], .agg #[.string ⟨a.toArray⟩, .string ⟨b.toArray⟩]] w fun e w' => e = .returned (.bool true) ∧ Below w.heap.size w w' := by
  go_enter Tryz.func81, Tryz.ntmps81
  have t1 : (!(a == a)) = false := by simp
  have t2 : (!(b == b)) = false := by simp
  go_wp2_with fail
  go_ret
  exact ⟨rfl, ((Below.refl _ _).alloc (Nat.le_refl _) _).alloc (by simp) _⟩
end Go.Proofs.YtcjfgbcdlcdeaaaGreatDoor
/- How a registry that came in is opened: versions, as lists. -/
namespace Go.Proofs.YtcjfgbcdlcdeaaaGreatDoor
set_option linter.unusedVariables false
set_option maxRecDepth 100000
set_option linter.unusedSimpArgs false
open Go.ChangeShapes Go.WideShapes Go.ChangeAt Go.RowKit Go.Deep

theorem addr_row {b off j : Nat} : (⟨b, off, none⟩ : Addr).add j = ⟨b, off + j, none⟩ := by unfold Addr.add; split <;> simp_all
section
variable {H : Type} {enc : TypeId × Value → H} {W : World} {base : Nat} {v : Value} {d : DataW H} {ps : List MemPlace}

/-- Two cells that read as a version. -/
theorem trod_ver {sp : Nat → Bool} {b0 n : Nat} {cs : List Value} {x : DataW H × List MemPlace} (h : DataW.trod enc Tryz.prog W b0 sp true n 26 cs = some x) :
    ∃ a b : ByteArray, cs = [.string a, .string b] ∧ a.size ≤ maxLen ∧ b.size ≤ maxLen := by
  obtain ⟨xs, m, _, hx, hl, hlen, hg⟩ := DataW.trod_struct Tryz.underlying26 h
  have hc : Tryz.prog.cellsOf 26 = 2 := by kernel_rfl
  have hs : Tryz.prog.cellsOf 9 = 1 := by kernel_rfl
  rw [hc] at hl
  match cs, hl with
  | [c0, c1], _ =>
    have h0 := hg 0 _ rfl
    have h1 := hg 1 _ rfl
    simp [hs] at h0 h1
    have l0 : 0 < xs.length := by rw [hlen]; decide
    have l1 : 1 < xs.length := by rw [hlen]; decide
    rw [List.getElem?_eq_getElem l0] at h0
    rw [List.getElem?_eq_getElem l1] at h1
    obtain ⟨a, ha, _, za⟩ := DataW.trod_string Tryz.underlying9 h0
    obtain ⟨b, hb, _, zb⟩ := DataW.trod_string Tryz.underlying9 h1
    simp at ha hb
    exact ⟨a, b, by rw [ha, hb], za, zb⟩
theorem arg_registry (hv : Value.okWide Tryz.prog W .any base 24 v) (h : DataW.Trod enc Tryz.prog W 0 (fun _ => true) true 24 v d ps) :
    ∃ (u : Value) (vs : List Ver), v = .agg #[u] ∧ VRow W u vs ∧ ∀ x ∈ vs, x.1.length ≤ maxLen ∧ x.2.length ≤ maxLen := by
  obtain ⟨cs, rfl, hsz⟩ := okWide_struct Tryz.underlying24 hv
  have hc1 : Tryz.prog.cellsOf 24 = 1 := by kernel_rfl
  have hc2 : Tryz.prog.cellsOf 22 = 1 := by kernel_rfl
  have hc3 : Tryz.prog.cellsOf 26 = 2 := by kernel_rfl
  rw [hc1] at hsz
  obtain ⟨c0, rfl⟩ : ∃ c0, cs = #[c0] := by
    obtain ⟨l⟩ := cs
    match l, hsz with
    | [c0], _ => exact ⟨c0, rfl⟩
  obtain ⟨fuel, hf⟩ := h
  obtain ⟨xs, n, _, hx, hl, hlen, hg⟩ := DataW.trod_struct Tryz.underlying24 hf
  have h0 := hg 0 _ rfl
  simp [hc2, Value.cells] at h0
  have l0 : 0 < xs.length := by rw [hlen]; decide
  rw [List.getElem?_eq_getElem l0] at h0
  rcases open_slice Tryz.underlying22 h0 with ⟨hcs, _⟩ | ⟨a, len, cap, m, n2, D, Pl, hcs, _, hlc, hcm, hmm, _, hi⟩
  · simp at hcs
    subst hcs
    exact ⟨_, [], rfl, ⟨none, 0, rfl, Nat.le_refl _, Nat.zero_le _, fun h => absurd h (by simp)⟩, fun x hx => by cases hx⟩
  · simp at hcs
    subst hcs
    simp at hmm
    subst hmm
    have hP : ∀ i, i < m → ∃ p : Ver, W.cell? (a.add (i * 2)) = some (.string ⟨p.1.toArray⟩) ∧ W.cell? (a.add (i * 2 + 1)) = some (.string ⟨p.2.toArray⟩) ∧ p.1.length ≤ maxLen ∧ p.2.length ≤ maxLen := by
      intro i him
      obtain ⟨cs', hcc, ht⟩ := hi i him
      rw [hc3] at hcc
      obtain ⟨s0, s1, rfl, z0, z1⟩ := trod_ver ht
      obtain ⟨_, _, hat⟩ := World.cells?_some hcc
      have a0 := hat 0 (by decide)
      have a1 := hat 1 (by decide)
      rw [Go.Deep.add_add] at a0 a1
      exact ⟨(s0.data.toList, s1.data.toList), by simpa using a0, by simpa using a1, by simpa using z0, by simpa using z1⟩
    obtain ⟨f, hf⟩ : ∃ f : Nat → Ver, ∀ i, i < m → W.cell? (a.add (i * 2)) = some (.string ⟨(f i).1.toArray⟩) ∧ W.cell? (a.add (i * 2 + 1)) = some (.string ⟨(f i).2.toArray⟩) ∧ (f i).1.length ≤ maxLen ∧ (f i).2.length ≤ maxLen :=
      ⟨fun i => if h : i < m then Classical.choose (hP i h) else ([], []), fun i h => by simp only [dif_pos h]; exact Classical.choose_spec (hP i h)⟩
    have hvl : ((List.range len).map f).length = len := by simp
    refine ⟨_, (List.range len).map f, rfl, ⟨some a, m, by rw [hvl], by rw [hvl]; exact hlc, by rw [hvl]; omega, fun hn => ?_⟩, fun x hx => ?_⟩
    · rw [flatMap_len verc_len, hvl] at hn
      have hlp : 0 < len := by omega
      have q0 := (hf 0 (by omega)).1
      obtain ⟨b, off, spot⟩ := a
      have hspot : spot = none := by simpa [Addr.add] using World.cell?_spot q0
      subst hspot
      refine ⟨b, off, rfl, ?_, fun j u hu => ?_⟩
      · have := World.block_lt_of_cell? W _ q0
        simpa [Addr.add] using this
      · have hj : j < len * 2 := by
          have := (List.getElem?_eq_some_iff.1 hu).1
          rwa [flatMap_len verc_len, hvl] at this
        have hjd : j = j / 2 * 2 + j % 2 := by omega
        have hjl : j / 2 < ((List.range len).map f).length := by rw [hvl]; omega
        rw [hjd, flatMap_get verc_len _ (j / 2) (j % 2) hjl (by omega)] at hu
        obtain ⟨q1, q2, _, _⟩ := hf (j / 2) (by omega)
        rw [addr_row] at q1 q2
        rw [hjd]
        rcases Nat.mod_two_eq_zero_or_one j with h2 | h2
        · rw [h2] at hu ⊢
          simp [verc] at hu
          rw [← hu]; exact q1
        · rw [h2] at hu ⊢
          simp [verc] at hu
          rw [← hu]; exact q2
    · obtain ⟨i, hi', rfl⟩ := List.mem_map.1 hx
      rw [List.mem_range] at hi'
      exact ⟨(hf i (by omega)).2.2.1, (hf i (by omega)).2.2.2⟩
end
end Go.Proofs.YtcjfgbcdlcdeaaaGreatDoor
/- The reference's standing values of kinds and fields. -/
namespace Go.Proofs.YtcjfgbcdlcdeaaaGreatDoor
open Go.RowKit
set_option maxRecDepth 100000
set_option linter.unusedVariables false
set_option linter.unusedSimpArgs false
attribute [local go_sem] ba_get ba_toList ba_extract take_drop_all ByteArray.mk_append_mk

theorem standN_len (S : List Ty) (hT : ∀ t ∈ S, tyOk t) : ∀ (n : Nat) (k : Kd), (standN S n k).length ≤ 6 * n
  | 0, _ => by simp [standN]
  | n + 1, k => by
    unfold standN
    split
    · simp; omega
    · split
      · simp; omega
      · split
        · simp; omega
        · split
          · simp; omega
          · split
            · simp; omega
            · cases hf : findTy S k.name with
              | none => simp
              | some t =>
                simp only
                split
                · simp; omega
                · cases hfs : t.fields with
                  | nil => simp
                  | cons f fs =>
                    have h1 := ((hT t (findTy_some hf).1).2.2.1.1 f (by rw [hfs]; simp)).2.1
                    have h2 := decB_len 2 f.tag (by have e : 10 ^ (2 + 1) = 1000 := rfl; omega)
                    have ih := standN_len S hT n f.kind
                    simp only
                    split
                    · simp; omega
                    · simp; omega
/-- The standing value of a letter. -/
def plainL (b : List UInt8) : List UInt8 := if b = [110] then [48] else if b = [116] then [39, 39] else [110, 111]
theorem l3PlainK_any (b : List UInt8) (w : World) (hb : b = [110] ∨ b = [116] ∨ b = [102]) :
    Calls Tryz.prog 186 #[.string ⟨b.toArray⟩] w fun e w' => e = .returned (.string ⟨(plainL b).toArray⟩) ∧ w = w' := by
  rcases hb with rfl | rfl | rfl
  · go_enter Tryz.func186, Tryz.ntmps186
    go_wp2_with fail
    go_ret
    exact ⟨rfl, rfl⟩
  · go_enter Tryz.func186, Tryz.ntmps186
    go_wp2_with fail
    go_ret
    exact ⟨rfl, rfl⟩
  · go_enter Tryz.func186, Tryz.ntmps186
    go_wp2_with fail
    go_ret
    exact ⟨rfl, rfl⟩
def signL (c : UInt8) : List UInt8 := if c = 91 then [91, 93] else [45]
theorem sStands_sign (v : Value) (c : UInt8) (t : List UInt8) (w : World) (hc : c = 91 ∨ c = 63) (hl : t.length ≤ 1000) :
    Calls Tryz.prog 161 #[v, .string ⟨(c :: t).toArray⟩] w fun e w' => e = .returned (.string ⟨(signL c).toArray⟩) ∧ w = w' := by
  rcases hc with rfl | rfl
  · go_enter Tryz.func161, Tryz.ntmps161
    go_wp2_with fail
    go_ret
    exact ⟨rfl, rfl⟩
  · go_enter Tryz.func161, Tryz.ntmps161
    go_wp2_with fail
    go_ret
    exact ⟨rfl, rfl⟩
theorem kd_letter {k : Kd} (h : kdOk k) (hs : k.signs = []) (hb : k.base ≠ [64]) : kdB k = k.base ∧ (k.base = [110] ∨ k.base = [116] ∨ k.base = [102]) := by
  refine ⟨by unfold kdB coreB; rw [hs, if_neg hb]; rfl, ?_⟩
  rcases h.2.1 with h | h
  · exact absurd h.1 hb
  · exact h.1
theorem sStands_letter (v : Value) (xs : List (Ty × Value)) (k : Kd) (w : World) (hsc : SSc w v xs) (hk : kdOk k) (hs : k.signs = []) (hb : k.base ≠ [64]) :
    Calls Tryz.prog 161 #[v, .string ⟨(kdB k).toArray⟩] w fun e w' => e = .returned (.string ⟨(plainL k.base).toArray⟩) ∧ Below w.heap.size w w' := by
  have Hr := Lib.hid (fun W h => sRef_any v xs k W h hk)
  have hx : refX xs k = none := if_neg (fun h => hb h.2)
  rw [hx] at Hr
  obtain ⟨e1, e2⟩ := kd_letter hk hs hb
  rw [e1] at Hr ⊢
  have Hsc := Lib.hid hsc
  have Hp := Lib.hid (fun W => l3PlainK_any k.base W e2)
  have He2 := Lib.hid e2
  unfold styR sty0 at Hr
  generalize k.base = b at *
  clear hs hb e1 hsc hx
  obtain ⟨c, hc, t1, t2⟩ : ∃ c, b = [c] ∧ ((c.toNat : Int) == 91) = false ∧ ((c.toNat : Int) == 63) = false := by
    rcases e2 with rfl | rfl | rfl
    · exact ⟨110, rfl, by decide, by decide⟩
    · exact ⟨116, rfl, by decide, by decide⟩
    · exact ⟨102, rfl, by decide, by decide⟩
  clear e2
  subst hc
  go_enter Tryz.func161, Tryz.ntmps161
  go_wp2_with fail
  refine (Hr.out _ Hsc.out).mono ?_
  rintro e w1 ⟨rfl, hb1⟩
  go_wp2_with fail
  refine (Hp.out _).mono ?_
  rintro e w2 ⟨rfl, rfl⟩
  go_wp2_with fail
  go_ret
  exact ⟨rfl, hb1.alloc hb1.size _⟩
end Go.Proofs.YtcjfgbcdlcdeaaaGreatDoor
