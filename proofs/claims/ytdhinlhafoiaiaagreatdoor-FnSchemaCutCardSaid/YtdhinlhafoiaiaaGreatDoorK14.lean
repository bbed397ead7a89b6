/- Texts joined: IField, IType, App. Conditions: as each theorem names them. -/
import Derived.BigRegion
import Derived.BigQuiet
import Derived.Deep.QuietTactic
import Derived.Laws.AppendOwnNone
import Derived.Test.YtdhinlhafoiaiaaGreatDoorK01
import Derived.Test.YtdhinlhafoiaiaaGreatDoorK03
import Derived.Test.YtdhinlhafoiaiaaGreatDoorK13
/- readField of the program. -/
namespace Go.Proofs.YtdhinlhafoiaiaaGreatDoor
open Go.RowKit
set_option maxRecDepth 100000
set_option linter.unusedVariables false
set_option linter.unusedSimpArgs false
attribute [local go_sem] ba_get ba_toList ba_extract take_drop_all ByteArray.mk_append_mk

theorem cutL_len (c : UInt8) (s : List UInt8) : (cutL c s).1.length ≤ s.length ∧ (cutL c s).2.1.length ≤ s.length := by
  rcases cutL_cases c s with ⟨_, h⟩ | ⟨p, t, rfl, _, h⟩
  · rw [h]; simp
  · rw [h]; simp; omega
/-- Field by parts. -/
def fieldP (st : UInt8) (ps : List (List UInt8)) (vl : List UInt8) (td : Bool) : Option Fd :=
  if st = 69 then
    match fdL2 ps with
    | some (n, b) => if td = true then none else some ⟨n, b, Kd.nil, vl⟩
    | none => none
  else
    match fdL3 ps with
    | some (n, b, c) => (match kindL c with
      | some k => if td = true ∧ ¬ (st = 82 ∧ k.signs = [] ∧ standOk k.base vl = true) then none else some ⟨n, b, k, vl⟩
      | none => none)
    | none => none
theorem fieldP_eq (st : UInt8) (s : List UInt8) : fieldI st s = fieldP st (splitL 58 (cutL 61 s).1) (cutL 61 s).2.1 (cutL 61 s).2.2 := rfl
theorem fieldP_len {st : UInt8} {ps : List (List UInt8)} {vl : List UInt8} {td : Bool} (h : ps.length ≠ if st = 69 then 2 else 3) : fieldP st ps vl td = none := by
  unfold fieldP
  by_cases e : st = 69
  · rw [if_pos e] at h ⊢
    match ps, h with
    | [], _ => rfl
    | [_], _ => rfl
    | [_, _], h => exact absurd rfl h
    | _ :: _ :: _ :: _, _ => rfl
  · rw [if_neg e] at h ⊢
    match ps, h with
    | [], _ => rfl
    | [_], _ => rfl
    | [_, _], _ => rfl
    | [_, _, _], h => exact absurd rfl h
    | _ :: _ :: _ :: _ :: _, _ => rfl
/-- The first two parts. -/
def headOk (a b : List UInt8) (n : Nat) : Prop := decL a = some n ∧ 1 ≤ n ∧ n ≤ 200 ∧ nameOk b = true
theorem fieldP_head {st : UInt8} {a b : List UInt8} {r : List (List UInt8)} {vl : List UInt8} {td : Bool} (h : ∀ n, ¬ headOk a b n) : fieldP st (a :: b :: r) vl td = none := by
  have h2 : ∀ c, fdL2 (a :: b :: c) = none := by
    intro c
    match c with
    | [] =>
      cases hd : decL a with
      | none => simp only [fdL2, hd]
      | some n => simp only [fdL2, hd]; exact if_neg fun (e : 1 ≤ n ∧ n ≤ 200 ∧ nameOk b = true) => h n ⟨hd, e.1, e.2.1, e.2.2⟩
    | _ :: _ => rfl
  have h3 : ∀ c, fdL3 (a :: b :: c) = none := by
    intro c
    match c with
    | [] => rfl
    | [x] =>
      cases hd : decL a with
      | none => simp only [fdL3, hd]
      | some n => simp only [fdL3, hd]; exact if_neg fun (e : 1 ≤ n ∧ n ≤ 200 ∧ nameOk b = true) => h n ⟨hd, e.1, e.2.1, e.2.2⟩
    | _ :: _ :: _ => rfl
  unfold fieldP
  rw [h2, h3]
  split <;> rfl
theorem fieldP_E {a b : List UInt8} {vl : List UInt8} {td : Bool} {n : Nat} (h : headOk a b n) : fieldP 69 [a, b] vl td = if td = true then none else some ⟨n, b, Kd.nil, vl⟩ := by
  obtain ⟨h1, h2, h3, h4⟩ := h
  unfold fieldP fdL2
  simp [h1, h2, h3, h4]
theorem fieldP_R {st : UInt8} {a b c : List UInt8} {vl : List UInt8} {td : Bool} {n : Nat} (hst : st ≠ 69) (h : headOk a b n) : fieldP st [a, b, c] vl td = (match kindL c with
      | some k => if td = true ∧ ¬ (st = 82 ∧ k.signs = [] ∧ standOk k.base vl = true) then none else some ⟨n, b, k, vl⟩
      | none => none) := by
  obtain ⟨h1, h2, h3, h4⟩ := h
  unfold fieldP fdL3
  simp [h1, h2, h3, h4, hst]
theorem base_baseL {k : Kd} (h : baseOk k) : baseL k.base := by
  rcases h with ⟨h, _⟩ | ⟨h | h | h, _⟩
  · exact .inr (.inr (.inr h))
  · exact .inl h
  · exact .inr (.inl h)
  · exact .inr (.inr (.inl h))
/-- A texts' row of two or three. -/
theorem parts2 {ps : List (List UInt8)} (h : ps.length = 2) : ∃ a b, ps = [a, b] := by
  match ps, h with
  | [a, b], _ => exact ⟨a, b, rfl⟩
theorem parts3 {ps : List (List UInt8)} (h : ps.length = 3) : ∃ a b c, ps = [a, b, c] := by
  match ps, h with
  | [a, b, c], _ => exact ⟨a, b, c, rfl⟩
theorem there_drewN {w : World} {b o n : Nat} (h : w.there b o n) (k : Nat) : (w.drewN k).there b o n := by
  induction k generalizing w with
  | zero => exact h
  | succ k ih => exact ih (by simpa using h)
set_option maxHeartbeats 1000000 in
theorem iField_E (st : UInt8) (hst : st = 69) (s : List UInt8) (w : World) (hs : s.length ≤ 4000000) :
    Calls Tryz.prog 152 #[.string ⟨s.toArray⟩, .int .u8 (st.toNat : Int)] w (IfPost (fieldI st s) w) := by
  have HF := Lib.hid (fieldP_eq st s)
  have Hcut := Lib.hid (fun W => Cut_any s 61 W (by omega))
  have hcl := (cutL_len 61 s).1
  have hvl := (cutL_len 61 s).2
  generalize cutL 61 s = r at HF Hcut hcl hvl
  obtain ⟨hd, vl, td⟩ := r
  simp only at hcl hvl HF
  have Hsp := Lib.hid (fun W => Split_any hd 58 W (by omega))
  have hne := splitL_ne 58 hd
  have Hpl := Lib.hid (splitL_plen 58 hd)
  generalize splitL 58 hd = ps at HF Hsp hne Hpl
  have e69 : ((st.toNat : Int) == 69) = true := byte_eq hst
  have n69 : ((st.toNat : Int) != 69) = false := bne_byte_no hst
  have Hst0 := Lib.hid hst
  clear hst
  go_enter Tryz.func152, Tryz.ntmps152
  go_wp2_with fail
  refine (Hcut.out _).mono ?_
  rintro e w1 ⟨rfl, k1, rfl⟩
  unfold cutV
  go_wp2_with fail
  refine (Hsp.out _).mono ?_
  rintro e w2 ⟨v, rfl, ho, hb⟩
  obtain ⟨g, c, rfl, hg1, hg2, hcells⟩ := own_texts ho hne
  have hzz : w.heap.size < w2.heap.size := by have := hb.size; simp at this; omega
  have HT := Lib.hid (show w2.there w.heap.size 0 6 from there_below (there_drewN (there_new w [.int .i64 0, .string ⟨#[]⟩, .string ⟨#[]⟩, .string ⟨#[]⟩, .string ⟨#[]⟩, .string ⟨#[]⟩] 94) k1) (by simp) hb)
  have Hb := Lib.hid (show Below w.heap.size w w2 from (below_drewN ((Below.refl w.heap.size w).alloc (Nat.le_refl _) _) k1).trans (hb.mono (by simp)))
  have Hcells := Lib.hid hcells
  clear hb ho hcells hne
  by_cases hlen : ps.length = 2
  · obtain ⟨a, b, rfl⟩ := parts2 hlen
    have c0 := Hcells.out 0 (by simp)
    have c1 := Hcells.out 1 (by simp)
    simp at c0 c1
    have la : a.length ≤ 4000000 := by have := Hpl.out a (by simp); omega
    have lb : b.length ≤ 4000000 := by have := Hpl.out b (by simp); omega
    clear Hpl Hcells hlen
    have hpn := fun W => (show Calls Tryz.prog 179 #[.string ⟨a.toArray⟩, .int .i64 200] W fun e w' => e = .returned (pnV a 200) ∧ W = w' from plainNumber_any a 200 W (by omega) (by decide))
    have Hhead := Lib.hid (show ∀ n, headOk a b n ↔ decL a = some n ∧ 1 ≤ n ∧ n ≤ 200 ∧ nameOk b = true from fun n => Iff.rfl)
    have Hno := Lib.hid (fun (h : ∀ n, ¬ headOk a b n) => HF.out.trans (fieldP_head h))
    generalize hda : decL a = od at *
    have Hda := Lib.hid hda
    clear hda
    cases od with
    | none =>
      have Hpn := Lib.hid (fun W => (pnV_no (m := 200) Hda.out) ▸ hpn W)
      clear hpn
      go_wp2_with fail
      refine (Hpn.out _).mono ?_
      rintro e w3 ⟨rfl, rfl⟩
      go_wp2_with ((with_reducible refine wpList_store_hid (op := ⟨none, .store 94 _ _, _, _, _, none⟩) rfl 94 _ _ rfl w.heap.size 0 [.int .i64 0, .string ⟨#[]⟩, .string ⟨#[]⟩, .string ⟨#[]⟩, .string ⟨#[]⟩, .string ⟨#[]⟩] ?_ ?_ ?_ ?_ ?_ ?_); rfl; rfl; (first | exact World.there_alloc HT.out _ | exact HT.out); kernel_rfl; (simp [Value.oneCell']); intro w9 HS9)
      have HZ := Lib.hid (show w9.rangeAt w.heap.size 0 [.int .i64 0, .string ⟨#[]⟩, .string ⟨#[]⟩, .string ⟨#[]⟩, .string ⟨#[]⟩, .string ⟨#[]⟩] from by rw [HS9.out]; exact World.rangeAt_setCells_same _ _ _ _ (by first | exact World.there_alloc HT.out _ | exact HT.out))
      refine bodyPost_ret (v := .tuple #[.agg ([.int .i64 0, .string ⟨#[]⟩, .string ⟨#[]⟩, .string ⟨#[]⟩, .string ⟨#[]⟩, .string ⟨#[]⟩] : List Value).toArray, .bool false]) ?_ rfl ?_
      · exact results_cell_tmp Tryz.results152 _ _ w.heap.size [.int .i64 0, .string ⟨#[]⟩, .string ⟨#[]⟩, .string ⟨#[]⟩, .string ⟨#[]⟩, .string ⟨#[]⟩] _ _ rfl rfl HZ.out Tryz.underlying94 rfl (by kernel_rfl)
      · exact IfPost.no (Hno.out (fun n h => by have := ((Hhead.out n).1 h).1; cases this)) rfl (by rw [HS9.out]; refine below_setCells _ (Nat.le_refl _) _ _ _ ?_; first | with_reducible exact Hb.out | exact Hb.out.alloc Hb.out.size _)
    | some n =>
      have Hpn := Lib.hid (fun W => (pnV_yes (m := 200) Hda.out) ▸ hpn W)
      clear hpn
      have hn9 : n ≤ 999999 := (decL_some.1 Hda.out).1
      rcases Nat.lt_or_ge 200 n with h200 | h200
      · have Hdec := Lib.hid (show decide (n ≤ 200) = false by simp; omega)
        rw [Hdec.out] at Hpn
        go_wp2_with fail
        refine (Hpn.out _).mono ?_
        rintro e w3 ⟨rfl, rfl⟩
        go_wp2_with ((with_reducible refine wpList_store_hid (op := ⟨none, .store 94 _ _, _, _, _, none⟩) rfl 94 _ _ rfl w.heap.size 0 [.int .i64 0, .string ⟨#[]⟩, .string ⟨#[]⟩, .string ⟨#[]⟩, .string ⟨#[]⟩, .string ⟨#[]⟩] ?_ ?_ ?_ ?_ ?_ ?_); rfl; rfl; (first | exact World.there_alloc HT.out _ | exact HT.out); kernel_rfl; (simp [Value.oneCell']); intro w9 HS9)
        have HZ := Lib.hid (show w9.rangeAt w.heap.size 0 [.int .i64 0, .string ⟨#[]⟩, .string ⟨#[]⟩, .string ⟨#[]⟩, .string ⟨#[]⟩, .string ⟨#[]⟩] from by rw [HS9.out]; exact World.rangeAt_setCells_same _ _ _ _ (by first | exact World.there_alloc HT.out _ | exact HT.out))
        refine bodyPost_ret (v := .tuple #[.agg ([.int .i64 0, .string ⟨#[]⟩, .string ⟨#[]⟩, .string ⟨#[]⟩, .string ⟨#[]⟩, .string ⟨#[]⟩] : List Value).toArray, .bool false]) ?_ rfl ?_
        · exact results_cell_tmp Tryz.results152 _ _ w.heap.size [.int .i64 0, .string ⟨#[]⟩, .string ⟨#[]⟩, .string ⟨#[]⟩, .string ⟨#[]⟩, .string ⟨#[]⟩] _ _ rfl rfl HZ.out Tryz.underlying94 rfl (by kernel_rfl)
        · exact IfPost.no (Hno.out (fun m h => by have h' := (Hhead.out m).1 h; have := h'.1; cases this; omega)) rfl (by rw [HS9.out]; refine below_setCells _ (Nat.le_refl _) _ _ _ ?_; first | with_reducible exact Hb.out | exact Hb.out.alloc Hb.out.size _)
      · have Hdec := Lib.hid (show decide (n ≤ 200) = true by simp; omega)
        rw [Hdec.out] at Hpn
        rcases Nat.eq_zero_or_pos n with h0 | h0
        · subst h0
          go_wp2_with fail
          refine (Hpn.out _).mono ?_
          rintro e w3 ⟨rfl, rfl⟩
          go_wp2_with ((with_reducible refine wpList_store_hid (op := ⟨none, .store 94 _ _, _, _, _, none⟩) rfl 94 _ _ rfl w.heap.size 0 [.int .i64 0, .string ⟨#[]⟩, .string ⟨#[]⟩, .string ⟨#[]⟩, .string ⟨#[]⟩, .string ⟨#[]⟩] ?_ ?_ ?_ ?_ ?_ ?_); rfl; rfl; (first | exact World.there_alloc HT.out _ | exact HT.out); kernel_rfl; (simp [Value.oneCell']); intro w9 HS9)
          have HZ := Lib.hid (show w9.rangeAt w.heap.size 0 [.int .i64 0, .string ⟨#[]⟩, .string ⟨#[]⟩, .string ⟨#[]⟩, .string ⟨#[]⟩, .string ⟨#[]⟩] from by rw [HS9.out]; exact World.rangeAt_setCells_same _ _ _ _ (by first | exact World.there_alloc HT.out _ | exact HT.out))
          refine bodyPost_ret (v := .tuple #[.agg ([.int .i64 0, .string ⟨#[]⟩, .string ⟨#[]⟩, .string ⟨#[]⟩, .string ⟨#[]⟩, .string ⟨#[]⟩] : List Value).toArray, .bool false]) ?_ rfl ?_
          · exact results_cell_tmp Tryz.results152 _ _ w.heap.size [.int .i64 0, .string ⟨#[]⟩, .string ⟨#[]⟩, .string ⟨#[]⟩, .string ⟨#[]⟩, .string ⟨#[]⟩] _ _ rfl rfl HZ.out Tryz.underlying94 rfl (by kernel_rfl)
          · exact IfPost.no (Hno.out (fun m h => by have h' := (Hhead.out m).1 h; have := h'.1; cases this; omega)) rfl (by rw [HS9.out]; refine below_setCells _ (Nat.le_refl _) _ _ _ ?_; first | with_reducible exact Hb.out | exact Hb.out.alloc Hb.out.size _)
        · have hlt1 : decide ((n : Int) < 1) = false := by rw [decide_eq_false_iff_not]; omega
          have Hname := Lib.hid (fun W => isName_any b W (by omega))
          generalize hnb : nameOk b = nb at *
          have Hnb := Lib.hid hnb
          clear hnb
          go_wp2_with fail
          refine (Hpn.out _).mono ?_
          rintro e w3 ⟨rfl, rfl⟩
          go_wp2_with fail
          refine (Hname.out _).mono ?_
          rintro e w4 ⟨rfl, hb4⟩
          have hz4 : w2.heap.size < w4.heap.size := by have := hb4.size; simp at this; omega
          have HT4 := Lib.hid (show w4.there w.heap.size 0 6 from there_below (World.there_alloc HT.out _) (by simp; omega) hb4)
          have HR4 := Lib.hid (show w4.rangeAt w2.heap.size 0 [.int .i64 (n : Int), .string ⟨b.toArray⟩, .string ⟨#[]⟩, .string ⟨#[]⟩, .string ⟨#[]⟩, .string ⟨vl.toArray⟩] from rangeAt_below (rangeAt_new w2 _ _) (by simp) hb4)
          have HK4 := Lib.hid (show w4.there w2.heap.size 0 6 from there_below (there_new w2 [.int .i64 (n : Int), .string ⟨b.toArray⟩, .string ⟨#[]⟩, .string ⟨#[]⟩, .string ⟨#[]⟩, .string ⟨vl.toArray⟩] _) (by simp) hb4)
          have Hb4 := Lib.hid (show Below w.heap.size w w4 from (Hb.out.alloc Hb.out.size _).trans (hb4.mono (by simp; omega)))
          clear hb4
          cases nb with
          | false =>
            go_wp2_with ((with_reducible refine wpList_store_hid (op := ⟨none, .store 94 _ _, _, _, _, none⟩) rfl 94 _ _ rfl w.heap.size 0 [.int .i64 0, .string ⟨#[]⟩, .string ⟨#[]⟩, .string ⟨#[]⟩, .string ⟨#[]⟩, .string ⟨#[]⟩] ?_ ?_ ?_ ?_ ?_ ?_); rfl; rfl; (first | exact World.there_alloc HT4.out _ | exact HT4.out); kernel_rfl; (simp [Value.oneCell']); intro w9 HS9)
            have HZ := Lib.hid (show w9.rangeAt w.heap.size 0 [.int .i64 0, .string ⟨#[]⟩, .string ⟨#[]⟩, .string ⟨#[]⟩, .string ⟨#[]⟩, .string ⟨#[]⟩] from by rw [HS9.out]; exact World.rangeAt_setCells_same _ _ _ _ (by first | exact World.there_alloc HT4.out _ | exact HT4.out))
            refine bodyPost_ret (v := .tuple #[.agg ([.int .i64 0, .string ⟨#[]⟩, .string ⟨#[]⟩, .string ⟨#[]⟩, .string ⟨#[]⟩, .string ⟨#[]⟩] : List Value).toArray, .bool false]) ?_ rfl ?_
            · exact results_cell_tmp Tryz.results152 _ _ w.heap.size [.int .i64 0, .string ⟨#[]⟩, .string ⟨#[]⟩, .string ⟨#[]⟩, .string ⟨#[]⟩, .string ⟨#[]⟩] _ _ rfl rfl HZ.out Tryz.underlying94 rfl (by kernel_rfl)
            · exact IfPost.no (Hno.out (fun m h => by have := ((Hhead.out m).1 h).2.2.2; cases this)) rfl (by rw [HS9.out]; refine below_setCells _ (Nat.le_refl _) _ _ _ ?_; first | with_reducible exact Hb4.out | exact Hb4.out.alloc Hb4.out.size _)
          | true =>
            have Hok := Lib.hid (show headOk a b n from (Hhead.out n).2 ⟨rfl, h0, h200, rfl⟩)
            have HF2 := Lib.hid (HF.out.trans (show fieldP st [a, b] vl td = if td = true then none else some ⟨n, b, Kd.nil, vl⟩ from by rw [Hst0.out]; exact fieldP_E Hok.out))
            clear Hno Hhead HF
            have n82 : ((st.toNat : Int) != 82) = true := bne_byte (c := st) (d := 82) (by rw [Hst0.out]; decide)
            cases td with
            | true =>
              go_wp2_with ((with_reducible refine wpList_store_hid (op := ⟨none, .store 94 _ _, _, _, _, none⟩) rfl 94 _ _ rfl w.heap.size 0 [.int .i64 0, .string ⟨#[]⟩, .string ⟨#[]⟩, .string ⟨#[]⟩, .string ⟨#[]⟩, .string ⟨#[]⟩] ?_ ?_ ?_ ?_ ?_ ?_); rfl; rfl; (first | exact World.there_alloc HT4.out _ | exact HT4.out); kernel_rfl; (simp [Value.oneCell']); intro w9 HS9)
              have HZ := Lib.hid (show w9.rangeAt w.heap.size 0 [.int .i64 0, .string ⟨#[]⟩, .string ⟨#[]⟩, .string ⟨#[]⟩, .string ⟨#[]⟩, .string ⟨#[]⟩] from by rw [HS9.out]; exact World.rangeAt_setCells_same _ _ _ _ (by first | exact World.there_alloc HT4.out _ | exact HT4.out))
              refine bodyPost_ret (v := .tuple #[.agg ([.int .i64 0, .string ⟨#[]⟩, .string ⟨#[]⟩, .string ⟨#[]⟩, .string ⟨#[]⟩, .string ⟨#[]⟩] : List Value).toArray, .bool false]) ?_ rfl ?_
              · exact results_cell_tmp Tryz.results152 _ _ w.heap.size [.int .i64 0, .string ⟨#[]⟩, .string ⟨#[]⟩, .string ⟨#[]⟩, .string ⟨#[]⟩, .string ⟨#[]⟩] _ _ rfl rfl HZ.out Tryz.underlying94 rfl (by kernel_rfl)
              · exact IfPost.no (HF2.out.trans (by simp)) rfl (by rw [HS9.out]; refine below_setCells _ (Nat.le_refl _) _ _ _ ?_; first | with_reducible exact Hb4.out | exact Hb4.out.alloc Hb4.out.size _)
            | false =>
              go_wp2_with (first | ((with_reducible refine wpList_store_hid (op := ⟨none, .store 94 _ _, _, _, _, none⟩) rfl 94 _ _ rfl w.heap.size 0 [.int .i64 (n : Int), .string ⟨b.toArray⟩, .string ⟨#[]⟩, .string ⟨#[]⟩, .string ⟨#[]⟩, .string ⟨vl.toArray⟩] ?_ ?_ ?_ ?_ ?_ ?_); rfl; rfl; (first | exact World.there_alloc HT4.out _ | exact HT4.out); kernel_rfl; (simp [Value.oneCell']); intro w9 HS9) | ((with_reducible refine wpList_load_mid (op := ⟨_, .load 94 _, _, _, _, none⟩) rfl 94 _ rfl w2.heap.size 0 ?_ [.int .i64 (n : Int), .string ⟨b.toArray⟩, .string ⟨#[]⟩, .string ⟨#[]⟩, .string ⟨#[]⟩, .string ⟨vl.toArray⟩] _ HR4.out Tryz.underlying94 ?_ ?_ ?_); rfl; rfl; kernel_rfl))
              have HZ := Lib.hid (show w9.rangeAt w.heap.size 0 [.int .i64 (n : Int), .string ⟨b.toArray⟩, .string ⟨#[]⟩, .string ⟨#[]⟩, .string ⟨#[]⟩, .string ⟨vl.toArray⟩] from by rw [HS9.out]; exact World.rangeAt_setCells_same _ _ _ _ (by first | exact World.there_alloc HT4.out _ | exact HT4.out))
              refine bodyPost_ret (v := .tuple #[.agg ([.int .i64 (n : Int), .string ⟨b.toArray⟩, .string ⟨#[]⟩, .string ⟨#[]⟩, .string ⟨#[]⟩, .string ⟨vl.toArray⟩] : List Value).toArray, .bool true]) ?_ rfl ?_
              · exact results_cell_tmp Tryz.results152 _ _ w.heap.size [.int .i64 (n : Int), .string ⟨b.toArray⟩, .string ⟨#[]⟩, .string ⟨#[]⟩, .string ⟨#[]⟩, .string ⟨vl.toArray⟩] _ _ rfl rfl HZ.out Tryz.underlying94 rfl (by kernel_rfl)
              · exact IfPost.yes (HF2.out.trans (if_neg (fun h => by cases h))) rfl (by rw [HS9.out]; refine below_setCells _ (Nat.le_refl _) _ _ _ ?_; first | with_reducible exact Hb4.out | exact Hb4.out.alloc Hb4.out.size _)
  · have Hno := Lib.hid (HF.out.trans (fieldP_len (vl := vl) (td := td) (st := st) (ps := ps) (by rw [if_pos Hst0.out]; exact hlen)))
    have hl1 : ¬ (ps.length : Int) = 2 := by omega
    have hl2 : ((ps.length : Int) != 2) = true := by rw [bne_iff_ne]; exact hl1
    clear HF Hpl Hcells
    go_wp2_with ((with_reducible refine wpList_store_hid (op := ⟨none, .store 94 _ _, _, _, _, none⟩) rfl 94 _ _ rfl w.heap.size 0 [.int .i64 0, .string ⟨#[]⟩, .string ⟨#[]⟩, .string ⟨#[]⟩, .string ⟨#[]⟩, .string ⟨#[]⟩] ?_ ?_ ?_ ?_ ?_ ?_); rfl; rfl; (first | exact World.there_alloc HT.out _ | exact HT.out); kernel_rfl; (simp [Value.oneCell']); intro w9 HS9)
    have HZ := Lib.hid (show w9.rangeAt w.heap.size 0 [.int .i64 0, .string ⟨#[]⟩, .string ⟨#[]⟩, .string ⟨#[]⟩, .string ⟨#[]⟩, .string ⟨#[]⟩] from by rw [HS9.out]; exact World.rangeAt_setCells_same _ _ _ _ (by first | exact World.there_alloc HT.out _ | exact HT.out))
    refine bodyPost_ret (v := .tuple #[.agg ([.int .i64 0, .string ⟨#[]⟩, .string ⟨#[]⟩, .string ⟨#[]⟩, .string ⟨#[]⟩, .string ⟨#[]⟩] : List Value).toArray, .bool false]) ?_ rfl ?_
    · exact results_cell_tmp Tryz.results152 _ _ w.heap.size [.int .i64 0, .string ⟨#[]⟩, .string ⟨#[]⟩, .string ⟨#[]⟩, .string ⟨#[]⟩, .string ⟨#[]⟩] _ _ rfl rfl HZ.out Tryz.underlying94 rfl (by kernel_rfl)
    · exact IfPost.no Hno.out rfl (by rw [HS9.out]; refine below_setCells _ (Nat.le_refl _) _ _ _ ?_; first | with_reducible exact Hb.out | exact Hb.out.alloc Hb.out.size _)
set_option maxHeartbeats 1000000 in
theorem iField_R (st : UInt8) (hst : st ≠ 69) (s : List UInt8) (w : World) (hs : s.length ≤ 4000000) :
    Calls Tryz.prog 152 #[.string ⟨s.toArray⟩, .int .u8 (st.toNat : Int)] w (IfPost (fieldI st s) w) := by
  have HF := Lib.hid (fieldP_eq st s)
  have Hcut := Lib.hid (fun W => Cut_any s 61 W (by omega))
  have hcl := (cutL_len 61 s).1
  have hvl := (cutL_len 61 s).2
  generalize cutL 61 s = r at HF Hcut hcl hvl
  obtain ⟨hd, vl, td⟩ := r
  simp only at hcl hvl HF
  have Hsp := Lib.hid (fun W => Split_any hd 58 W (by omega))
  have hne := splitL_ne 58 hd
  have Hpl := Lib.hid (splitL_plen 58 hd)
  generalize splitL 58 hd = ps at HF Hsp hne Hpl
  have e69 : ((st.toNat : Int) == 69) = false := byte_ne hst
  have n69 : ((st.toNat : Int) != 69) = true := bne_byte hst
  have Hst0 := Lib.hid hst
  clear hst
  go_enter Tryz.func152, Tryz.ntmps152
  go_wp2_with fail
  refine (Hcut.out _).mono ?_
  rintro e w1 ⟨rfl, k1, rfl⟩
  unfold cutV
  go_wp2_with fail
  refine (Hsp.out _).mono ?_
  rintro e w2 ⟨v, rfl, ho, hb⟩
  obtain ⟨g, c, rfl, hg1, hg2, hcells⟩ := own_texts ho hne
  have hzz : w.heap.size < w2.heap.size := by have := hb.size; simp at this; omega
  have HT := Lib.hid (show w2.there w.heap.size 0 6 from there_below (there_drewN (there_new w [.int .i64 0, .string ⟨#[]⟩, .string ⟨#[]⟩, .string ⟨#[]⟩, .string ⟨#[]⟩, .string ⟨#[]⟩] 94) k1) (by simp) hb)
  have Hb := Lib.hid (show Below w.heap.size w w2 from (below_drewN ((Below.refl w.heap.size w).alloc (Nat.le_refl _) _) k1).trans (hb.mono (by simp)))
  have Hcells := Lib.hid hcells
  clear hb ho hcells hne
  by_cases hlen : ps.length = 3
  · obtain ⟨a, b, d, rfl⟩ := parts3 hlen
    have c0 := Hcells.out 0 (by simp)
    have c1 := Hcells.out 1 (by simp)
    have c2 := Hcells.out 2 (by simp)
    simp at c0 c1 c2
    have la : a.length ≤ 4000000 := by have := Hpl.out a (by simp); omega
    have lb : b.length ≤ 4000000 := by have := Hpl.out b (by simp); omega
    have ld : d.length ≤ 4000000 := by have := Hpl.out d (by simp); omega
    clear Hpl Hcells hlen
    have hpn := fun W => (show Calls Tryz.prog 179 #[.string ⟨a.toArray⟩, .int .i64 200] W fun e w' => e = .returned (pnV a 200) ∧ W = w' from plainNumber_any a 200 W (by omega) (by decide))
    have Hhead := Lib.hid (show ∀ n, headOk a b n ↔ decL a = some n ∧ 1 ≤ n ∧ n ≤ 200 ∧ nameOk b = true from fun n => Iff.rfl)
    have Hno := Lib.hid (fun (h : ∀ n, ¬ headOk a b n) => HF.out.trans (fieldP_head h))
    generalize hda : decL a = od at *
    have Hda := Lib.hid hda
    clear hda
    cases od with
    | none =>
      have Hpn := Lib.hid (fun W => (pnV_no (m := 200) Hda.out) ▸ hpn W)
      clear hpn
      go_wp2_with fail
      refine (Hpn.out _).mono ?_
      rintro e w3 ⟨rfl, rfl⟩
      go_wp2_with ((with_reducible refine wpList_store_hid (op := ⟨none, .store 94 _ _, _, _, _, none⟩) rfl 94 _ _ rfl w.heap.size 0 [.int .i64 0, .string ⟨#[]⟩, .string ⟨#[]⟩, .string ⟨#[]⟩, .string ⟨#[]⟩, .string ⟨#[]⟩] ?_ ?_ ?_ ?_ ?_ ?_); rfl; rfl; (first | exact World.there_alloc HT.out _ | exact HT.out); kernel_rfl; (simp [Value.oneCell']); intro w9 HS9)
      have HZ := Lib.hid (show w9.rangeAt w.heap.size 0 [.int .i64 0, .string ⟨#[]⟩, .string ⟨#[]⟩, .string ⟨#[]⟩, .string ⟨#[]⟩, .string ⟨#[]⟩] from by rw [HS9.out]; exact World.rangeAt_setCells_same _ _ _ _ (by first | exact World.there_alloc HT.out _ | exact HT.out))
      refine bodyPost_ret (v := .tuple #[.agg ([.int .i64 0, .string ⟨#[]⟩, .string ⟨#[]⟩, .string ⟨#[]⟩, .string ⟨#[]⟩, .string ⟨#[]⟩] : List Value).toArray, .bool false]) ?_ rfl ?_
      · exact results_cell_tmp Tryz.results152 _ _ w.heap.size [.int .i64 0, .string ⟨#[]⟩, .string ⟨#[]⟩, .string ⟨#[]⟩, .string ⟨#[]⟩, .string ⟨#[]⟩] _ _ rfl rfl HZ.out Tryz.underlying94 rfl (by kernel_rfl)
      · exact IfPost.no (Hno.out (fun n h => by have := ((Hhead.out n).1 h).1; cases this)) rfl (by rw [HS9.out]; refine below_setCells _ (Nat.le_refl _) _ _ _ ?_; first | with_reducible exact Hb.out | exact Hb.out.alloc Hb.out.size _)
    | some n =>
      have Hpn := Lib.hid (fun W => (pnV_yes (m := 200) Hda.out) ▸ hpn W)
      clear hpn
      have hn9 : n ≤ 999999 := (decL_some.1 Hda.out).1
      rcases Nat.lt_or_ge 200 n with h200 | h200
      · have Hdec := Lib.hid (show decide (n ≤ 200) = false by simp; omega)
        rw [Hdec.out] at Hpn
        go_wp2_with fail
        refine (Hpn.out _).mono ?_
        rintro e w3 ⟨rfl, rfl⟩
        go_wp2_with ((with_reducible refine wpList_store_hid (op := ⟨none, .store 94 _ _, _, _, _, none⟩) rfl 94 _ _ rfl w.heap.size 0 [.int .i64 0, .string ⟨#[]⟩, .string ⟨#[]⟩, .string ⟨#[]⟩, .string ⟨#[]⟩, .string ⟨#[]⟩] ?_ ?_ ?_ ?_ ?_ ?_); rfl; rfl; (first | exact World.there_alloc HT.out _ | exact HT.out); kernel_rfl; (simp [Value.oneCell']); intro w9 HS9)
        have HZ := Lib.hid (show w9.rangeAt w.heap.size 0 [.int .i64 0, .string ⟨#[]⟩, .string ⟨#[]⟩, .string ⟨#[]⟩, .string ⟨#[]⟩, .string ⟨#[]⟩] from by rw [HS9.out]; exact World.rangeAt_setCells_same _ _ _ _ (by first | exact World.there_alloc HT.out _ | exact HT.out))
        refine bodyPost_ret (v := .tuple #[.agg ([.int .i64 0, .string ⟨#[]⟩, .string ⟨#[]⟩, .string ⟨#[]⟩, .string ⟨#[]⟩, .string ⟨#[]⟩] : List Value).toArray, .bool false]) ?_ rfl ?_
        · exact results_cell_tmp Tryz.results152 _ _ w.heap.size [.int .i64 0, .string ⟨#[]⟩, .string ⟨#[]⟩, .string ⟨#[]⟩, .string ⟨#[]⟩, .string ⟨#[]⟩] _ _ rfl rfl HZ.out Tryz.underlying94 rfl (by kernel_rfl)
        · exact IfPost.no (Hno.out (fun m h => by have h' := (Hhead.out m).1 h; have := h'.1; cases this; omega)) rfl (by rw [HS9.out]; refine below_setCells _ (Nat.le_refl _) _ _ _ ?_; first | with_reducible exact Hb.out | exact Hb.out.alloc Hb.out.size _)
      · have Hdec := Lib.hid (show decide (n ≤ 200) = true by simp; omega)
        rw [Hdec.out] at Hpn
        rcases Nat.eq_zero_or_pos n with h0 | h0
        · subst h0
          go_wp2_with fail
          refine (Hpn.out _).mono ?_
          rintro e w3 ⟨rfl, rfl⟩
          go_wp2_with ((with_reducible refine wpList_store_hid (op := ⟨none, .store 94 _ _, _, _, _, none⟩) rfl 94 _ _ rfl w.heap.size 0 [.int .i64 0, .string ⟨#[]⟩, .string ⟨#[]⟩, .string ⟨#[]⟩, .string ⟨#[]⟩, .string ⟨#[]⟩] ?_ ?_ ?_ ?_ ?_ ?_); rfl; rfl; (first | exact World.there_alloc HT.out _ | exact HT.out); kernel_rfl; (simp [Value.oneCell']); intro w9 HS9)
          have HZ := Lib.hid (show w9.rangeAt w.heap.size 0 [.int .i64 0, .string ⟨#[]⟩, .string ⟨#[]⟩, .string ⟨#[]⟩, .string ⟨#[]⟩, .string ⟨#[]⟩] from by rw [HS9.out]; exact World.rangeAt_setCells_same _ _ _ _ (by first | exact World.there_alloc HT.out _ | exact HT.out))
          refine bodyPost_ret (v := .tuple #[.agg ([.int .i64 0, .string ⟨#[]⟩, .string ⟨#[]⟩, .string ⟨#[]⟩, .string ⟨#[]⟩, .string ⟨#[]⟩] : List Value).toArray, .bool false]) ?_ rfl ?_
          · exact results_cell_tmp Tryz.results152 _ _ w.heap.size [.int .i64 0, .string ⟨#[]⟩, .string ⟨#[]⟩, .string ⟨#[]⟩, .string ⟨#[]⟩, .string ⟨#[]⟩] _ _ rfl rfl HZ.out Tryz.underlying94 rfl (by kernel_rfl)
          · exact IfPost.no (Hno.out (fun m h => by have h' := (Hhead.out m).1 h; have := h'.1; cases this; omega)) rfl (by rw [HS9.out]; refine below_setCells _ (Nat.le_refl _) _ _ _ ?_; first | with_reducible exact Hb.out | exact Hb.out.alloc Hb.out.size _)
        · have hlt1 : decide ((n : Int) < 1) = false := by rw [decide_eq_false_iff_not]; omega
          have Hname := Lib.hid (fun W => isName_any b W (by omega))
          generalize hnb : nameOk b = nb at *
          have Hnb := Lib.hid hnb
          clear hnb
          go_wp2_with fail
          refine (Hpn.out _).mono ?_
          rintro e w3 ⟨rfl, rfl⟩
          go_wp2_with fail
          refine (Hname.out _).mono ?_
          rintro e w4 ⟨rfl, hb4⟩
          have hz4 : w2.heap.size < w4.heap.size := by have := hb4.size; simp at this; omega
          have HT4 := Lib.hid (show w4.there w.heap.size 0 6 from there_below (World.there_alloc HT.out _) (by simp; omega) hb4)
          have HR4 := Lib.hid (show w4.rangeAt w2.heap.size 0 [.int .i64 (n : Int), .string ⟨b.toArray⟩, .string ⟨#[]⟩, .string ⟨#[]⟩, .string ⟨#[]⟩, .string ⟨vl.toArray⟩] from rangeAt_below (rangeAt_new w2 _ _) (by simp) hb4)
          have HK4 := Lib.hid (show w4.there w2.heap.size 0 6 from there_below (there_new w2 [.int .i64 (n : Int), .string ⟨b.toArray⟩, .string ⟨#[]⟩, .string ⟨#[]⟩, .string ⟨#[]⟩, .string ⟨vl.toArray⟩] _) (by simp) hb4)
          have Hb4 := Lib.hid (show Below w.heap.size w w4 from (Hb.out.alloc Hb.out.size _).trans (hb4.mono (by simp; omega)))
          have c2x : w4.cell? ⟨g, 2, none⟩ = some (.string ⟨d.toArray⟩) := (hb4.cell (p := ⟨g, 2, none⟩) (by simp; omega)).trans (by rw [World.cell?_alloc_old _ _ _ (by simp; omega)]; exact c2)
          clear hb4
          cases nb with
          | false =>
            go_wp2_with ((with_reducible refine wpList_store_hid (op := ⟨none, .store 94 _ _, _, _, _, none⟩) rfl 94 _ _ rfl w.heap.size 0 [.int .i64 0, .string ⟨#[]⟩, .string ⟨#[]⟩, .string ⟨#[]⟩, .string ⟨#[]⟩, .string ⟨#[]⟩] ?_ ?_ ?_ ?_ ?_ ?_); rfl; rfl; (first | exact World.there_alloc HT4.out _ | exact HT4.out); kernel_rfl; (simp [Value.oneCell']); intro w9 HS9)
            have HZ := Lib.hid (show w9.rangeAt w.heap.size 0 [.int .i64 0, .string ⟨#[]⟩, .string ⟨#[]⟩, .string ⟨#[]⟩, .string ⟨#[]⟩, .string ⟨#[]⟩] from by rw [HS9.out]; exact World.rangeAt_setCells_same _ _ _ _ (by first | exact World.there_alloc HT4.out _ | exact HT4.out))
            refine bodyPost_ret (v := .tuple #[.agg ([.int .i64 0, .string ⟨#[]⟩, .string ⟨#[]⟩, .string ⟨#[]⟩, .string ⟨#[]⟩, .string ⟨#[]⟩] : List Value).toArray, .bool false]) ?_ rfl ?_
            · exact results_cell_tmp Tryz.results152 _ _ w.heap.size [.int .i64 0, .string ⟨#[]⟩, .string ⟨#[]⟩, .string ⟨#[]⟩, .string ⟨#[]⟩, .string ⟨#[]⟩] _ _ rfl rfl HZ.out Tryz.underlying94 rfl (by kernel_rfl)
            · exact IfPost.no (Hno.out (fun m h => by have := ((Hhead.out m).1 h).2.2.2; cases this)) rfl (by rw [HS9.out]; refine below_setCells _ (Nat.le_refl _) _ _ _ ?_; first | with_reducible exact Hb4.out | exact Hb4.out.alloc Hb4.out.size _)
          | true =>
            have Hok := Lib.hid (show headOk a b n from (Hhead.out n).2 ⟨rfl, h0, h200, rfl⟩)
            have HF2 := Lib.hid (HF.out.trans (fieldP_R (c := d) (vl := vl) (td := td) Hst0.out Hok.out))
            clear Hno Hhead HF
            have Hkd := Lib.hid (fun W => readKind_any d W ld)
            have Hkok := Lib.hid (fun k (h : kindL d = some k) => (kindL_some.1 h).1)
            generalize kindL d = ok at HF2 Hkd Hkok
            go_wp2_with fail
            refine (Hkd.out _).mono ?_
            rintro e w5 ⟨hcase, hb5⟩
            have HT5 := Lib.hid (show w5.there w.heap.size 0 6 from there_below HT4.out (by omega) hb5)
            have HR5 := Lib.hid (show w5.rangeAt w2.heap.size 0 _ from rangeAt_below HR4.out hz4 hb5)
            have HK5 := Lib.hid (show w5.there w2.heap.size 0 6 from there_below HK4.out hz4 hb5)
            have Hb5 := Lib.hid (Hb4.out.trans (hb5.mono Hb4.out.size))
            have hz5 : w2.heap.size < w5.heap.size := Nat.lt_of_lt_of_le hz4 hb5.size
            clear hb5
            cases ok with
            | none =>
              obtain ⟨a1, a2, a3, rfl⟩ := hcase
              go_wp2_with (first | ((with_reducible refine wpList_store_hid (op := ⟨none, .store 70 _ _, _, _, _, none⟩) rfl 70 _ _ rfl w2.heap.size 2 [.string a1, .string a2, .string a3] ?_ ?_ ?_ ?_ ?_ ?_); rfl; rfl; (exact there_sub HK5.out 2 3 (by decide) (by decide)); kernel_rfl; (simp [Value.oneCell']); intro w6 HS6; have HT6 := Lib.hid (show w6.there w.heap.size 0 6 from HS6.out ▸ World.there_setCells HT5.out _ _ _); have HR6 := Lib.hid (show w6.rangeAt w2.heap.size 0 [.int .i64 (n : Int), .string ⟨b.toArray⟩, .string a1, .string a2, .string a3, .string ⟨vl.toArray⟩] from HS6.out ▸ rangeAt_setCells_in [.int .i64 (n : Int), .string ⟨b.toArray⟩] [.string ⟨#[]⟩, .string ⟨#[]⟩, .string ⟨#[]⟩] [.string ⟨vl.toArray⟩] [.string a1, .string a2, .string a3] HR5.out rfl); have Hb6 := Lib.hid (show Below w.heap.size w w6 from HS6.out ▸ below_setCells _ (Nat.le_of_lt hzz) _ _ _ Hb5.out); have hz6 : w2.heap.size < w6.heap.size := (by rw [HS6.out, setCells_size]; exact hz5); have z2 : w6.cell? ⟨w2.heap.size, 2, none⟩ = some (.string a1) := (by simpa using rangeAt_cell HR6.out 2 rfl); have z3 : w6.cell? ⟨w2.heap.size, 3, none⟩ = some (.string a2) := (by simpa using rangeAt_cell HR6.out 3 rfl); clear HT5 HR5 HK5 HS6) | ((with_reducible refine wpList_store_hid (op := ⟨none, .store 94 _ _, _, _, _, none⟩) rfl 94 _ _ rfl w.heap.size 0 [.int .i64 0, .string ⟨#[]⟩, .string ⟨#[]⟩, .string ⟨#[]⟩, .string ⟨#[]⟩, .string ⟨#[]⟩] ?_ ?_ ?_ ?_ ?_ ?_); rfl; rfl; (first | exact World.there_alloc HT6.out _ | exact HT6.out); kernel_rfl; (simp [Value.oneCell']); intro w9 HS9))
              have HZ := Lib.hid (show w9.rangeAt w.heap.size 0 [.int .i64 0, .string ⟨#[]⟩, .string ⟨#[]⟩, .string ⟨#[]⟩, .string ⟨#[]⟩, .string ⟨#[]⟩] from by rw [HS9.out]; exact World.rangeAt_setCells_same _ _ _ _ (by first | exact World.there_alloc HT6.out _ | exact HT6.out))
              refine bodyPost_ret (v := .tuple #[.agg ([.int .i64 0, .string ⟨#[]⟩, .string ⟨#[]⟩, .string ⟨#[]⟩, .string ⟨#[]⟩, .string ⟨#[]⟩] : List Value).toArray, .bool false]) ?_ rfl ?_
              · exact results_cell_tmp Tryz.results152 _ _ w.heap.size [.int .i64 0, .string ⟨#[]⟩, .string ⟨#[]⟩, .string ⟨#[]⟩, .string ⟨#[]⟩, .string ⟨#[]⟩] _ _ rfl rfl HZ.out Tryz.underlying94 rfl (by kernel_rfl)
              · exact IfPost.no HF2.out rfl (by rw [HS9.out]; refine below_setCells _ (Nat.le_refl _) _ _ _ ?_; first | with_reducible exact Hb6.out | exact Hb6.out.alloc Hb6.out.size _)
            | some k =>
              have hcase' : e = .returned (.tuple #[.agg #[.string ⟨k.signs.toArray⟩, .string ⟨k.base.toArray⟩, .string ⟨k.name.toArray⟩], .bool true]) := hcase
              subst hcase'
              clear hcase
              have Hkk := Lib.hid (Hkok.out k rfl)
              have HF3 := Lib.hid (show fieldI st s = if td = true ∧ ¬ (st = 82 ∧ k.signs = [] ∧ standOk k.base vl = true) then none else some ⟨n, b, k, vl⟩ from HF2.out)
              clear HF2 Hkok
              cases td with
              | false =>
                go_wp2_with (first | ((with_reducible refine wpList_store_hid (op := ⟨none, .store 70 _ _, _, _, _, none⟩) rfl 70 _ _ rfl w2.heap.size 2 [.string ⟨k.signs.toArray⟩, .string ⟨k.base.toArray⟩, .string ⟨k.name.toArray⟩] ?_ ?_ ?_ ?_ ?_ ?_); rfl; rfl; (exact there_sub HK5.out 2 3 (by decide) (by decide)); kernel_rfl; (simp [Value.oneCell']); intro w6 HS6; have HT6 := Lib.hid (show w6.there w.heap.size 0 6 from HS6.out ▸ World.there_setCells HT5.out _ _ _); have HR6 := Lib.hid (show w6.rangeAt w2.heap.size 0 [.int .i64 (n : Int), .string ⟨b.toArray⟩, .string ⟨k.signs.toArray⟩, .string ⟨k.base.toArray⟩, .string ⟨k.name.toArray⟩, .string ⟨vl.toArray⟩] from HS6.out ▸ rangeAt_setCells_in [.int .i64 (n : Int), .string ⟨b.toArray⟩] [.string ⟨#[]⟩, .string ⟨#[]⟩, .string ⟨#[]⟩] [.string ⟨vl.toArray⟩] [.string ⟨k.signs.toArray⟩, .string ⟨k.base.toArray⟩, .string ⟨k.name.toArray⟩] HR5.out rfl); have Hb6 := Lib.hid (show Below w.heap.size w w6 from HS6.out ▸ below_setCells _ (Nat.le_of_lt hzz) _ _ _ Hb5.out); have hz6 : w2.heap.size < w6.heap.size := (by rw [HS6.out, setCells_size]; exact hz5); have z2 : w6.cell? ⟨w2.heap.size, 2, none⟩ = some (.string ⟨k.signs.toArray⟩) := (by simpa using rangeAt_cell HR6.out 2 rfl); have z3 : w6.cell? ⟨w2.heap.size, 3, none⟩ = some (.string ⟨k.base.toArray⟩) := (by simpa using rangeAt_cell HR6.out 3 rfl); clear HT5 HR5 HK5 HS6) | ((with_reducible refine wpList_store_hid (op := ⟨none, .store 94 _ _, _, _, _, none⟩) rfl 94 _ _ rfl w.heap.size 0 [.int .i64 (n : Int), .string ⟨b.toArray⟩, .string ⟨k.signs.toArray⟩, .string ⟨k.base.toArray⟩, .string ⟨k.name.toArray⟩, .string ⟨vl.toArray⟩] ?_ ?_ ?_ ?_ ?_ ?_); rfl; rfl; (first | exact World.there_alloc HT6.out _ | exact HT6.out); kernel_rfl; (simp [Value.oneCell']); intro w9 HS9) | ((with_reducible refine wpList_load_mid (op := ⟨_, .load 94 _, _, _, _, none⟩) rfl 94 _ rfl w2.heap.size 0 ?_ [.int .i64 (n : Int), .string ⟨b.toArray⟩, .string ⟨k.signs.toArray⟩, .string ⟨k.base.toArray⟩, .string ⟨k.name.toArray⟩, .string ⟨vl.toArray⟩] _ HR6.out Tryz.underlying94 ?_ ?_ ?_); rfl; rfl; kernel_rfl))
                have HZ := Lib.hid (show w9.rangeAt w.heap.size 0 [.int .i64 (n : Int), .string ⟨b.toArray⟩, .string ⟨k.signs.toArray⟩, .string ⟨k.base.toArray⟩, .string ⟨k.name.toArray⟩, .string ⟨vl.toArray⟩] from by rw [HS9.out]; exact World.rangeAt_setCells_same _ _ _ _ (by first | exact World.there_alloc HT6.out _ | exact HT6.out))
                refine bodyPost_ret (v := .tuple #[.agg ([.int .i64 (n : Int), .string ⟨b.toArray⟩, .string ⟨k.signs.toArray⟩, .string ⟨k.base.toArray⟩, .string ⟨k.name.toArray⟩, .string ⟨vl.toArray⟩] : List Value).toArray, .bool true]) ?_ rfl ?_
                · exact results_cell_tmp Tryz.results152 _ _ w.heap.size [.int .i64 (n : Int), .string ⟨b.toArray⟩, .string ⟨k.signs.toArray⟩, .string ⟨k.base.toArray⟩, .string ⟨k.name.toArray⟩, .string ⟨vl.toArray⟩] _ _ rfl rfl HZ.out Tryz.underlying94 rfl (by kernel_rfl)
                · exact IfPost.yes (HF3.out.trans (if_neg (by simp))) rfl (by rw [HS9.out]; refine below_setCells _ (Nat.le_refl _) _ _ _ ?_; first | with_reducible exact Hb6.out | exact Hb6.out.alloc Hb6.out.size _)
              | true =>
                rcases Decidable.em (st = 82) with h82 | h82
                · have n82 : ((st.toNat : Int) != 82) = false := bne_byte_no (c := st) (d := 82) h82
                  rcases Decidable.em (k.signs = []) with hsg | hsg
                  · have hsg1 : (k.signs != []) = false := by simp [hsg]
                    have hsg2 : k.signs.isEmpty = true := by simp [hsg]
                    have hsg3 : (!k.signs.isEmpty) = false := by simp [hsg]
                    have hbl := base_baseL Hkk.out.2.1
                    have Hst := Lib.hid (fun W => standing_any k.base vl W hbl (by omega))
                    have Hst2 := Lib.hid (show fieldI st s = if standOk k.base vl = true then some ⟨n, b, k, vl⟩ else none from by
                      rw [HF3.out]
                      by_cases hh : standOk k.base vl = true
                      · rw [if_neg (by simp [h82, hsg, hh]), if_pos hh]
                      · rw [if_pos (by simp [hh]), if_neg hh])
                    generalize standOk k.base vl = sb at Hst Hst2
                    clear hsg h82 hbl
                    go_wp2_with ((with_reducible refine wpList_store_hid (op := ⟨none, .store 70 _ _, _, _, _, none⟩) rfl 70 _ _ rfl w2.heap.size 2 [.string ⟨k.signs.toArray⟩, .string ⟨k.base.toArray⟩, .string ⟨k.name.toArray⟩] ?_ ?_ ?_ ?_ ?_ ?_); rfl; rfl; (exact there_sub HK5.out 2 3 (by decide) (by decide)); kernel_rfl; (simp [Value.oneCell']); intro w6 HS6; have HT6 := Lib.hid (show w6.there w.heap.size 0 6 from HS6.out ▸ World.there_setCells HT5.out _ _ _); have HR6 := Lib.hid (show w6.rangeAt w2.heap.size 0 [.int .i64 (n : Int), .string ⟨b.toArray⟩, .string ⟨k.signs.toArray⟩, .string ⟨k.base.toArray⟩, .string ⟨k.name.toArray⟩, .string ⟨vl.toArray⟩] from HS6.out ▸ rangeAt_setCells_in [.int .i64 (n : Int), .string ⟨b.toArray⟩] [.string ⟨#[]⟩, .string ⟨#[]⟩, .string ⟨#[]⟩] [.string ⟨vl.toArray⟩] [.string ⟨k.signs.toArray⟩, .string ⟨k.base.toArray⟩, .string ⟨k.name.toArray⟩] HR5.out rfl); have Hb6 := Lib.hid (show Below w.heap.size w w6 from HS6.out ▸ below_setCells _ (Nat.le_of_lt hzz) _ _ _ Hb5.out); have hz6 : w2.heap.size < w6.heap.size := (by rw [HS6.out, setCells_size]; exact hz5); have z2 : w6.cell? ⟨w2.heap.size, 2, none⟩ = some (.string ⟨k.signs.toArray⟩) := (by simpa using rangeAt_cell HR6.out 2 rfl); have z3 : w6.cell? ⟨w2.heap.size, 3, none⟩ = some (.string ⟨k.base.toArray⟩) := (by simpa using rangeAt_cell HR6.out 3 rfl); clear HT5 HR5 HK5 HS6)
                    refine (Hst.out _).mono ?_
                    rintro e w7 ⟨rfl, hb7⟩
                    have HT7 := Lib.hid (show w7.there w.heap.size 0 6 from there_below HT6.out (by omega) hb7)
                    have HR7 := Lib.hid (show w7.rangeAt w2.heap.size 0 _ from rangeAt_below HR6.out hz6 hb7)
                    have Hb7 := Lib.hid (Hb6.out.trans (hb7.mono Hb6.out.size))
                    clear hb7 z2 z3
                    cases sb with
                    | true =>
                      go_wp2_with (first | ((with_reducible refine wpList_store_hid (op := ⟨none, .store 94 _ _, _, _, _, none⟩) rfl 94 _ _ rfl w.heap.size 0 [.int .i64 (n : Int), .string ⟨b.toArray⟩, .string ⟨k.signs.toArray⟩, .string ⟨k.base.toArray⟩, .string ⟨k.name.toArray⟩, .string ⟨vl.toArray⟩] ?_ ?_ ?_ ?_ ?_ ?_); rfl; rfl; (first | exact World.there_alloc HT7.out _ | exact HT7.out); kernel_rfl; (simp [Value.oneCell']); intro w9 HS9) | ((with_reducible refine wpList_load_mid (op := ⟨_, .load 94 _, _, _, _, none⟩) rfl 94 _ rfl w2.heap.size 0 ?_ [.int .i64 (n : Int), .string ⟨b.toArray⟩, .string ⟨k.signs.toArray⟩, .string ⟨k.base.toArray⟩, .string ⟨k.name.toArray⟩, .string ⟨vl.toArray⟩] _ HR7.out Tryz.underlying94 ?_ ?_ ?_); rfl; rfl; kernel_rfl))
                      have HZ := Lib.hid (show w9.rangeAt w.heap.size 0 [.int .i64 (n : Int), .string ⟨b.toArray⟩, .string ⟨k.signs.toArray⟩, .string ⟨k.base.toArray⟩, .string ⟨k.name.toArray⟩, .string ⟨vl.toArray⟩] from by rw [HS9.out]; exact World.rangeAt_setCells_same _ _ _ _ (by first | exact World.there_alloc HT7.out _ | exact HT7.out))
                      refine bodyPost_ret (v := .tuple #[.agg ([.int .i64 (n : Int), .string ⟨b.toArray⟩, .string ⟨k.signs.toArray⟩, .string ⟨k.base.toArray⟩, .string ⟨k.name.toArray⟩, .string ⟨vl.toArray⟩] : List Value).toArray, .bool true]) ?_ rfl ?_
                      · exact results_cell_tmp Tryz.results152 _ _ w.heap.size [.int .i64 (n : Int), .string ⟨b.toArray⟩, .string ⟨k.signs.toArray⟩, .string ⟨k.base.toArray⟩, .string ⟨k.name.toArray⟩, .string ⟨vl.toArray⟩] _ _ rfl rfl HZ.out Tryz.underlying94 rfl (by kernel_rfl)
                      · exact IfPost.yes (Hst2.out.trans (if_pos (by simp))) rfl (by rw [HS9.out]; refine below_setCells _ (Nat.le_refl _) _ _ _ ?_; first | with_reducible exact Hb7.out | exact Hb7.out.alloc Hb7.out.size _)
                    | false =>
                      go_wp2_with ((with_reducible refine wpList_store_hid (op := ⟨none, .store 94 _ _, _, _, _, none⟩) rfl 94 _ _ rfl w.heap.size 0 [.int .i64 0, .string ⟨#[]⟩, .string ⟨#[]⟩, .string ⟨#[]⟩, .string ⟨#[]⟩, .string ⟨#[]⟩] ?_ ?_ ?_ ?_ ?_ ?_); rfl; rfl; (first | exact World.there_alloc HT7.out _ | exact HT7.out); kernel_rfl; (simp [Value.oneCell']); intro w9 HS9)
                      have HZ := Lib.hid (show w9.rangeAt w.heap.size 0 [.int .i64 0, .string ⟨#[]⟩, .string ⟨#[]⟩, .string ⟨#[]⟩, .string ⟨#[]⟩, .string ⟨#[]⟩] from by rw [HS9.out]; exact World.rangeAt_setCells_same _ _ _ _ (by first | exact World.there_alloc HT7.out _ | exact HT7.out))
                      refine bodyPost_ret (v := .tuple #[.agg ([.int .i64 0, .string ⟨#[]⟩, .string ⟨#[]⟩, .string ⟨#[]⟩, .string ⟨#[]⟩, .string ⟨#[]⟩] : List Value).toArray, .bool false]) ?_ rfl ?_
                      · exact results_cell_tmp Tryz.results152 _ _ w.heap.size [.int .i64 0, .string ⟨#[]⟩, .string ⟨#[]⟩, .string ⟨#[]⟩, .string ⟨#[]⟩, .string ⟨#[]⟩] _ _ rfl rfl HZ.out Tryz.underlying94 rfl (by kernel_rfl)
                      · exact IfPost.no (Hst2.out.trans (if_neg (by decide))) rfl (by rw [HS9.out]; refine below_setCells _ (Nat.le_refl _) _ _ _ ?_; first | with_reducible exact Hb7.out | exact Hb7.out.alloc Hb7.out.size _)
                  · have hsg1 : (k.signs != []) = true := by simp [hsg]
                    have hsg2 : k.signs.isEmpty = false := by simp [hsg]
                    have hsg3 : (!k.signs.isEmpty) = true := by simp [hsg]
                    have Hw := Lib.hid (HF3.out.trans (if_pos ⟨rfl, fun h => hsg h.2.1⟩))
                    clear hsg h82
                    go_wp2_with (first | ((with_reducible refine wpList_store_hid (op := ⟨none, .store 70 _ _, _, _, _, none⟩) rfl 70 _ _ rfl w2.heap.size 2 [.string ⟨k.signs.toArray⟩, .string ⟨k.base.toArray⟩, .string ⟨k.name.toArray⟩] ?_ ?_ ?_ ?_ ?_ ?_); rfl; rfl; (exact there_sub HK5.out 2 3 (by decide) (by decide)); kernel_rfl; (simp [Value.oneCell']); intro w6 HS6; have HT6 := Lib.hid (show w6.there w.heap.size 0 6 from HS6.out ▸ World.there_setCells HT5.out _ _ _); have HR6 := Lib.hid (show w6.rangeAt w2.heap.size 0 [.int .i64 (n : Int), .string ⟨b.toArray⟩, .string ⟨k.signs.toArray⟩, .string ⟨k.base.toArray⟩, .string ⟨k.name.toArray⟩, .string ⟨vl.toArray⟩] from HS6.out ▸ rangeAt_setCells_in [.int .i64 (n : Int), .string ⟨b.toArray⟩] [.string ⟨#[]⟩, .string ⟨#[]⟩, .string ⟨#[]⟩] [.string ⟨vl.toArray⟩] [.string ⟨k.signs.toArray⟩, .string ⟨k.base.toArray⟩, .string ⟨k.name.toArray⟩] HR5.out rfl); have Hb6 := Lib.hid (show Below w.heap.size w w6 from HS6.out ▸ below_setCells _ (Nat.le_of_lt hzz) _ _ _ Hb5.out); have hz6 : w2.heap.size < w6.heap.size := (by rw [HS6.out, setCells_size]; exact hz5); have z2 : w6.cell? ⟨w2.heap.size, 2, none⟩ = some (.string ⟨k.signs.toArray⟩) := (by simpa using rangeAt_cell HR6.out 2 rfl); have z3 : w6.cell? ⟨w2.heap.size, 3, none⟩ = some (.string ⟨k.base.toArray⟩) := (by simpa using rangeAt_cell HR6.out 3 rfl); clear HT5 HR5 HK5 HS6) | ((with_reducible refine wpList_store_hid (op := ⟨none, .store 94 _ _, _, _, _, none⟩) rfl 94 _ _ rfl w.heap.size 0 [.int .i64 0, .string ⟨#[]⟩, .string ⟨#[]⟩, .string ⟨#[]⟩, .string ⟨#[]⟩, .string ⟨#[]⟩] ?_ ?_ ?_ ?_ ?_ ?_); rfl; rfl; (first | exact World.there_alloc HT6.out _ | exact HT6.out); kernel_rfl; (simp [Value.oneCell']); intro w9 HS9))
                    have HZ := Lib.hid (show w9.rangeAt w.heap.size 0 [.int .i64 0, .string ⟨#[]⟩, .string ⟨#[]⟩, .string ⟨#[]⟩, .string ⟨#[]⟩, .string ⟨#[]⟩] from by rw [HS9.out]; exact World.rangeAt_setCells_same _ _ _ _ (by first | exact World.there_alloc HT6.out _ | exact HT6.out))
                    refine bodyPost_ret (v := .tuple #[.agg ([.int .i64 0, .string ⟨#[]⟩, .string ⟨#[]⟩, .string ⟨#[]⟩, .string ⟨#[]⟩, .string ⟨#[]⟩] : List Value).toArray, .bool false]) ?_ rfl ?_
                    · exact results_cell_tmp Tryz.results152 _ _ w.heap.size [.int .i64 0, .string ⟨#[]⟩, .string ⟨#[]⟩, .string ⟨#[]⟩, .string ⟨#[]⟩, .string ⟨#[]⟩] _ _ rfl rfl HZ.out Tryz.underlying94 rfl (by kernel_rfl)
                    · exact IfPost.no Hw.out rfl (by rw [HS9.out]; refine below_setCells _ (Nat.le_refl _) _ _ _ ?_; first | with_reducible exact Hb6.out | exact Hb6.out.alloc Hb6.out.size _)
                · have n82 : ((st.toNat : Int) != 82) = true := bne_byte (c := st) (d := 82) h82
                  have Hw := Lib.hid (HF3.out.trans (if_pos ⟨rfl, fun h => h82 h.1⟩))
                  clear h82
                  go_wp2_with (first | ((with_reducible refine wpList_store_hid (op := ⟨none, .store 70 _ _, _, _, _, none⟩) rfl 70 _ _ rfl w2.heap.size 2 [.string ⟨k.signs.toArray⟩, .string ⟨k.base.toArray⟩, .string ⟨k.name.toArray⟩] ?_ ?_ ?_ ?_ ?_ ?_); rfl; rfl; (exact there_sub HK5.out 2 3 (by decide) (by decide)); kernel_rfl; (simp [Value.oneCell']); intro w6 HS6; have HT6 := Lib.hid (show w6.there w.heap.size 0 6 from HS6.out ▸ World.there_setCells HT5.out _ _ _); have HR6 := Lib.hid (show w6.rangeAt w2.heap.size 0 [.int .i64 (n : Int), .string ⟨b.toArray⟩, .string ⟨k.signs.toArray⟩, .string ⟨k.base.toArray⟩, .string ⟨k.name.toArray⟩, .string ⟨vl.toArray⟩] from HS6.out ▸ rangeAt_setCells_in [.int .i64 (n : Int), .string ⟨b.toArray⟩] [.string ⟨#[]⟩, .string ⟨#[]⟩, .string ⟨#[]⟩] [.string ⟨vl.toArray⟩] [.string ⟨k.signs.toArray⟩, .string ⟨k.base.toArray⟩, .string ⟨k.name.toArray⟩] HR5.out rfl); have Hb6 := Lib.hid (show Below w.heap.size w w6 from HS6.out ▸ below_setCells _ (Nat.le_of_lt hzz) _ _ _ Hb5.out); have hz6 : w2.heap.size < w6.heap.size := (by rw [HS6.out, setCells_size]; exact hz5); have z2 : w6.cell? ⟨w2.heap.size, 2, none⟩ = some (.string ⟨k.signs.toArray⟩) := (by simpa using rangeAt_cell HR6.out 2 rfl); have z3 : w6.cell? ⟨w2.heap.size, 3, none⟩ = some (.string ⟨k.base.toArray⟩) := (by simpa using rangeAt_cell HR6.out 3 rfl); clear HT5 HR5 HK5 HS6) | ((with_reducible refine wpList_store_hid (op := ⟨none, .store 94 _ _, _, _, _, none⟩) rfl 94 _ _ rfl w.heap.size 0 [.int .i64 0, .string ⟨#[]⟩, .string ⟨#[]⟩, .string ⟨#[]⟩, .string ⟨#[]⟩, .string ⟨#[]⟩] ?_ ?_ ?_ ?_ ?_ ?_); rfl; rfl; (first | exact World.there_alloc HT6.out _ | exact HT6.out); kernel_rfl; (simp [Value.oneCell']); intro w9 HS9))
                  have HZ := Lib.hid (show w9.rangeAt w.heap.size 0 [.int .i64 0, .string ⟨#[]⟩, .string ⟨#[]⟩, .string ⟨#[]⟩, .string ⟨#[]⟩, .string ⟨#[]⟩] from by rw [HS9.out]; exact World.rangeAt_setCells_same _ _ _ _ (by first | exact World.there_alloc HT6.out _ | exact HT6.out))
                  refine bodyPost_ret (v := .tuple #[.agg ([.int .i64 0, .string ⟨#[]⟩, .string ⟨#[]⟩, .string ⟨#[]⟩, .string ⟨#[]⟩, .string ⟨#[]⟩] : List Value).toArray, .bool false]) ?_ rfl ?_
                  · exact results_cell_tmp Tryz.results152 _ _ w.heap.size [.int .i64 0, .string ⟨#[]⟩, .string ⟨#[]⟩, .string ⟨#[]⟩, .string ⟨#[]⟩, .string ⟨#[]⟩] _ _ rfl rfl HZ.out Tryz.underlying94 rfl (by kernel_rfl)
                  · exact IfPost.no Hw.out rfl (by rw [HS9.out]; refine below_setCells _ (Nat.le_refl _) _ _ _ ?_; first | with_reducible exact Hb6.out | exact Hb6.out.alloc Hb6.out.size _)
  · have Hno := Lib.hid (HF.out.trans (fieldP_len (vl := vl) (td := td) (st := st) (ps := ps) (by rw [if_neg Hst0.out]; exact hlen)))
    have hl1 : ¬ (ps.length : Int) = 3 := by omega
    have hl2 : ((ps.length : Int) != 3) = true := by rw [bne_iff_ne]; exact hl1
    clear HF Hpl Hcells
    go_wp2_with ((with_reducible refine wpList_store_hid (op := ⟨none, .store 94 _ _, _, _, _, none⟩) rfl 94 _ _ rfl w.heap.size 0 [.int .i64 0, .string ⟨#[]⟩, .string ⟨#[]⟩, .string ⟨#[]⟩, .string ⟨#[]⟩, .string ⟨#[]⟩] ?_ ?_ ?_ ?_ ?_ ?_); rfl; rfl; (first | exact World.there_alloc HT.out _ | exact HT.out); kernel_rfl; (simp [Value.oneCell']); intro w9 HS9)
    have HZ := Lib.hid (show w9.rangeAt w.heap.size 0 [.int .i64 0, .string ⟨#[]⟩, .string ⟨#[]⟩, .string ⟨#[]⟩, .string ⟨#[]⟩, .string ⟨#[]⟩] from by rw [HS9.out]; exact World.rangeAt_setCells_same _ _ _ _ (by first | exact World.there_alloc HT.out _ | exact HT.out))
    refine bodyPost_ret (v := .tuple #[.agg ([.int .i64 0, .string ⟨#[]⟩, .string ⟨#[]⟩, .string ⟨#[]⟩, .string ⟨#[]⟩, .string ⟨#[]⟩] : List Value).toArray, .bool false]) ?_ rfl ?_
    · exact results_cell_tmp Tryz.results152 _ _ w.heap.size [.int .i64 0, .string ⟨#[]⟩, .string ⟨#[]⟩, .string ⟨#[]⟩, .string ⟨#[]⟩, .string ⟨#[]⟩] _ _ rfl rfl HZ.out Tryz.underlying94 rfl (by kernel_rfl)
    · exact IfPost.no Hno.out rfl (by rw [HS9.out]; refine below_setCells _ (Nat.le_refl _) _ _ _ ?_; first | with_reducible exact Hb.out | exact Hb.out.alloc Hb.out.size _)
end Go.Proofs.YtdhinlhafoiaiaaGreatDoor
/- readType of the program: a line without fields. -/
namespace Go.Proofs.YtdhinlhafoiaiaaGreatDoor
open Go.RowKit
set_option maxRecDepth 100000
set_option linter.unusedVariables false
set_option linter.unusedSimpArgs false
attribute [local go_sem] ba_get ba_toList ba_extract take_drop_all ByteArray.mk_append_mk

theorem readField_any (st : UInt8) (hst : sortOk st) (s : List UInt8) (w : World) (hs : s.length ≤ 4000000) :
    Calls Tryz.prog 152 #[.string ⟨s.toArray⟩, .int .u8 (st.toNat : Int)] w (IfPost (fieldI st s) w) := by
  by_cases h : st = 69
  · exact iField_E st h s w hs
  · exact iField_R st h s w hs
/-- What reading a type leaves. -/
def ItPost (o : Option Ty) (w : World) (e : Ending) (w' : World) : Prop :=
  (match o with
    | some t => ∃ x : PT, x.ty = t ∧ e = .returned (.tuple #[x.ptr, .bool true]) ∧ w.heap.size ≤ x.blk ∧ ITy w' x ∧ ∀ k, x.fv.ownBlock = some k → w.heap.size ≤ k
    | none => ∃ p : Option Addr, e = .returned (.tuple #[.pointer p, .bool false])) ∧ Below w.heap.size w w'
theorem ItPost.no {w w' : World} {e : Ending} {o : Option Ty} (ho : o = none) {p : Option Addr} (he : e = .returned (.tuple #[.pointer p, .bool false])) (hb : Below w.heap.size w w') : ItPost o w e w' := by
  rw [ho]; exact ⟨⟨p, he⟩, hb⟩
theorem ItPost.yes {w w' : World} {e : Ending} {o : Option Ty} {t : Ty} (ho : o = some t) {b : Nat} {fv : Value} (he : e = .returned (.tuple #[.pointer (some ⟨b, 0, none⟩), .bool true])) (hwb : w.heap.size ≤ b) (ht : ITy w' ⟨t, b, fv⟩) (hf : ∀ k, fv.ownBlock = some k → w.heap.size ≤ k) (hb : Below w.heap.size w w') : ItPost o w e w' := by
  rw [ho]; exact ⟨⟨⟨t, b, fv⟩, rfl, he, hwb, ht, hf⟩, hb⟩

theorem sort_mem (c : UInt8) : decide (c ∈ ([82, 85, 69] : List UInt8)) = decide (sortOk c) := by
  rw [decide_eq_decide]; unfold sortOk; simp

theorem iType_nil (w : World) : Calls Tryz.prog 113 #[.string ⟨#[]⟩] w (ItPost (typeI []) w) := by
  go_enter Tryz.func113, Tryz.ntmps113
  go_wp2_with fail
  go_ret2
  exact ItPost.no rfl rfl (Below.refl _ _)

set_option maxHeartbeats 1000000 in
theorem iType_sort (c : UInt8) (r : List UInt8) (w : World) (hs : r.length ≤ 3999999) (hc : ¬ sortOk c) : Calls Tryz.prog 113 #[.string ⟨(c :: r).toArray⟩] w (ItPost (typeI (c :: r)) w) := by
  have HF := Lib.hid (show typeI (c :: r) = none by unfold typeI; simp only; rw [if_pos (.inl hc)])
  have Hc := Lib.hid (fun W => (show Calls Tryz.prog 150 #[.string ⟨#[82, 85, 69]⟩, .string ⟨#[c]⟩] W fun e w' => e = .returned (.bool false) ∧ W = w' from by
    have := Contains_any [82, 85, 69] c W
    rw [sort_mem, decide_eq_false hc] at this
    exact this))
  clear hc
  go_enter Tryz.func113, Tryz.ntmps113
  go_wp2_with fail
  refine (Hc.out _).mono ?_
  rintro e w' ⟨rfl, rfl⟩
  go_wp2_with fail
  go_ret2
  exact ItPost.no HF.out rfl (Below.refl _ _)

set_option maxHeartbeats 1000000 in
theorem iType_head (c : UInt8) (r : List UInt8) (w : World) (hs : r.length ≤ 3999999) (hc : sortOk c) (h : (cutL 61 r).2.2 = false ∨ nameOk (cutL 61 r).1 = false ∨ (cutL 61 r).2.1 = []) : Calls Tryz.prog 113 #[.string ⟨(c :: r).toArray⟩] w (ItPost (typeI (c :: r)) w) := by
  have HF := Lib.hid (show typeI (c :: r) = if (cutL 61 r).2.2 = false ∨ nameOk (cutL 61 r).1 = false then none else (if c = 82 then some ⟨c, (cutL 61 r).1, []⟩ else none) by
    unfold typeI
    simp only
    by_cases h1 : (cutL 61 r).2.2 = false ∨ nameOk (cutL 61 r).1 = false
    · rw [if_pos (.inr h1), if_pos h1]
    · have h2 : (cutL 61 r).2.1 = [] := by
        rcases h with h | h | h
        · exact absurd (.inl h) h1
        · exact absurd (.inr h) h1
        · exact h
      rw [if_neg (fun h3 => h3.elim (fun h3 => h3 hc) h1), if_neg h1, if_pos h2])
  have Hc := Lib.hid (fun W => (show Calls Tryz.prog 150 #[.string ⟨#[82, 85, 69]⟩, .string ⟨#[c]⟩] W fun e w' => e = .returned (.bool true) ∧ W = w' from by
    have := Contains_any [82, 85, 69] c W
    rw [sort_mem, decide_eq_true hc] at this
    exact this))
  have Hl := Lib.hid (fun (f : (cutL 61 r).2.2 = true ∧ (cutL 61 r).2.1 = []) => show tyB ⟨c, (cutL 61 r).1, []⟩ = c :: r from by
    rcases cutL_cases 61 r with ⟨_, e⟩ | ⟨p, t, e1, _, e⟩
    · rw [e] at f; cases f.1
    · rw [e] at f ⊢
      simp only at f
      have := f.2
      subst this
      rw [e1]; rfl)
  have Hcut := Lib.hid (fun W => Cut_any r 61 W (by omega))
  have hcl := (cutL_len 61 r).1
  generalize cutL 61 r = q at *
  obtain ⟨nm, rest, told⟩ := q
  simp only at hcl HF h Hl
  have Hh := Lib.hid h
  have Hc82 := Lib.hid hc
  clear hc h
  go_enter Tryz.func113, Tryz.ntmps113
  go_wp2_with fail
  refine (Hc.out _).mono ?_
  rintro e w' ⟨rfl, rfl⟩
  go_wp2_with fail
  refine (Hcut.out _).mono ?_
  rintro e w1 ⟨rfl, k1, rfl⟩
  unfold cutV
  cases told with
  | false =>
    go_wp2_with fail
    go_ret2
    exact ItPost.no (HF.out.trans (if_pos (by simp))) rfl (below_drewN (Below.refl _ _) _)
  | true =>
    have Hname := Lib.hid (fun W => isName_any nm W (by omega))
    generalize hnb : nameOk nm = nb at *
    have Hnb := Lib.hid hnb
    clear hnb
    go_wp2_with fail
    refine (Hname.out _).mono ?_
    rintro e w2 ⟨rfl, hb2⟩
    have Hb2 := Lib.hid (show Below w.heap.size w w2 from (below_drewN (Below.refl _ _) k1).trans (by simpa using hb2))
    clear hb2
    cases nb with
    | false =>
      go_wp2_with fail
      go_ret2
      exact ItPost.no (HF.out.trans (if_pos (by simp))) rfl Hb2.out
    | true =>
      obtain rfl : rest = [] := by
        rcases Hh.out with h | h | h
        · cases h
        · cases h
        · exact h
      have HF2 := Lib.hid (HF.out.trans (if_neg (by simp)))
      have Hl2 := Lib.hid (Hl.out (by simp))
      have hz := Hb2.out.size
      rcases Decidable.em (c = 82) with h82 | h82
      · have t1 : ((c.toNat : Int) == 82) = true := byte_eq (d := 82) h82
        have HF3 := Lib.hid (HF2.out.trans (if_pos h82))
        clear h82
        go_wp2_with fail
        go_quiet (fail)
        go_wp2_with fail
        go_ret2
        refine ItPost.yes HF3.out (b := w2.heap.size) (fv := .slice none 0 0) rfl Hb2.out.size ?_ (fun k hk => by simp [Value.ownBlock] at hk) (by repeat (first | exact Hb2.out.alloc Hb2.out.size _ | refine Below.drew ?_ | refine below_drewN ?_ _))
        refine ⟨by simp, by first | exact Blk.new _ _ _ | exact Blk.belowAt (Blk.new w2 _ _) (by simp) (by first | exact below_drewN (Below.refl _ _) _ | exact (Below.refl _ _).drew), by simp, by simp, by simp, ?_, none, 0, rfl, by simp, rfl, Nat.zero_le _, fun h => absurd h (by simp)⟩
        rw [Hl2.out]; simp
      · have t1 : ((c.toNat : Int) == 82) = false := byte_ne (d := 82) h82
        have HF3 := Lib.hid (HF2.out.trans (if_neg h82))
        clear h82
        go_wp2_with fail
        go_quiet (fail)
        go_wp2_with fail
        go_ret2
        exact ItPost.no HF3.out rfl (by repeat (first | exact Hb2.out.alloc Hb2.out.size _ | refine Below.drew ?_ | refine below_drewN ?_ _))

/-- What a line with fields tells. -/
def finP (c : UInt8) (nm : List UInt8) : Option (List Fd) → Option Ty
  | some r => some ⟨c, nm, r⟩
  | none => none
theorem typeI_fields {c : UInt8} {r nm rest : List UInt8} (hc : sortOk c) (h : cutL 61 r = (nm, rest, true)) (hn : nameOk nm = true) (hr : rest ≠ []) : typeI (c :: r) = finP c nm (fieldsI c (splitL 44 rest) []) := by
  unfold typeI
  simp only [h]
  rw [if_neg (by simp [hc, hn]), if_neg hr]
  cases fieldsI c (splitL 44 rest) [] <;> rfl
theorem fieldsI_step {c : UInt8} {ps : List (List UInt8)} {acc : List Fd} {k : Nat} (hk : k < ps.length) : fieldsI c (ps.drop k) acc = (match fieldI c ps[k] with | none => none | some f => if acc.length = 8 ∨ fitsIn acc f = false then none else fieldsI c (ps.drop (k + 1)) (acc ++ [f])) := by
  rw [List.drop_eq_getElem_cons hk, fieldsI]
  cases fieldI c ps[k] <;> rfl
theorem fitsIn_all {acc : List Fd} {f : Fd} (h : ∀ g ∈ acc, g.name ≠ f.name ∧ g.tag < f.tag) : fitsIn acc f = true := fitsIn_iff.2 h
theorem fits_no' {acc : List Fd} {f x : Fd} (hx : x ∈ acc) (h : f.tag ≤ x.tag ∨ x.name = f.name) : fitsIn acc f = false := by
  cases hh : fitsIn acc f with
  | false => rfl
  | true =>
    obtain ⟨h1, h2⟩ := fitsIn_iff.1 hh x hx
    rcases h with h | h
    · omega
    · exact absurd h h1
theorem grown_set (w : World) (a : Addr) (v : Value) : w.grownBy (w.setCell a v) (some a.block) :=
  ⟨rfl, rfl, rfl, by simp, fun k _ hk => Go.heap_setCell_other _ _ _ _ (fun e => hk (by rw [e]))⟩
theorem own_slice {w : World} {base k n : Nat} {e : TypeId} {v : Value} {xs : List Value} (h : w.ownsRow base e k v n xs) : ∃ A m c, v = .slice A m c := by
  rcases h.2 with ⟨rfl, _⟩ | ⟨g, cap, cur, rfl, _⟩
  · exact ⟨_, _, _, rfl⟩
  · exact ⟨_, _, _, rfl⟩
theorem own_oneCell {w : World} {base k n : Nat} {e : TypeId} {v : Value} {xs : List Value} (h : w.ownsRow base e k v n xs) : v.oneCell' = true := by
  obtain ⟨_, _, _, rfl⟩ := own_slice h
  rfl
/-- One field of a row that is read, as a range. -/
theorem IFds.range {w : World} {A : Option Addr} {fs : List Fd} (hr : RowAt w A (fs.length * 6) (fs.flatMap ifc)) {i : Nat} (hi : i < fs.length) : ∃ b off, A = some ⟨b, off, none⟩ ∧ b < w.heap.size ∧ w.rangeAt b (off + i * 6) (ifc fs[i]) := by
  obtain ⟨b, off, e, hlt, hc⟩ := hr.elem ifc_len (by decide) hi
  exact ⟨b, off, e, hlt, fun j v hv => by rw [Nat.add_assoc]; exact hc j v hv⟩
theorem Tryz.infoIf : (Tryz.prog.info? 94).map (fun i => (i.zero, i.size, i.bytes)) = some (some (.agg #[.int .i64 0, .string ⟨#[]⟩, .string ⟨#[]⟩, .string ⟨#[]⟩, .string ⟨#[]⟩, .string ⟨#[]⟩]), 6, 88) := by kernel_rfl
theorem ifc_one (fs : List Fd) : ∀ y ∈ fs.flatMap ifc, y.oneCell' = true := by
  intro y hy
  obtain ⟨f, _, hf⟩ := List.mem_flatMap.1 hy
  simp [ifc] at hf
  rcases hf with rfl | rfl | rfl | rfl | rfl | rfl <;> rfl
end Go.Proofs.YtdhinlhafoiaiaaGreatDoor
/- 'append(v, u...)' of a row of the call's own behind a row of the call's own; the operation may be guarded. -/
namespace Go.Proofs.YtdhinlhafoiaiaaGreatDoor
open Go.RowKit

section
variable {P : Program}
theorem wpList_want {ops : Array Oper} {rest : List Oper} {o : Oper} {a : Act} {Q : Exit → Act → World → Prop} {w : World} (hw : Region.wanted o (yielded ops a.tmps) = true)
    (h : o.wp P a w (wpList P ops Q rest) Q) : wpList P ops Q (o :: rest) a w := by
  unfold wpList
  rw [if_pos hw]
  exact .inl h

theorem wpList_appN (w : World) {ops : Array Oper} {rest : List Oper} {o : Oper} {a : Act} {Q : Exit → Act → World → Prop} (hwant : Region.wanted o (yielded ops a.tmps) = true) (s x : Operand) (t : TypeId)
    (ho : o.op = .call { callee := .builtin .append, args := #[s, x], argTypes := #[t, t] })
    (base b2 : Nat) (e : TypeId) (z : Value) (bytes : Nat) (ht : P.underlying t = some (.slice e)) (hinfo : (P.info? e).map (fun i => (i.zero, i.size, i.bytes)) = some (some z, 1, bytes))
    (hzs : z.cells.size = 1) (v : Value) (n : Nat) (xs : List Value) (hs : a.eval s = v) (hown : w.ownsRow base e 1 v n xs)
    (u : Value) (m : Nat) (ys : List Value) (hx : a.eval x = u) (hrow : w.ownsRow b2 e 1 u m ys) (h1 : ∀ y ∈ ys, y.oneCell' = true)
    (h63 : n + m ≤ maxLen) (hbytes : (n + m) * bytes ≤ 140737488355328) (hbase : base ≤ w.heap.size)
    (h : ∀ v' w', w'.ownsRow base e 1 v' (n + m) (xs ++ ys) → Below base w w' → w.grownBy w' v.ownBlock → wpList P ops Q rest (a.put o.dst v') w') : wpList P ops Q (o :: rest) a w := by
  obtain ⟨i0, hi, hz0, hz1, hz2⟩ := info_parts hinfo
  refine wpList_want hwant ?_
  rcases hrow.2 with ⟨rfl, rfl⟩ | ⟨g, cap, cur, rfl, hb, hh, hnc, hcm, hcs, htk⟩
  · have hy : ys = [] := List.eq_nil_of_length_eq_zero (by have := hrow.1; simpa using this)
    subst hy
    have hrun := run_append_owned_none (P := P) (w := w) base t o.type e i0 1 ht hi v n xs hown
    unfold Oper.wp
    simp [execOp, ho, resolve, invoke, builtin, hs, hx, hrun, Result.andThen]
    exact h v w (by simpa using hown) (Below.refl _ _) (World.grownBy.refl _ _)
  · refine wp_append_own w s x t ho base e i0 z 1 bytes ht hi hz0 hz1 hz2 hzs (by decide) v n xs hs hown ⟨g, 0, none⟩ m cap ys hx hrow.1 (hrow.cells (g := g) rfl) h1 h63 hbytes hbase ?_
    intro v' w' h2 h3 _
    exact h v' w' h2 ((Below.refl base w).grown h3 hbase (fun k hk => (hown.lt k hk).1)) h3
end

theorem scells_one (ls : List (List UInt8)) : ∀ y ∈ scells ls, y.oneCell' = true := by
  intro y hy
  obtain ⟨l, _, rfl⟩ := List.mem_map.1 hy
  rfl
theorem scells_append (a b : List (List UInt8)) : scells (a ++ b) = scells a ++ scells b := by simp [scells]
end Go.Proofs.YtdhinlhafoiaiaaGreatDoor
