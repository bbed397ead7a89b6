/- Texts joined: IField, IType, SForm2, SStand. Conditions: as each theorem names them. -/
import Derived.BigRegion
import Derived.BigQuiet
import Derived.Deep.QuietTactic
import Derived.Test.YtcjfgbcdlcdeaaaDoorK01
import Derived.Test.YtcjfgbcdlcdeaaaDoorK07
import Derived.Test.YtcjfgbcdlcdeaaaDoorK11
import Derived.Test.YtcjfgbcdlcdeaaaDoorK12
import Derived.Test.YtcjfgbcdlcdeaaaDoorK13
/- readField of the program. -/
namespace Go.Proofs.YtcjfgbcdlcdeaaaDoor
open Go.RowKit
set_option maxRecDepth 100000
set_option linter.unusedVariables false
set_option linter.unusedSimpArgs false
attribute [local go_sem] ba_get ba_toList ba_extract take_drop_all ByteArray.mk_append_mk

theorem cutL_len (c : UInt8) (s : List UInt8) : (cutL c s).1.length ≤ s.length ∧ (cutL c s).2.1.length ≤ s.length := by
  rcases cutL_cases c s with ⟨_, h⟩ | ⟨p, t, rfl, _, h⟩
  · rw [h]; simp
  · rw [h]; simp; omega
/-- Field by parts. -/
def fieldP (st : UInt8) (ps : List (List UInt8)) (vl : List UInt8) (td : Bool) : Option Fd :=
  if st = 69 then
    match fdL2 ps with
    | some (n, b) => if td = true then none else some ⟨n, b, Kd.nil, vl⟩
    | none => none
  else
    match fdL3 ps with
    | some (n, b, c) => (match kindL c with
      | some k => if td = true ∧ ¬ (st = 82 ∧ k.signs = [] ∧ standOk k.base vl = true) then none else some ⟨n, b, k, vl⟩
      | none => none)
    | none => none
theorem fieldP_eq (st : UInt8) (s : List UInt8) : fieldI st s = fieldP st (splitL 58 (cutL 61 s).1) (cutL 61 s).2.1 (cutL 61 s).2.2 := rfl
theorem fieldP_len {st : UInt8} {ps : List (List UInt8)} {vl : List UInt8} {td : Bool} (h : ps.length ≠ if st = 69 then 2 else 3) : fieldP st ps vl td = none := by
  unfold fieldP
  by_cases e : st = 69
  · rw [if_pos e] at h ⊢
    match ps, h with
    | [], _ => rfl
    | [_], _ => rfl
    | [_, _], h => exact absurd rfl h
    | _ :: _ :: _ :: _, _ => rfl
  · rw [if_neg e] at h ⊢
    match ps, h with
    | [], _ => rfl
    | [_], _ => rfl
    | [_, _], _ => rfl
    | [_, _, _], h => exact absurd rfl h
    | _ :: _ :: _ :: _ :: _, _ => rfl
/-- The first two parts. -/
def headOk (a b : List UInt8) (n : Nat) : Prop := decL a = some n ∧ 1 ≤ n ∧ n ≤ 200 ∧ nameOk b = true
theorem fieldP_head {st : UInt8} {a b : List UInt8} {r : List (List UInt8)} {vl : List UInt8} {td : Bool} (h : ∀ n, ¬ headOk a b n) : fieldP st (a :: b :: r) vl td = none := by
  have h2 : ∀ c, fdL2 (a :: b :: c) = none := by
    intro c
    match c with
    | [] =>
      cases hd : decL a with
      | none => simp only [fdL2, hd]
      | some n => simp only [fdL2, hd]; exact if_neg fun (e : 1 ≤ n ∧ n ≤ 200 ∧ nameOk b = true) => h n ⟨hd, e.1, e.2.1, e.2.2⟩
    | _ :: _ => rfl
  have h3 : ∀ c, fdL3 (a :: b :: c) = none := by
    intro c
    match c with
    | [] => rfl
    | [x] =>
      cases hd : decL a with
      | none => simp only [fdL3, hd]
      | some n => simp only [fdL3, hd]; exact if_neg fun (e : 1 ≤ n ∧ n ≤ 200 ∧ nameOk b = true) => h n ⟨hd, e.1, e.2.1, e.2.2⟩
    | _ :: _ :: _ => rfl
  unfold fieldP
  rw [h2, h3]
  split <;> rfl
theorem fieldP_E {a b : List UInt8} {vl : List UInt8} {td : Bool} {n : Nat} (h : headOk a b n) : fieldP 69 [a, b] vl td = if td = true then none else some ⟨n, b, Kd.nil, vl⟩ := by
  obtain ⟨h1, h2, h3, h4⟩ := h
  unfold fieldP fdL2
  simp [h1, h2, h3, h4]
theorem fieldP_R {st : UInt8} {a b c : List UInt8} {vl : List UInt8} {td : Bool} {n : Nat} (hst : st ≠ 69) (h : headOk a b n) : fieldP st [a, b, c] vl td = (match kindL c with
      | some k => if td = true ∧ ¬ (st = 82 ∧ k.signs = [] ∧ standOk k.base vl = true) then none else some ⟨n, b, k, vl⟩
      | none => none) := by
  obtain ⟨h1, h2, h3, h4⟩ := h
  unfold fieldP fdL3
  simp [h1, h2, h3, h4, hst]
theorem base_baseL {k : Kd} (h : baseOk k) : baseL k.base := by
  rcases h with ⟨h, _⟩ | ⟨h | h | h, _⟩
  · exact .inr (.inr (.inr h))
  · exact .inl h
  · exact .inr (.inl h)
  · exact .inr (.inr (.inl h))
/-- A texts' row of two or three. -/
theorem parts2 {ps : List (List UInt8)} (h : ps.length = 2) : ∃ a b, ps = [a, b] := by
  match ps, h with
  | [a, b], _ => exact ⟨a, b, rfl⟩
theorem parts3 {ps : List (List UInt8)} (h : ps.length = 3) : ∃ a b c, ps = [a, b, c] := by
  match ps, h with
  | [a, b, c], _ => exact ⟨a, b, c, rfl⟩
theorem there_drewN {w : World} {b o n : Nat} (h : w.there b o n) (k : Nat) : (w.drewN k).there b o n := by
  induction k generalizing w with
  | zero => exact h
  | succ k ih => exact ih (by simpa using h)
set_option maxHeartbeats 1000000 in
theorem iField_E (st : UInt8) (hst : st = 69) (s : List UInt8) (w : World) (hs : s.length ≤ 4000000) :
    Calls Tryd.prog 60 #[.string ⟨s.toArray⟩, .int .u8 (st.toNat : Int)] w (IfPost (fieldI st s) w) := by
  have HF := Lib.hid (fieldP_eq st s)
  have Hcut := Lib.hid (fun W => Cut_any s 61 W (by omega))
  have hcl := (cutL_len 61 s).1
  have hvl := (cutL_len 61 s).2
  generalize cutL 61 s = r at HF Hcut hcl hvl
  obtain ⟨hd, vl, td⟩ := r
  simp only at hcl hvl HF
  have Hsp := Lib.hid (fun W => Split_any hd 58 W (by omega))
  have hne := splitL_ne 58 hd
  have Hpl := Lib.hid (splitL_plen 58 hd)
  generalize splitL 58 hd = ps at HF Hsp hne Hpl
  have e69 : ((st.toNat : Int) == 69) = true := byte_eq hst
  have n69 : ((st.toNat : Int) != 69) = false := bne_byte_no hst
  have Hst0 := Lib.hid hst
  clear hst
  go_enter Tryd.func60, Tryd.ntmps60
  go_wp2_with fail
  refine (Hcut.out _).mono ?_
  rintro e w1 ⟨rfl, k1, rfl⟩
  unfold cutV
  go_wp2_with fail
  refine (Hsp.out _).mono ?_
  rintro e w2 ⟨v, rfl, ho, hb⟩
  obtain ⟨g, c, rfl, hg1, hg2, hcells⟩ := own_texts ho hne
  have hzz : w.heap.size < w2.heap.size := by have := hb.size; simp at this; omega
  have HT := Lib.hid (show w2.there w.heap.size 0 6 from there_below (there_drewN (there_new w [.int .i64 0, .string ⟨#[]⟩, .string ⟨#[]⟩, .string ⟨#[]⟩, .string ⟨#[]⟩, .string ⟨#[]⟩] 104) k1) (by simp) hb)
  have Hb := Lib.hid (show Below w.heap.size w w2 from (below_drewN ((Below.refl w.heap.size w).alloc (Nat.le_refl _) _) k1).trans (hb.mono (by simp)))
  have Hcells := Lib.hid hcells
  clear hb ho hcells hne
  by_cases hlen : ps.length = 2
  · obtain ⟨a, b, rfl⟩ := parts2 hlen
    have c0 := Hcells.out 0 (by simp)
    have c1 := Hcells.out 1 (by simp)
    simp at c0 c1
    have la : a.length ≤ 4000000 := by have := Hpl.out a (by simp); omega
    have lb : b.length ≤ 4000000 := by have := Hpl.out b (by simp); omega
    clear Hpl Hcells hlen
    have hpn := fun W => (show Calls Tryd.prog 74 #[.string ⟨a.toArray⟩, .int .i64 200] W fun e w' => e = .returned (pnV a 200) ∧ W = w' from plainNumber_any a 200 W (by omega) (by decide))
    have Hhead := Lib.hid (show ∀ n, headOk a b n ↔ decL a = some n ∧ 1 ≤ n ∧ n ≤ 200 ∧ nameOk b = true from fun n => Iff.rfl)
    have Hno := Lib.hid (fun (h : ∀ n, ¬ headOk a b n) => HF.out.trans (fieldP_head h))
    generalize hda : decL a = od at *
    have Hda := Lib.hid hda
    clear hda
    cases od with
    | none =>
      have Hpn := Lib.hid (fun W => (pnV_no (m := 200) Hda.out) ▸ hpn W)
      clear hpn
      go_wp2_with fail
      refine (Hpn.out _).mono ?_
      rintro e w3 ⟨rfl, rfl⟩
      go_wp2_with ((with_reducible refine wpList_store_hid (op := ⟨none, .store 104 _ _, _, _, _, none⟩) rfl 104 _ _ rfl w.heap.size 0 [.int .i64 0, .string ⟨#[]⟩, .string ⟨#[]⟩, .string ⟨#[]⟩, .string ⟨#[]⟩, .string ⟨#[]⟩] ?_ ?_ ?_ ?_ ?_ ?_); rfl; rfl; (first | exact World.there_alloc HT.out _ | exact HT.out); kernel_rfl; (simp [Value.oneCell']); intro w9 HS9)
      have HZ := Lib.hid (show w9.rangeAt w.heap.size 0 [.int .i64 0, .string ⟨#[]⟩, .string ⟨#[]⟩, .string ⟨#[]⟩, .string ⟨#[]⟩, .string ⟨#[]⟩] from by rw [HS9.out]; exact World.rangeAt_setCells_same _ _ _ _ (by first | exact World.there_alloc HT.out _ | exact HT.out))
      refine bodyPost_ret (v := .tuple #[.agg ([.int .i64 0, .string ⟨#[]⟩, .string ⟨#[]⟩, .string ⟨#[]⟩, .string ⟨#[]⟩, .string ⟨#[]⟩] : List Value).toArray, .bool false]) ?_ rfl ?_
      · exact results_cell_tmp Tryd.results60 _ _ w.heap.size [.int .i64 0, .string ⟨#[]⟩, .string ⟨#[]⟩, .string ⟨#[]⟩, .string ⟨#[]⟩, .string ⟨#[]⟩] _ _ rfl rfl HZ.out Tryd.underlying104 rfl (by kernel_rfl)
      · exact IfPost.no (Hno.out (fun n h => by have := ((Hhead.out n).1 h).1; cases this)) rfl (by rw [HS9.out]; refine below_setCells _ (Nat.le_refl _) _ _ _ ?_; first | with_reducible exact Hb.out | exact Hb.out.alloc Hb.out.size _)
    | some n =>
      have Hpn := Lib.hid (fun W => (pnV_yes (m := 200) Hda.out) ▸ hpn W)
      clear hpn
      have hn9 : n ≤ 999999 := (decL_some.1 Hda.out).1
      rcases Nat.lt_or_ge 200 n with h200 | h200
      · have Hdec := Lib.hid (show decide (n ≤ 200) = false by simp; omega)
        rw [Hdec.out] at Hpn
        go_wp2_with fail
        refine (Hpn.out _).mono ?_
        rintro e w3 ⟨rfl, rfl⟩
        go_wp2_with ((with_reducible refine wpList_store_hid (op := ⟨none, .store 104 _ _, _, _, _, none⟩) rfl 104 _ _ rfl w.heap.size 0 [.int .i64 0, .string ⟨#[]⟩, .string ⟨#[]⟩, .string ⟨#[]⟩, .string ⟨#[]⟩, .string ⟨#[]⟩] ?_ ?_ ?_ ?_ ?_ ?_); rfl; rfl; (first | exact World.there_alloc HT.out _ | exact HT.out); kernel_rfl; (simp [Value.oneCell']); intro w9 HS9)
        have HZ := Lib.hid (show w9.rangeAt w.heap.size 0 [.int .i64 0, .string ⟨#[]⟩, .string ⟨#[]⟩, .string ⟨#[]⟩, .string ⟨#[]⟩, .string ⟨#[]⟩] from by rw [HS9.out]; exact World.rangeAt_setCells_same _ _ _ _ (by first | exact World.there_alloc HT.out _ | exact HT.out))
        refine bodyPost_ret (v := .tuple #[.agg ([.int .i64 0, .string ⟨#[]⟩, .string ⟨#[]⟩, .string ⟨#[]⟩, .string ⟨#[]⟩, .string ⟨#[]⟩] : List Value).toArray, .bool false]) ?_ rfl ?_
        · exact results_cell_tmp Tryd.results60 _ _ w.heap.size [.int .i64 0, .string ⟨#[]⟩, .string ⟨#[]⟩, .string ⟨#[]⟩, .string ⟨#[]⟩, .string ⟨#[]⟩] _ _ rfl rfl HZ.out Tryd.underlying104 rfl (by kernel_rfl)
        · exact IfPost.no (Hno.out (fun m h => by have h' := (Hhead.out m).1 h; have := h'.1; cases this; omega)) rfl (by rw [HS9.out]; refine below_setCells _ (Nat.le_refl _) _ _ _ ?_; first | with_reducible exact Hb.out | exact Hb.out.alloc Hb.out.size _)
      · have Hdec := Lib.hid (show decide (n ≤ 200) = true by simp; omega)
        rw [Hdec.out] at Hpn
        rcases Nat.eq_zero_or_pos n with h0 | h0
        · subst h0
          go_wp2_with fail
          refine (Hpn.out _).mono ?_
          rintro e w3 ⟨rfl, rfl⟩
          go_wp2_with ((with_reducible refine wpList_store_hid (op := ⟨none, .store 104 _ _, _, _, _, none⟩) rfl 104 _ _ rfl w.heap.size 0 [.int .i64 0, .string ⟨#[]⟩, .string ⟨#[]⟩, .string ⟨#[]⟩, .string ⟨#[]⟩, .string ⟨#[]⟩] ?_ ?_ ?_ ?_ ?_ ?_); rfl; rfl; (first | exact World.there_alloc HT.out _ | exact HT.out); kernel_rfl; (simp [Value.oneCell']); intro w9 HS9)
          have HZ := Lib.hid (show w9.rangeAt w.heap.size 0 [.int .i64 0, .string ⟨#[]⟩, .string ⟨#[]⟩, .string ⟨#[]⟩, .string ⟨#[]⟩, .string ⟨#[]⟩] from by rw [HS9.out]; exact World.rangeAt_setCells_same _ _ _ _ (by first | exact World.there_alloc HT.out _ | exact HT.out))
          refine bodyPost_ret (v := .tuple #[.agg ([.int .i64 0, .string ⟨#[]⟩, .string ⟨#[]⟩, .string ⟨#[]⟩, .string ⟨#[]⟩, .string ⟨#[]⟩] : List Value).toArray, .bool false]) ?_ rfl ?_
          · exact results_cell_tmp Tryd.results60 _ _ w.heap.size [.int .i64 0, .string ⟨#[]⟩, .string ⟨#[]⟩, .string ⟨#[]⟩, .string ⟨#[]⟩, .string ⟨#[]⟩] _ _ rfl rfl HZ.out Tryd.underlying104 rfl (by kernel_rfl)
          · exact IfPost.no (Hno.out (fun m h => by have h' := (Hhead.out m).1 h; have := h'.1; cases this; omega)) rfl (by rw [HS9.out]; refine below_setCells _ (Nat.le_refl _) _ _ _ ?_; first | with_reducible exact Hb.out | exact Hb.out.alloc Hb.out.size _)
        · have hlt1 : decide ((n : Int) < 1) = false := by rw [decide_eq_false_iff_not]; omega
          have Hname := Lib.hid (fun W => isName_any b W (by omega))
          generalize hnb : nameOk b = nb at *
          have Hnb := Lib.hid hnb
          clear hnb
          go_wp2_with fail
          refine (Hpn.out _).mono ?_
          rintro e w3 ⟨rfl, rfl⟩
          go_wp2_with fail
          refine (Hname.out _).mono ?_
          rintro e w4 ⟨rfl, hb4⟩
          have hz4 : w2.heap.size < w4.heap.size := by have := hb4.size; simp at this; omega
          have HT4 := Lib.hid (show w4.there w.heap.size 0 6 from there_below (World.there_alloc HT.out _) (by simp; omega) hb4)
          have HR4 := Lib.hid (show w4.rangeAt w2.heap.size 0 [.int .i64 (n : Int), .string ⟨b.toArray⟩, .string ⟨#[]⟩, .string ⟨#[]⟩, .string ⟨#[]⟩, .string ⟨vl.toArray⟩] from rangeAt_below (rangeAt_new w2 _ _) (by simp) hb4)
          have HK4 := Lib.hid (show w4.there w2.heap.size 0 6 from there_below (there_new w2 [.int .i64 (n : Int), .string ⟨b.toArray⟩, .string ⟨#[]⟩, .string ⟨#[]⟩, .string ⟨#[]⟩, .string ⟨vl.toArray⟩] _) (by simp) hb4)
          have Hb4 := Lib.hid (show Below w.heap.size w w4 from (Hb.out.alloc Hb.out.size _).trans (hb4.mono (by simp; omega)))
          clear hb4
          cases nb with
          | false =>
            go_wp2_with ((with_reducible refine wpList_store_hid (op := ⟨none, .store 104 _ _, _, _, _, none⟩) rfl 104 _ _ rfl w.heap.size 0 [.int .i64 0, .string ⟨#[]⟩, .string ⟨#[]⟩, .string ⟨#[]⟩, .string ⟨#[]⟩, .string ⟨#[]⟩] ?_ ?_ ?_ ?_ ?_ ?_); rfl; rfl; (first | exact World.there_alloc HT4.out _ | exact HT4.out); kernel_rfl; (simp [Value.oneCell']); intro w9 HS9)
            have HZ := Lib.hid (show w9.rangeAt w.heap.size 0 [.int .i64 0, .string ⟨#[]⟩, .string ⟨#[]⟩, .string ⟨#[]⟩, .string ⟨#[]⟩, .string ⟨#[]⟩] from by rw [HS9.out]; exact World.rangeAt_setCells_same _ _ _ _ (by first | exact World.there_alloc HT4.out _ | exact HT4.out))
            refine bodyPost_ret (v := .tuple #[.agg ([.int .i64 0, .string ⟨#[]⟩, .string ⟨#[]⟩, .string ⟨#[]⟩, .string ⟨#[]⟩, .string ⟨#[]⟩] : List Value).toArray, .bool false]) ?_ rfl ?_
            · exact results_cell_tmp Tryd.results60 _ _ w.heap.size [.int .i64 0, .string ⟨#[]⟩, .string ⟨#[]⟩, .string ⟨#[]⟩, .string ⟨#[]⟩, .string ⟨#[]⟩] _ _ rfl rfl HZ.out Tryd.underlying104 rfl (by kernel_rfl)
            · exact IfPost.no (Hno.out (fun m h => by have := ((Hhead.out m).1 h).2.2.2; cases this)) rfl (by rw [HS9.out]; refine below_setCells _ (Nat.le_refl _) _ _ _ ?_; first | with_reducible exact Hb4.out | exact Hb4.out.alloc Hb4.out.size _)
          | true =>
            have Hok := Lib.hid (show headOk a b n from (Hhead.out n).2 ⟨rfl, h0, h200, rfl⟩)
            have HF2 := Lib.hid (HF.out.trans (show fieldP st [a, b] vl td = if td = true then none else some ⟨n, b, Kd.nil, vl⟩ from by rw [Hst0.out]; exact fieldP_E Hok.out))
            clear Hno Hhead HF
            have n82 : ((st.toNat : Int) != 82) = true := bne_byte (c := st) (d := 82) (by rw [Hst0.out]; decide)
            cases td with
            | true =>
              go_wp2_with ((with_reducible refine wpList_store_hid (op := ⟨none, .store 104 _ _, _, _, _, none⟩) rfl 104 _ _ rfl w.heap.size 0 [.int .i64 0, .string ⟨#[]⟩, .string ⟨#[]⟩, .string ⟨#[]⟩, .string ⟨#[]⟩, .string ⟨#[]⟩] ?_ ?_ ?_ ?_ ?_ ?_); rfl; rfl; (first | exact World.there_alloc HT4.out _ | exact HT4.out); kernel_rfl; (simp [Value.oneCell']); intro w9 HS9)
              have HZ := Lib.hid (show w9.rangeAt w.heap.size 0 [.int .i64 0, .string ⟨#[]⟩, .string ⟨#[]⟩, .string ⟨#[]⟩, .string ⟨#[]⟩, .string ⟨#[]⟩] from by rw [HS9.out]; exact World.rangeAt_setCells_same _ _ _ _ (by first | exact World.there_alloc HT4.out _ | exact HT4.out))
              refine bodyPost_ret (v := .tuple #[.agg ([.int .i64 0, .string ⟨#[]⟩, .string ⟨#[]⟩, .string ⟨#[]⟩, .string ⟨#[]⟩, .string ⟨#[]⟩] : List Value).toArray, .bool false]) ?_ rfl ?_
              · exact results_cell_tmp Tryd.results60 _ _ w.heap.size [.int .i64 0, .string ⟨#[]⟩, .string ⟨#[]⟩, .string ⟨#[]⟩, .string ⟨#[]⟩, .string ⟨#[]⟩] _ _ rfl rfl HZ.out Tryd.underlying104 rfl (by kernel_rfl)
              · exact IfPost.no (HF2.out.trans (by simp)) rfl (by rw [HS9.out]; refine below_setCells _ (Nat.le_refl _) _ _ _ ?_; first | with_reducible exact Hb4.out | exact Hb4.out.alloc Hb4.out.size _)
            | false =>
              go_wp2_with (first | ((with_reducible refine wpList_store_hid (op := ⟨none, .store 104 _ _, _, _, _, none⟩) rfl 104 _ _ rfl w.heap.size 0 [.int .i64 (n : Int), .string ⟨b.toArray⟩, .string ⟨#[]⟩, .string ⟨#[]⟩, .string ⟨#[]⟩, .string ⟨vl.toArray⟩] ?_ ?_ ?_ ?_ ?_ ?_); rfl; rfl; (first | exact World.there_alloc HT4.out _ | exact HT4.out); kernel_rfl; (simp [Value.oneCell']); intro w9 HS9) | ((with_reducible refine wpList_load_mid (op := ⟨_, .load 104 _, _, _, _, none⟩) rfl 104 _ rfl w2.heap.size 0 ?_ [.int .i64 (n : Int), .string ⟨b.toArray⟩, .string ⟨#[]⟩, .string ⟨#[]⟩, .string ⟨#[]⟩, .string ⟨vl.toArray⟩] _ HR4.out Tryd.underlying104 ?_ ?_ ?_); rfl; rfl; kernel_rfl))
              have HZ := Lib.hid (show w9.rangeAt w.heap.size 0 [.int .i64 (n : Int), .string ⟨b.toArray⟩, .string ⟨#[]⟩, .string ⟨#[]⟩, .string ⟨#[]⟩, .string ⟨vl.toArray⟩] from by rw [HS9.out]; exact World.rangeAt_setCells_same _ _ _ _ (by first | exact World.there_alloc HT4.out _ | exact HT4.out))
              refine bodyPost_ret (v := .tuple #[.agg ([.int .i64 (n : Int), .string ⟨b.toArray⟩, .string ⟨#[]⟩, .string ⟨#[]⟩, .string ⟨#[]⟩, .string ⟨vl.toArray⟩] : List Value).toArray, .bool true]) ?_ rfl ?_
              · exact results_cell_tmp Tryd.results60 _ _ w.heap.size [.int .i64 (n : Int), .string ⟨b.toArray⟩, .string ⟨#[]⟩, .string ⟨#[]⟩, .string ⟨#[]⟩, .string ⟨vl.toArray⟩] _ _ rfl rfl HZ.out Tryd.underlying104 rfl (by kernel_rfl)
              · exact IfPost.yes (HF2.out.trans (if_neg (fun h => by cases h))) rfl (by rw [HS9.out]; refine below_setCells _ (Nat.le_refl _) _ _ _ ?_; first | with_reducible exact Hb4.out | exact Hb4.out.alloc Hb4.out.size _)
  · have Hno := Lib.hid (HF.out.trans (fieldP_len (vl := vl) (td := td) (st := st) (ps := ps) (by rw [if_pos Hst0.out]; exact hlen)))
    have hl1 : ¬ (ps.length : Int) = 2 := by omega
    have hl2 : ((ps.length : Int) != 2) = true := by rw [bne_iff_ne]; exact hl1
    clear HF Hpl Hcells
    go_wp2_with ((with_reducible refine wpList_store_hid (op := ⟨none, .store 104 _ _, _, _, _, none⟩) rfl 104 _ _ rfl w.heap.size 0 [.int .i64 0, .string ⟨#[]⟩, .string ⟨#[]⟩, .string ⟨#[]⟩, .string ⟨#[]⟩, .string ⟨#[]⟩] ?_ ?_ ?_ ?_ ?_ ?_); rfl; rfl; (first | exact World.there_alloc HT.out _ | exact HT.out); kernel_rfl; (simp [Value.oneCell']); intro w9 HS9)
    have HZ := Lib.hid (show w9.rangeAt w.heap.size 0 [.int .i64 0, .string ⟨#[]⟩, .string ⟨#[]⟩, .string ⟨#[]⟩, .string ⟨#[]⟩, .string ⟨#[]⟩] from by rw [HS9.out]; exact World.rangeAt_setCells_same _ _ _ _ (by first | exact World.there_alloc HT.out _ | exact HT.out))
    refine bodyPost_ret (v := .tuple #[.agg ([.int .i64 0, .string ⟨#[]⟩, .string ⟨#[]⟩, .string ⟨#[]⟩, .string ⟨#[]⟩, .string ⟨#[]⟩] : List Value).toArray, .bool false]) ?_ rfl ?_
    · exact results_cell_tmp Tryd.results60 _ _ w.heap.size [.int .i64 0, .string ⟨#[]⟩, .string ⟨#[]⟩, .string ⟨#[]⟩, .string ⟨#[]⟩, .string ⟨#[]⟩] _ _ rfl rfl HZ.out Tryd.underlying104 rfl (by kernel_rfl)
    · exact IfPost.no Hno.out rfl (by rw [HS9.out]; refine below_setCells _ (Nat.le_refl _) _ _ _ ?_; first | with_reducible exact Hb.out | exact Hb.out.alloc Hb.out.size _)
set_option maxHeartbeats 1000000 in
theorem iField_R (st : UInt8) (hst : st ≠ 69) (s : List UInt8) (w : World) (hs : s.length ≤ 4000000) :
    Calls Tryd.prog 60 #[.string ⟨s.toArray⟩, .int .u8 (st.toNat : Int)] w (IfPost (fieldI st s) w) := by
  have HF := Lib.hid (fieldP_eq st s)
  have Hcut := Lib.hid (fun W => Cut_any s 61 W (by omega))
  have hcl := (cutL_len 61 s).1
  have hvl := (cutL_len 61 s).2
  generalize cutL 61 s = r at HF Hcut hcl hvl
  obtain ⟨hd, vl, td⟩ := r
  simp only at hcl hvl HF
  have Hsp := Lib.hid (fun W => Split_any hd 58 W (by omega))
  have hne := splitL_ne 58 hd
  have Hpl := Lib.hid (splitL_plen 58 hd)
  generalize splitL 58 hd = ps at HF Hsp hne Hpl
  have e69 : ((st.toNat : Int) == 69) = false := byte_ne hst
  have n69 : ((st.toNat : Int) != 69) = true := bne_byte hst
  have Hst0 := Lib.hid hst
  clear hst
  go_enter Tryd.func60, Tryd.ntmps60
  go_wp2_with fail
  refine (Hcut.out _).mono ?_
  rintro e w1 ⟨rfl, k1, rfl⟩
  unfold cutV
  go_wp2_with fail
  refine (Hsp.out _).mono ?_
  rintro e w2 ⟨v, rfl, ho, hb⟩
  obtain ⟨g, c, rfl, hg1, hg2, hcells⟩ := own_texts ho hne
  have hzz : w.heap.size < w2.heap.size := by have := hb.size; simp at this; omega
  have HT := Lib.hid (show w2.there w.heap.size 0 6 from there_below (there_drewN (there_new w [.int .i64 0, .string ⟨#[]⟩, .string ⟨#[]⟩, .string ⟨#[]⟩, .string ⟨#[]⟩, .string ⟨#[]⟩] 104) k1) (by simp) hb)
  have Hb := Lib.hid (show Below w.heap.size w w2 from (below_drewN ((Below.refl w.heap.size w).alloc (Nat.le_refl _) _) k1).trans (hb.mono (by simp)))
  have Hcells := Lib.hid hcells
  clear hb ho hcells hne
  by_cases hlen : ps.length = 3
  · obtain ⟨a, b, d, rfl⟩ := parts3 hlen
    have c0 := Hcells.out 0 (by simp)
    have c1 := Hcells.out 1 (by simp)
    have c2 := Hcells.out 2 (by simp)
    simp at c0 c1 c2
    have la : a.length ≤ 4000000 := by have := Hpl.out a (by simp); omega
    have lb : b.length ≤ 4000000 := by have := Hpl.out b (by simp); omega
    have ld : d.length ≤ 4000000 := by have := Hpl.out d (by simp); omega
    clear Hpl Hcells hlen
    have hpn := fun W => (show Calls Tryd.prog 74 #[.string ⟨a.toArray⟩, .int .i64 200] W fun e w' => e = .returned (pnV a 200) ∧ W = w' from plainNumber_any a 200 W (by omega) (by decide))
    have Hhead := Lib.hid (show ∀ n, headOk a b n ↔ decL a = some n ∧ 1 ≤ n ∧ n ≤ 200 ∧ nameOk b = true from fun n => Iff.rfl)
    have Hno := Lib.hid (fun (h : ∀ n, ¬ headOk a b n) => HF.out.trans (fieldP_head h))
    generalize hda : decL a = od at *
    have Hda := Lib.hid hda
    clear hda
    cases od with
    | none =>
      have Hpn := Lib.hid (fun W => (pnV_no (m := 200) Hda.out) ▸ hpn W)
      clear hpn
      go_wp2_with fail
      refine (Hpn.out _).mono ?_
      rintro e w3 ⟨rfl, rfl⟩
      go_wp2_with ((with_reducible refine wpList_store_hid (op := ⟨none, .store 104 _ _, _, _, _, none⟩) rfl 104 _ _ rfl w.heap.size 0 [.int .i64 0, .string ⟨#[]⟩, .string ⟨#[]⟩, .string ⟨#[]⟩, .string ⟨#[]⟩, .string ⟨#[]⟩] ?_ ?_ ?_ ?_ ?_ ?_); rfl; rfl; (first | exact World.there_alloc HT.out _ | exact HT.out); kernel_rfl; (simp [Value.oneCell']); intro w9 HS9)
      have HZ := Lib.hid (show w9.rangeAt w.heap.size 0 [.int .i64 0, .string ⟨#[]⟩, .string ⟨#[]⟩, .string ⟨#[]⟩, .string ⟨#[]⟩, .string ⟨#[]⟩] from by rw [HS9.out]; exact World.rangeAt_setCells_same _ _ _ _ (by first | exact World.there_alloc HT.out _ | exact HT.out))
      refine bodyPost_ret (v := .tuple #[.agg ([.int .i64 0, .string ⟨#[]⟩, .string ⟨#[]⟩, .string ⟨#[]⟩, .string ⟨#[]⟩, .string ⟨#[]⟩] : List Value).toArray, .bool false]) ?_ rfl ?_
      · exact results_cell_tmp Tryd.results60 _ _ w.heap.size [.int .i64 0, .string ⟨#[]⟩, .string ⟨#[]⟩, .string ⟨#[]⟩, .string ⟨#[]⟩, .string ⟨#[]⟩] _ _ rfl rfl HZ.out Tryd.underlying104 rfl (by kernel_rfl)
      · exact IfPost.no (Hno.out (fun n h => by have := ((Hhead.out n).1 h).1; cases this)) rfl (by rw [HS9.out]; refine below_setCells _ (Nat.le_refl _) _ _ _ ?_; first | with_reducible exact Hb.out | exact Hb.out.alloc Hb.out.size _)
    | some n =>
      have Hpn := Lib.hid (fun W => (pnV_yes (m := 200) Hda.out) ▸ hpn W)
      clear hpn
      have hn9 : n ≤ 999999 := (decL_some.1 Hda.out).1
      rcases Nat.lt_or_ge 200 n with h200 | h200
      · have Hdec := Lib.hid (show decide (n ≤ 200) = false by simp; omega)
        rw [Hdec.out] at Hpn
        go_wp2_with fail
        refine (Hpn.out _).mono ?_
        rintro e w3 ⟨rfl, rfl⟩
        go_wp2_with ((with_reducible refine wpList_store_hid (op := ⟨none, .store 104 _ _, _, _, _, none⟩) rfl 104 _ _ rfl w.heap.size 0 [.int .i64 0, .string ⟨#[]⟩, .string ⟨#[]⟩, .string ⟨#[]⟩, .string ⟨#[]⟩, .string ⟨#[]⟩] ?_ ?_ ?_ ?_ ?_ ?_); rfl; rfl; (first | exact World.there_alloc HT.out _ | exact HT.out); kernel_rfl; (simp [Value.oneCell']); intro w9 HS9)
        have HZ := Lib.hid (show w9.rangeAt w.heap.size 0 [.int .i64 0, .string ⟨#[]⟩, .string ⟨#[]⟩, .string ⟨#[]⟩, .string ⟨#[]⟩, .string ⟨#[]⟩] from by rw [HS9.out]; exact World.rangeAt_setCells_same _ _ _ _ (by first | exact World.there_alloc HT.out _ | exact HT.out))
        refine bodyPost_ret (v := .tuple #[.agg ([.int .i64 0, .string ⟨#[]⟩, .string ⟨#[]⟩, .string ⟨#[]⟩, .string ⟨#[]⟩, .string ⟨#[]⟩] : List Value).toArray, .bool false]) ?_ rfl ?_
        · exact results_cell_tmp Tryd.results60 _ _ w.heap.size [.int .i64 0, .string ⟨#[]⟩, .string ⟨#[]⟩, .string ⟨#[]⟩, .string ⟨#[]⟩, .string ⟨#[]⟩] _ _ rfl rfl HZ.out Tryd.underlying104 rfl (by kernel_rfl)
        · exact IfPost.no (Hno.out (fun m h => by have h' := (Hhead.out m).1 h; have := h'.1; cases this; omega)) rfl (by rw [HS9.out]; refine below_setCells _ (Nat.le_refl _) _ _ _ ?_; first | with_reducible exact Hb.out | exact Hb.out.alloc Hb.out.size _)
      · have Hdec := Lib.hid (show decide (n ≤ 200) = true by simp; omega)
        rw [Hdec.out] at Hpn
        rcases Nat.eq_zero_or_pos n with h0 | h0
        · subst h0
          go_wp2_with fail
          refine (Hpn.out _).mono ?_
          rintro e w3 ⟨rfl, rfl⟩
          go_wp2_with ((with_reducible refine wpList_store_hid (op := ⟨none, .store 104 _ _, _, _, _, none⟩) rfl 104 _ _ rfl w.heap.size 0 [.int .i64 0, .string ⟨#[]⟩, .string ⟨#[]⟩, .string ⟨#[]⟩, .string ⟨#[]⟩, .string ⟨#[]⟩] ?_ ?_ ?_ ?_ ?_ ?_); rfl; rfl; (first | exact World.there_alloc HT.out _ | exact HT.out); kernel_rfl; (simp [Value.oneCell']); intro w9 HS9)
          have HZ := Lib.hid (show w9.rangeAt w.heap.size 0 [.int .i64 0, .string ⟨#[]⟩, .string ⟨#[]⟩, .string ⟨#[]⟩, .string ⟨#[]⟩, .string ⟨#[]⟩] from by rw [HS9.out]; exact World.rangeAt_setCells_same _ _ _ _ (by first | exact World.there_alloc HT.out _ | exact HT.out))
          refine bodyPost_ret (v := .tuple #[.agg ([.int .i64 0, .string ⟨#[]⟩, .string ⟨#[]⟩, .string ⟨#[]⟩, .string ⟨#[]⟩, .string ⟨#[]⟩] : List Value).toArray, .bool false]) ?_ rfl ?_
          · exact results_cell_tmp Tryd.results60 _ _ w.heap.size [.int .i64 0, .string ⟨#[]⟩, .string ⟨#[]⟩, .string ⟨#[]⟩, .string ⟨#[]⟩, .string ⟨#[]⟩] _ _ rfl rfl HZ.out Tryd.underlying104 rfl (by kernel_rfl)
          · exact IfPost.no (Hno.out (fun m h => by have h' := (Hhead.out m).1 h; have := h'.1; cases this; omega)) rfl (by rw [HS9.out]; refine below_setCells _ (Nat.le_refl _) _ _ _ ?_; first | with_reducible exact Hb.out | exact Hb.out.alloc Hb.out.size _)
        · have hlt1 : decide ((n : Int) < 1) = false := by rw [decide_eq_false_iff_not]; omega
          have Hname := Lib.hid (fun W => isName_any b W (by omega))
          generalize hnb : nameOk b = nb at *
          have Hnb := Lib.hid hnb
          clear hnb
          go_wp2_with fail
          refine (Hpn.out _).mono ?_
          rintro e w3 ⟨rfl, rfl⟩
          go_wp2_with fail
          refine (Hname.out _).mono ?_
          rintro e w4 ⟨rfl, hb4⟩
          have hz4 : w2.heap.size < w4.heap.size := by have := hb4.size; simp at this; omega
          have HT4 := Lib.hid (show w4.there w.heap.size 0 6 from there_below (World.there_alloc HT.out _) (by simp; omega) hb4)
          have HR4 := Lib.hid (show w4.rangeAt w2.heap.size 0 [.int .i64 (n : Int), .string ⟨b.toArray⟩, .string ⟨#[]⟩, .string ⟨#[]⟩, .string ⟨#[]⟩, .string ⟨vl.toArray⟩] from rangeAt_below (rangeAt_new w2 _ _) (by simp) hb4)
          have HK4 := Lib.hid (show w4.there w2.heap.size 0 6 from there_below (there_new w2 [.int .i64 (n : Int), .string ⟨b.toArray⟩, .string ⟨#[]⟩, .string ⟨#[]⟩, .string ⟨#[]⟩, .string ⟨vl.toArray⟩] _) (by simp) hb4)
          have Hb4 := Lib.hid (show Below w.heap.size w w4 from (Hb.out.alloc Hb.out.size _).trans (hb4.mono (by simp; omega)))
          have c2x : w4.cell? ⟨g, 2, none⟩ = some (.string ⟨d.toArray⟩) := (hb4.cell (p := ⟨g, 2, none⟩) (by simp; omega)).trans (by rw [World.cell?_alloc_old _ _ _ (by simp; omega)]; exact c2)
          clear hb4
          cases nb with
          | false =>
            go_wp2_with ((with_reducible refine wpList_store_hid (op := ⟨none, .store 104 _ _, _, _, _, none⟩) rfl 104 _ _ rfl w.heap.size 0 [.int .i64 0, .string ⟨#[]⟩, .string ⟨#[]⟩, .string ⟨#[]⟩, .string ⟨#[]⟩, .string ⟨#[]⟩] ?_ ?_ ?_ ?_ ?_ ?_); rfl; rfl; (first | exact World.there_alloc HT4.out _ | exact HT4.out); kernel_rfl; (simp [Value.oneCell']); intro w9 HS9)
            have HZ := Lib.hid (show w9.rangeAt w.heap.size 0 [.int .i64 0, .string ⟨#[]⟩, .string ⟨#[]⟩, .string ⟨#[]⟩, .string ⟨#[]⟩, .string ⟨#[]⟩] from by rw [HS9.out]; exact World.rangeAt_setCells_same _ _ _ _ (by first | exact World.there_alloc HT4.out _ | exact HT4.out))
            refine bodyPost_ret (v := .tuple #[.agg ([.int .i64 0, .string ⟨#[]⟩, .string ⟨#[]⟩, .string ⟨#[]⟩, .string ⟨#[]⟩, .string ⟨#[]⟩] : List Value).toArray, .bool false]) ?_ rfl ?_
            · exact results_cell_tmp Tryd.results60 _ _ w.heap.size [.int .i64 0, .string ⟨#[]⟩, .string ⟨#[]⟩, .string ⟨#[]⟩, .string ⟨#[]⟩, .string ⟨#[]⟩] _ _ rfl rfl HZ.out Tryd.underlying104 rfl (by kernel_rfl)
            · exact IfPost.no (Hno.out (fun m h => by have := ((Hhead.out m).1 h).2.2.2; cases this)) rfl (by rw [HS9.out]; refine below_setCells _ (Nat.le_refl _) _ _ _ ?_; first | with_reducible exact Hb4.out | exact Hb4.out.alloc Hb4.out.size _)
          | true =>
            have Hok := Lib.hid (show headOk a b n from (Hhead.out n).2 ⟨rfl, h0, h200, rfl⟩)
            have HF2 := Lib.hid (HF.out.trans (fieldP_R (c := d) (vl := vl) (td := td) Hst0.out Hok.out))
            clear Hno Hhead HF
            have Hkd := Lib.hid (fun W => readKind_any d W ld)
            have Hkok := Lib.hid (fun k (h : kindL d = some k) => (kindL_some.1 h).1)
            generalize kindL d = ok at HF2 Hkd Hkok
            go_wp2_with fail
            refine (Hkd.out _).mono ?_
            rintro e w5 ⟨hcase, hb5⟩
            have HT5 := Lib.hid (show w5.there w.heap.size 0 6 from there_below HT4.out (by omega) hb5)
            have HR5 := Lib.hid (show w5.rangeAt w2.heap.size 0 _ from rangeAt_below HR4.out hz4 hb5)
            have HK5 := Lib.hid (show w5.there w2.heap.size 0 6 from there_below HK4.out hz4 hb5)
            have Hb5 := Lib.hid (Hb4.out.trans (hb5.mono Hb4.out.size))
            have hz5 : w2.heap.size < w5.heap.size := Nat.lt_of_lt_of_le hz4 hb5.size
            clear hb5
            cases ok with
            | none =>
              obtain ⟨a1, a2, a3, rfl⟩ := hcase
              go_wp2_with (first | ((with_reducible refine wpList_store_hid (op := ⟨none, .store 32 _ _, _, _, _, none⟩) rfl 32 _ _ rfl w2.heap.size 2 [.string a1, .string a2, .string a3] ?_ ?_ ?_ ?_ ?_ ?_); rfl; rfl; (exact there_sub HK5.out 2 3 (by decide) (by decide)); kernel_rfl; (simp [Value.oneCell']); intro w6 HS6; have HT6 := Lib.hid (show w6.there w.heap.size 0 6 from HS6.out ▸ World.there_setCells HT5.out _ _ _); have HR6 := Lib.hid (show w6.rangeAt w2.heap.size 0 [.int .i64 (n : Int), .string ⟨b.toArray⟩, .string a1, .string a2, .string a3, .string ⟨vl.toArray⟩] from HS6.out ▸ rangeAt_setCells_in [.int .i64 (n : Int), .string ⟨b.toArray⟩] [.string ⟨#[]⟩, .string ⟨#[]⟩, .string ⟨#[]⟩] [.string ⟨vl.toArray⟩] [.string a1, .string a2, .string a3] HR5.out rfl); have Hb6 := Lib.hid (show Below w.heap.size w w6 from HS6.out ▸ below_setCells _ (Nat.le_of_lt hzz) _ _ _ Hb5.out); have hz6 : w2.heap.size < w6.heap.size := (by rw [HS6.out, setCells_size]; exact hz5); have z2 : w6.cell? ⟨w2.heap.size, 2, none⟩ = some (.string a1) := (by simpa using rangeAt_cell HR6.out 2 rfl); have z3 : w6.cell? ⟨w2.heap.size, 3, none⟩ = some (.string a2) := (by simpa using rangeAt_cell HR6.out 3 rfl); clear HT5 HR5 HK5 HS6) | ((with_reducible refine wpList_store_hid (op := ⟨none, .store 104 _ _, _, _, _, none⟩) rfl 104 _ _ rfl w.heap.size 0 [.int .i64 0, .string ⟨#[]⟩, .string ⟨#[]⟩, .string ⟨#[]⟩, .string ⟨#[]⟩, .string ⟨#[]⟩] ?_ ?_ ?_ ?_ ?_ ?_); rfl; rfl; (first | exact World.there_alloc HT6.out _ | exact HT6.out); kernel_rfl; (simp [Value.oneCell']); intro w9 HS9))
              have HZ := Lib.hid (show w9.rangeAt w.heap.size 0 [.int .i64 0, .string ⟨#[]⟩, .string ⟨#[]⟩, .string ⟨#[]⟩, .string ⟨#[]⟩, .string ⟨#[]⟩] from by rw [HS9.out]; exact World.rangeAt_setCells_same _ _ _ _ (by first | exact World.there_alloc HT6.out _ | exact HT6.out))
              refine bodyPost_ret (v := .tuple #[.agg ([.int .i64 0, .string ⟨#[]⟩, .string ⟨#[]⟩, .string ⟨#[]⟩, .string ⟨#[]⟩, .string ⟨#[]⟩] : List Value).toArray, .bool false]) ?_ rfl ?_
              · exact results_cell_tmp Tryd.results60 _ _ w.heap.size [.int .i64 0, .string ⟨#[]⟩, .string ⟨#[]⟩, .string ⟨#[]⟩, .string ⟨#[]⟩, .string ⟨#[]⟩] _ _ rfl rfl HZ.out Tryd.underlying104 rfl (by kernel_rfl)
              · exact IfPost.no HF2.out rfl (by rw [HS9.out]; refine below_setCells _ (Nat.le_refl _) _ _ _ ?_; first | with_reducible exact Hb6.out | exact Hb6.out.alloc Hb6.out.size _)
            | some k =>
              have hcase' : e = .returned (.tuple #[.agg #[.string ⟨k.signs.toArray⟩, .string ⟨k.base.toArray⟩, .string ⟨k.name.toArray⟩], .bool true]) := hcase
              subst hcase'
              clear hcase
              have Hkk := Lib.hid (Hkok.out k rfl)
              have HF3 := Lib.hid (show fieldI st s = if td = true ∧ ¬ (st = 82 ∧ k.signs = [] ∧ standOk k.base vl = true) then none else some ⟨n, b, k, vl⟩ from HF2.out)
              clear HF2 Hkok
              cases td with
              | false =>
                go_wp2_with (first | ((with_reducible refine wpList_store_hid (op := ⟨none, .store 32 _ _, _, _, _, none⟩) rfl 32 _ _ rfl w2.heap.size 2 [.string ⟨k.signs.toArray⟩, .string ⟨k.base.toArray⟩, .string ⟨k.name.toArray⟩] ?_ ?_ ?_ ?_ ?_ ?_); rfl; rfl; (exact there_sub HK5.out 2 3 (by decide) (by decide)); kernel_rfl; (simp [Value.oneCell']); intro w6 HS6; have HT6 := Lib.hid (show w6.there w.heap.size 0 6 from HS6.out ▸ World.there_setCells HT5.out _ _ _); have HR6 := Lib.hid (show w6.rangeAt w2.heap.size 0 [.int .i64 (n : Int), .string ⟨b.toArray⟩, .string ⟨k.signs.toArray⟩, .string ⟨k.base.toArray⟩, .string ⟨k.name.toArray⟩, .string ⟨vl.toArray⟩] from HS6.out ▸ rangeAt_setCells_in [.int .i64 (n : Int), .string ⟨b.toArray⟩] [.string ⟨#[]⟩, .string ⟨#[]⟩, .string ⟨#[]⟩] [.string ⟨vl.toArray⟩] [.string ⟨k.signs.toArray⟩, .string ⟨k.base.toArray⟩, .string ⟨k.name.toArray⟩] HR5.out rfl); have Hb6 := Lib.hid (show Below w.heap.size w w6 from HS6.out ▸ below_setCells _ (Nat.le_of_lt hzz) _ _ _ Hb5.out); have hz6 : w2.heap.size < w6.heap.size := (by rw [HS6.out, setCells_size]; exact hz5); have z2 : w6.cell? ⟨w2.heap.size, 2, none⟩ = some (.string ⟨k.signs.toArray⟩) := (by simpa using rangeAt_cell HR6.out 2 rfl); have z3 : w6.cell? ⟨w2.heap.size, 3, none⟩ = some (.string ⟨k.base.toArray⟩) := (by simpa using rangeAt_cell HR6.out 3 rfl); clear HT5 HR5 HK5 HS6) | ((with_reducible refine wpList_store_hid (op := ⟨none, .store 104 _ _, _, _, _, none⟩) rfl 104 _ _ rfl w.heap.size 0 [.int .i64 (n : Int), .string ⟨b.toArray⟩, .string ⟨k.signs.toArray⟩, .string ⟨k.base.toArray⟩, .string ⟨k.name.toArray⟩, .string ⟨vl.toArray⟩] ?_ ?_ ?_ ?_ ?_ ?_); rfl; rfl; (first | exact World.there_alloc HT6.out _ | exact HT6.out); kernel_rfl; (simp [Value.oneCell']); intro w9 HS9) | ((with_reducible refine wpList_load_mid (op := ⟨_, .load 104 _, _, _, _, none⟩) rfl 104 _ rfl w2.heap.size 0 ?_ [.int .i64 (n : Int), .string ⟨b.toArray⟩, .string ⟨k.signs.toArray⟩, .string ⟨k.base.toArray⟩, .string ⟨k.name.toArray⟩, .string ⟨vl.toArray⟩] _ HR6.out Tryd.underlying104 ?_ ?_ ?_); rfl; rfl; kernel_rfl))
                have HZ := Lib.hid (show w9.rangeAt w.heap.size 0 [.int .i64 (n : Int), .string ⟨b.toArray⟩, .string ⟨k.signs.toArray⟩, .string ⟨k.base.toArray⟩, .string ⟨k.name.toArray⟩, .string ⟨vl.toArray⟩] from by rw [HS9.out]; exact World.rangeAt_setCells_same _ _ _ _ (by first | exact World.there_alloc HT6.out _ | exact HT6.out))
                refine bodyPost_ret (v := .tuple #[.agg ([.int .i64 (n : Int), .string ⟨b.toArray⟩, .string ⟨k.signs.toArray⟩, .string ⟨k.base.toArray⟩, .string ⟨k.name.toArray⟩, .string ⟨vl.toArray⟩] : List Value).toArray, .bool true]) ?_ rfl ?_
                · exact results_cell_tmp Tryd.results60 _ _ w.heap.size [.int .i64 (n : Int), .string ⟨b.toArray⟩, .string ⟨k.signs.toArray⟩, .string ⟨k.base.toArray⟩, .string ⟨k.name.toArray⟩, .string ⟨vl.toArray⟩] _ _ rfl rfl HZ.out Tryd.underlying104 rfl (by kernel_rfl)
                · exact IfPost.yes (HF3.out.trans (if_neg (by simp))) rfl (by rw [HS9.out]; refine below_setCells _ (Nat.le_refl _) _ _ _ ?_; first | with_reducible exact Hb6.out | exact Hb6.out.alloc Hb6.out.size _)
              | true =>
                rcases Decidable.em (st = 82) with h82 | h82
                · have n82 : ((st.toNat : Int) != 82) = false := bne_byte_no (c := st) (d := 82) h82
                  rcases Decidable.em (k.signs = []) with hsg | hsg
                  · have hsg1 : (k.signs != []) = false := by simp [hsg]
                    have hsg2 : k.signs.isEmpty = true := by simp [hsg]
                    have hsg3 : (!k.signs.isEmpty) = false := by simp [hsg]
                    have hbl := base_baseL Hkk.out.2.1
                    have Hst := Lib.hid (fun W => standing_any k.base vl W hbl (by omega))
                    have Hst2 := Lib.hid (show fieldI st s = if standOk k.base vl = true then some ⟨n, b, k, vl⟩ else none from by
                      rw [HF3.out]
                      by_cases hh : standOk k.base vl = true
                      · rw [if_neg (by simp [h82, hsg, hh]), if_pos hh]
                      · rw [if_pos (by simp [hh]), if_neg hh])
                    generalize standOk k.base vl = sb at Hst Hst2
                    clear hsg h82 hbl
                    go_wp2_with ((with_reducible refine wpList_store_hid (op := ⟨none, .store 32 _ _, _, _, _, none⟩) rfl 32 _ _ rfl w2.heap.size 2 [.string ⟨k.signs.toArray⟩, .string ⟨k.base.toArray⟩, .string ⟨k.name.toArray⟩] ?_ ?_ ?_ ?_ ?_ ?_); rfl; rfl; (exact there_sub HK5.out 2 3 (by decide) (by decide)); kernel_rfl; (simp [Value.oneCell']); intro w6 HS6; have HT6 := Lib.hid (show w6.there w.heap.size 0 6 from HS6.out ▸ World.there_setCells HT5.out _ _ _); have HR6 := Lib.hid (show w6.rangeAt w2.heap.size 0 [.int .i64 (n : Int), .string ⟨b.toArray⟩, .string ⟨k.signs.toArray⟩, .string ⟨k.base.toArray⟩, .string ⟨k.name.toArray⟩, .string ⟨vl.toArray⟩] from HS6.out ▸ rangeAt_setCells_in [.int .i64 (n : Int), .string ⟨b.toArray⟩] [.string ⟨#[]⟩, .string ⟨#[]⟩, .string ⟨#[]⟩] [.string ⟨vl.toArray⟩] [.string ⟨k.signs.toArray⟩, .string ⟨k.base.toArray⟩, .string ⟨k.name.toArray⟩] HR5.out rfl); have Hb6 := Lib.hid (show Below w.heap.size w w6 from HS6.out ▸ below_setCells _ (Nat.le_of_lt hzz) _ _ _ Hb5.out); have hz6 : w2.heap.size < w6.heap.size := (by rw [HS6.out, setCells_size]; exact hz5); have z2 : w6.cell? ⟨w2.heap.size, 2, none⟩ = some (.string ⟨k.signs.toArray⟩) := (by simpa using rangeAt_cell HR6.out 2 rfl); have z3 : w6.cell? ⟨w2.heap.size, 3, none⟩ = some (.string ⟨k.base.toArray⟩) := (by simpa using rangeAt_cell HR6.out 3 rfl); clear HT5 HR5 HK5 HS6)
                    refine (Hst.out _).mono ?_
                    rintro e w7 ⟨rfl, hb7⟩
                    have HT7 := Lib.hid (show w7.there w.heap.size 0 6 from there_below HT6.out (by omega) hb7)
                    have HR7 := Lib.hid (show w7.rangeAt w2.heap.size 0 _ from rangeAt_below HR6.out hz6 hb7)
                    have Hb7 := Lib.hid (Hb6.out.trans (hb7.mono Hb6.out.size))
                    clear hb7 z2 z3
                    cases sb with
                    | true =>
                      go_wp2_with (first | ((with_reducible refine wpList_store_hid (op := ⟨none, .store 104 _ _, _, _, _, none⟩) rfl 104 _ _ rfl w.heap.size 0 [.int .i64 (n : Int), .string ⟨b.toArray⟩, .string ⟨k.signs.toArray⟩, .string ⟨k.base.toArray⟩, .string ⟨k.name.toArray⟩, .string ⟨vl.toArray⟩] ?_ ?_ ?_ ?_ ?_ ?_); rfl; rfl; (first | exact World.there_alloc HT7.out _ | exact HT7.out); kernel_rfl; (simp [Value.oneCell']); intro w9 HS9) | ((with_reducible refine wpList_load_mid (op := ⟨_, .load 104 _, _, _, _, none⟩) rfl 104 _ rfl w2.heap.size 0 ?_ [.int .i64 (n : Int), .string ⟨b.toArray⟩, .string ⟨k.signs.toArray⟩, .string ⟨k.base.toArray⟩, .string ⟨k.name.toArray⟩, .string ⟨vl.toArray⟩] _ HR7.out Tryd.underlying104 ?_ ?_ ?_); rfl; rfl; kernel_rfl))
                      have HZ := Lib.hid (show w9.rangeAt w.heap.size 0 [.int .i64 (n : Int), .string ⟨b.toArray⟩, .string ⟨k.signs.toArray⟩, .string ⟨k.base.toArray⟩, .string ⟨k.name.toArray⟩, .string ⟨vl.toArray⟩] from by rw [HS9.out]; exact World.rangeAt_setCells_same _ _ _ _ (by first | exact World.there_alloc HT7.out _ | exact HT7.out))
                      refine bodyPost_ret (v := .tuple #[.agg ([.int .i64 (n : Int), .string ⟨b.toArray⟩, .string ⟨k.signs.toArray⟩, .string ⟨k.base.toArray⟩, .string ⟨k.name.toArray⟩, .string ⟨vl.toArray⟩] : List Value).toArray, .bool true]) ?_ rfl ?_
                      · exact results_cell_tmp Tryd.results60 _ _ w.heap.size [.int .i64 (n : Int), .string ⟨b.toArray⟩, .string ⟨k.signs.toArray⟩, .string ⟨k.base.toArray⟩, .string ⟨k.name.toArray⟩, .string ⟨vl.toArray⟩] _ _ rfl rfl HZ.out Tryd.underlying104 rfl (by kernel_rfl)
                      · exact IfPost.yes (Hst2.out.trans (if_pos (by simp))) rfl (by rw [HS9.out]; refine below_setCells _ (Nat.le_refl _) _ _ _ ?_; first | with_reducible exact Hb7.out | exact Hb7.out.alloc Hb7.out.size _)
                    | false =>
                      go_wp2_with ((with_reducible refine wpList_store_hid (op := ⟨none, .store 104 _ _, _, _, _, none⟩) rfl 104 _ _ rfl w.heap.size 0 [.int .i64 0, .string ⟨#[]⟩, .string ⟨#[]⟩, .string ⟨#[]⟩, .string ⟨#[]⟩, .string ⟨#[]⟩] ?_ ?_ ?_ ?_ ?_ ?_); rfl; rfl; (first | exact World.there_alloc HT7.out _ | exact HT7.out); kernel_rfl; (simp [Value.oneCell']); intro w9 HS9)
                      have HZ := Lib.hid (show w9.rangeAt w.heap.size 0 [.int .i64 0, .string ⟨#[]⟩, .string ⟨#[]⟩, .string ⟨#[]⟩, .string ⟨#[]⟩, .string ⟨#[]⟩] from by rw [HS9.out]; exact World.rangeAt_setCells_same _ _ _ _ (by first | exact World.there_alloc HT7.out _ | exact HT7.out))
                      refine bodyPost_ret (v := .tuple #[.agg ([.int .i64 0, .string ⟨#[]⟩, .string ⟨#[]⟩, .string ⟨#[]⟩, .string ⟨#[]⟩, .string ⟨#[]⟩] : List Value).toArray, .bool false]) ?_ rfl ?_
                      · exact results_cell_tmp Tryd.results60 _ _ w.heap.size [.int .i64 0, .string ⟨#[]⟩, .string ⟨#[]⟩, .string ⟨#[]⟩, .string ⟨#[]⟩, .string ⟨#[]⟩] _ _ rfl rfl HZ.out Tryd.underlying104 rfl (by kernel_rfl)
                      · exact IfPost.no (Hst2.out.trans (if_neg (by decide))) rfl (by rw [HS9.out]; refine below_setCells _ (Nat.le_refl _) _ _ _ ?_; first | with_reducible exact Hb7.out | exact Hb7.out.alloc Hb7.out.size _)
                  · have hsg1 : (k.signs != []) = true := by simp [hsg]
                    have hsg2 : k.signs.isEmpty = false := by simp [hsg]
                    have hsg3 : (!k.signs.isEmpty) = true := by simp [hsg]
                    have Hw := Lib.hid (HF3.out.trans (if_pos ⟨rfl, fun h => hsg h.2.1⟩))
                    clear hsg h82
                    go_wp2_with (first | ((with_reducible refine wpList_store_hid (op := ⟨none, .store 32 _ _, _, _, _, none⟩) rfl 32 _ _ rfl w2.heap.size 2 [.string ⟨k.signs.toArray⟩, .string ⟨k.base.toArray⟩, .string ⟨k.name.toArray⟩] ?_ ?_ ?_ ?_ ?_ ?_); rfl; rfl; (exact there_sub HK5.out 2 3 (by decide) (by decide)); kernel_rfl; (simp [Value.oneCell']); intro w6 HS6; have HT6 := Lib.hid (show w6.there w.heap.size 0 6 from HS6.out ▸ World.there_setCells HT5.out _ _ _); have HR6 := Lib.hid (show w6.rangeAt w2.heap.size 0 [.int .i64 (n : Int), .string ⟨b.toArray⟩, .string ⟨k.signs.toArray⟩, .string ⟨k.base.toArray⟩, .string ⟨k.name.toArray⟩, .string ⟨vl.toArray⟩] from HS6.out ▸ rangeAt_setCells_in [.int .i64 (n : Int), .string ⟨b.toArray⟩] [.string ⟨#[]⟩, .string ⟨#[]⟩, .string ⟨#[]⟩] [.string ⟨vl.toArray⟩] [.string ⟨k.signs.toArray⟩, .string ⟨k.base.toArray⟩, .string ⟨k.name.toArray⟩] HR5.out rfl); have Hb6 := Lib.hid (show Below w.heap.size w w6 from HS6.out ▸ below_setCells _ (Nat.le_of_lt hzz) _ _ _ Hb5.out); have hz6 : w2.heap.size < w6.heap.size := (by rw [HS6.out, setCells_size]; exact hz5); have z2 : w6.cell? ⟨w2.heap.size, 2, none⟩ = some (.string ⟨k.signs.toArray⟩) := (by simpa using rangeAt_cell HR6.out 2 rfl); have z3 : w6.cell? ⟨w2.heap.size, 3, none⟩ = some (.string ⟨k.base.toArray⟩) := (by simpa using rangeAt_cell HR6.out 3 rfl); clear HT5 HR5 HK5 HS6) | ((with_reducible refine wpList_store_hid (op := ⟨none, .store 104 _ _, _, _, _, none⟩) rfl 104 _ _ rfl w.heap.size 0 [.int .i64 0, .string ⟨#[]⟩, .string ⟨#[]⟩, .string ⟨#[]⟩, .string ⟨#[]⟩, .string ⟨#[]⟩] ?_ ?_ ?_ ?_ ?_ ?_); rfl; rfl; (first | exact World.there_alloc HT6.out _ | exact HT6.out); kernel_rfl; (simp [Value.oneCell']); intro w9 HS9))
                    have HZ := Lib.hid (show w9.rangeAt w.heap.size 0 [.int .i64 0, .string ⟨#[]⟩, .string ⟨#[]⟩, .string ⟨#[]⟩, .string ⟨#[]⟩, .string ⟨#[]⟩] from by rw [HS9.out]; exact World.rangeAt_setCells_same _ _ _ _ (by first | exact World.there_alloc HT6.out _ | exact HT6.out))
                    refine bodyPost_ret (v := .tuple #[.agg ([.int .i64 0, .string ⟨#[]⟩, .string ⟨#[]⟩, .string ⟨#[]⟩, .string ⟨#[]⟩, .string ⟨#[]⟩] : List Value).toArray, .bool false]) ?_ rfl ?_
                    · exact results_cell_tmp Tryd.results60 _ _ w.heap.size [.int .i64 0, .string ⟨#[]⟩, .string ⟨#[]⟩, .string ⟨#[]⟩, .string ⟨#[]⟩, .string ⟨#[]⟩] _ _ rfl rfl HZ.out Tryd.underlying104 rfl (by kernel_rfl)
                    · exact IfPost.no Hw.out rfl (by rw [HS9.out]; refine below_setCells _ (Nat.le_refl _) _ _ _ ?_; first | with_reducible exact Hb6.out | exact Hb6.out.alloc Hb6.out.size _)
                · have n82 : ((st.toNat : Int) != 82) = true := bne_byte (c := st) (d := 82) h82
                  have Hw := Lib.hid (HF3.out.trans (if_pos ⟨rfl, fun h => h82 h.1⟩))
                  clear h82
                  go_wp2_with (first | ((with_reducible refine wpList_store_hid (op := ⟨none, .store 32 _ _, _, _, _, none⟩) rfl 32 _ _ rfl w2.heap.size 2 [.string ⟨k.signs.toArray⟩, .string ⟨k.base.toArray⟩, .string ⟨k.name.toArray⟩] ?_ ?_ ?_ ?_ ?_ ?_); rfl; rfl; (exact there_sub HK5.out 2 3 (by decide) (by decide)); kernel_rfl; (simp [Value.oneCell']); intro w6 HS6; have HT6 := Lib.hid (show w6.there w.heap.size 0 6 from HS6.out ▸ World.there_setCells HT5.out _ _ _); have HR6 := Lib.hid (show w6.rangeAt w2.heap.size 0 [.int .i64 (n : Int), .string ⟨b.toArray⟩, .string ⟨k.signs.toArray⟩, .string ⟨k.base.toArray⟩, .string ⟨k.name.toArray⟩, .string ⟨vl.toArray⟩] from HS6.out ▸ rangeAt_setCells_in [.int .i64 (n : Int), .string ⟨b.toArray⟩] [.string ⟨#[]⟩, .string ⟨#[]⟩, .string ⟨#[]⟩] [.string ⟨vl.toArray⟩] [.string ⟨k.signs.toArray⟩, .string ⟨k.base.toArray⟩, .string ⟨k.name.toArray⟩] HR5.out rfl); have Hb6 := Lib.hid (show Below w.heap.size w w6 from HS6.out ▸ below_setCells _ (Nat.le_of_lt hzz) _ _ _ Hb5.out); have hz6 : w2.heap.size < w6.heap.size := (by rw [HS6.out, setCells_size]; exact hz5); have z2 : w6.cell? ⟨w2.heap.size, 2, none⟩ = some (.string ⟨k.signs.toArray⟩) := (by simpa using rangeAt_cell HR6.out 2 rfl); have z3 : w6.cell? ⟨w2.heap.size, 3, none⟩ = some (.string ⟨k.base.toArray⟩) := (by simpa using rangeAt_cell HR6.out 3 rfl); clear HT5 HR5 HK5 HS6) | ((with_reducible refine wpList_store_hid (op := ⟨none, .store 104 _ _, _, _, _, none⟩) rfl 104 _ _ rfl w.heap.size 0 [.int .i64 0, .string ⟨#[]⟩, .string ⟨#[]⟩, .string ⟨#[]⟩, .string ⟨#[]⟩, .string ⟨#[]⟩] ?_ ?_ ?_ ?_ ?_ ?_); rfl; rfl; (first | exact World.there_alloc HT6.out _ | exact HT6.out); kernel_rfl; (simp [Value.oneCell']); intro w9 HS9))
                  have HZ := Lib.hid (show w9.rangeAt w.heap.size 0 [.int .i64 0, .string ⟨#[]⟩, .string ⟨#[]⟩, .string ⟨#[]⟩, .string ⟨#[]⟩, .string ⟨#[]⟩] from by rw [HS9.out]; exact World.rangeAt_setCells_same _ _ _ _ (by first | exact World.there_alloc HT6.out _ | exact HT6.out))
                  refine bodyPost_ret (v := .tuple #[.agg ([.int .i64 0, .string ⟨#[]⟩, .string ⟨#[]⟩, .string ⟨#[]⟩, .string ⟨#[]⟩, .string ⟨#[]⟩] : List Value).toArray, .bool false]) ?_ rfl ?_
                  · exact results_cell_tmp Tryd.results60 _ _ w.heap.size [.int .i64 0, .string ⟨#[]⟩, .string ⟨#[]⟩, .string ⟨#[]⟩, .string ⟨#[]⟩, .string ⟨#[]⟩] _ _ rfl rfl HZ.out Tryd.underlying104 rfl (by kernel_rfl)
                  · exact IfPost.no Hw.out rfl (by rw [HS9.out]; refine below_setCells _ (Nat.le_refl _) _ _ _ ?_; first | with_reducible exact Hb6.out | exact Hb6.out.alloc Hb6.out.size _)
  · have Hno := Lib.hid (HF.out.trans (fieldP_len (vl := vl) (td := td) (st := st) (ps := ps) (by rw [if_neg Hst0.out]; exact hlen)))
    have hl1 : ¬ (ps.length : Int) = 3 := by omega
    have hl2 : ((ps.length : Int) != 3) = true := by rw [bne_iff_ne]; exact hl1
    clear HF Hpl Hcells
    go_wp2_with ((with_reducible refine wpList_store_hid (op := ⟨none, .store 104 _ _, _, _, _, none⟩) rfl 104 _ _ rfl w.heap.size 0 [.int .i64 0, .string ⟨#[]⟩, .string ⟨#[]⟩, .string ⟨#[]⟩, .string ⟨#[]⟩, .string ⟨#[]⟩] ?_ ?_ ?_ ?_ ?_ ?_); rfl; rfl; (first | exact World.there_alloc HT.out _ | exact HT.out); kernel_rfl; (simp [Value.oneCell']); intro w9 HS9)
    have HZ := Lib.hid (show w9.rangeAt w.heap.size 0 [.int .i64 0, .string ⟨#[]⟩, .string ⟨#[]⟩, .string ⟨#[]⟩, .string ⟨#[]⟩, .string ⟨#[]⟩] from by rw [HS9.out]; exact World.rangeAt_setCells_same _ _ _ _ (by first | exact World.there_alloc HT.out _ | exact HT.out))
    refine bodyPost_ret (v := .tuple #[.agg ([.int .i64 0, .string ⟨#[]⟩, .string ⟨#[]⟩, .string ⟨#[]⟩, .string ⟨#[]⟩, .string ⟨#[]⟩] : List Value).toArray, .bool false]) ?_ rfl ?_
    · exact results_cell_tmp Tryd.results60 _ _ w.heap.size [.int .i64 0, .string ⟨#[]⟩, .string ⟨#[]⟩, .string ⟨#[]⟩, .string ⟨#[]⟩, .string ⟨#[]⟩] _ _ rfl rfl HZ.out Tryd.underlying104 rfl (by kernel_rfl)
    · exact IfPost.no Hno.out rfl (by rw [HS9.out]; refine below_setCells _ (Nat.le_refl _) _ _ _ ?_; first | with_reducible exact Hb.out | exact Hb.out.alloc Hb.out.size _)
end Go.Proofs.YtcjfgbcdlcdeaaaDoor
/- readType of the program: a line without fields. -/
namespace Go.Proofs.YtcjfgbcdlcdeaaaDoor
open Go.RowKit
set_option maxRecDepth 100000
set_option linter.unusedVariables false
set_option linter.unusedSimpArgs false
attribute [local go_sem] ba_get ba_toList ba_extract take_drop_all ByteArray.mk_append_mk

theorem readField_any (st : UInt8) (hst : sortOk st) (s : List UInt8) (w : World) (hs : s.length ≤ 4000000) :
    Calls Tryd.prog 60 #[.string ⟨s.toArray⟩, .int .u8 (st.toNat : Int)] w (IfPost (fieldI st s) w) := by
  by_cases h : st = 69
  · exact iField_E st h s w hs
  · exact iField_R st h s w hs
/-- What reading a type leaves. -/
def ItPost (o : Option Ty) (w : World) (e : Ending) (w' : World) : Prop :=
  (match o with
    | some t => ∃ x : PT, x.ty = t ∧ e = .returned (.tuple #[x.ptr, .bool true]) ∧ w.heap.size ≤ x.blk ∧ ITy w' x ∧ ∀ k, x.fv.ownBlock = some k → w.heap.size ≤ k
    | none => ∃ p : Option Addr, e = .returned (.tuple #[.pointer p, .bool false])) ∧ Below w.heap.size w w'
theorem ItPost.no {w w' : World} {e : Ending} {o : Option Ty} (ho : o = none) {p : Option Addr} (he : e = .returned (.tuple #[.pointer p, .bool false])) (hb : Below w.heap.size w w') : ItPost o w e w' := by
  rw [ho]; exact ⟨⟨p, he⟩, hb⟩
theorem ItPost.yes {w w' : World} {e : Ending} {o : Option Ty} {t : Ty} (ho : o = some t) {b : Nat} {fv : Value} (he : e = .returned (.tuple #[.pointer (some ⟨b, 0, none⟩), .bool true])) (hwb : w.heap.size ≤ b) (ht : ITy w' ⟨t, b, fv⟩) (hf : ∀ k, fv.ownBlock = some k → w.heap.size ≤ k) (hb : Below w.heap.size w w') : ItPost o w e w' := by
  rw [ho]; exact ⟨⟨⟨t, b, fv⟩, rfl, he, hwb, ht, hf⟩, hb⟩

theorem sort_mem (c : UInt8) : decide (c ∈ ([82, 85, 69] : List UInt8)) = decide (sortOk c) := by
  rw [decide_eq_decide]; unfold sortOk; simp

theorem iType_nil (w : World) : Calls Tryd.prog 44 #[.string ⟨#[]⟩] w (ItPost (typeI []) w) := by
  go_enter Tryd.func44, Tryd.ntmps44
  go_wp2_with fail
  go_ret2
  exact ItPost.no rfl rfl (Below.refl _ _)

set_option maxHeartbeats 1000000 in
theorem iType_sort (c : UInt8) (r : List UInt8) (w : World) (hs : r.length ≤ 3999999) (hc : ¬ sortOk c) : Calls Tryd.prog 44 #[.string ⟨(c :: r).toArray⟩] w (ItPost (typeI (c :: r)) w) := by
  have HF := Lib.hid (show typeI (c :: r) = none by unfold typeI; simp only; rw [if_pos (.inl hc)])
  have Hc := Lib.hid (fun W => (show Calls Tryd.prog 58 #[.string ⟨#[82, 85, 69]⟩, .string ⟨#[c]⟩] W fun e w' => e = .returned (.bool false) ∧ W = w' from by
    have := Contains_any [82, 85, 69] c W
    rw [sort_mem, decide_eq_false hc] at this
    exact this))
  clear hc
  go_enter Tryd.func44, Tryd.ntmps44
  go_wp2_with fail
  refine (Hc.out _).mono ?_
  rintro e w' ⟨rfl, rfl⟩
  go_wp2_with fail
  go_ret2
  exact ItPost.no HF.out rfl (Below.refl _ _)

set_option maxHeartbeats 1000000 in
theorem iType_head (c : UInt8) (r : List UInt8) (w : World) (hs : r.length ≤ 3999999) (hc : sortOk c) (h : (cutL 61 r).2.2 = false ∨ nameOk (cutL 61 r).1 = false ∨ (cutL 61 r).2.1 = []) : Calls Tryd.prog 44 #[.string ⟨(c :: r).toArray⟩] w (ItPost (typeI (c :: r)) w) := by
  have HF := Lib.hid (show typeI (c :: r) = if (cutL 61 r).2.2 = false ∨ nameOk (cutL 61 r).1 = false then none else (if c = 82 then some ⟨c, (cutL 61 r).1, []⟩ else none) by
    unfold typeI
    simp only
    by_cases h1 : (cutL 61 r).2.2 = false ∨ nameOk (cutL 61 r).1 = false
    · rw [if_pos (.inr h1), if_pos h1]
    · have h2 : (cutL 61 r).2.1 = [] := by
        rcases h with h | h | h
        · exact absurd (.inl h) h1
        · exact absurd (.inr h) h1
        · exact h
      rw [if_neg (fun h3 => h3.elim (fun h3 => h3 hc) h1), if_neg h1, if_pos h2])
  have Hc := Lib.hid (fun W => (show Calls Tryd.prog 58 #[.string ⟨#[82, 85, 69]⟩, .string ⟨#[c]⟩] W fun e w' => e = .returned (.bool true) ∧ W = w' from by
    have := Contains_any [82, 85, 69] c W
    rw [sort_mem, decide_eq_true hc] at this
    exact this))
  have Hl := Lib.hid (fun (f : (cutL 61 r).2.2 = true ∧ (cutL 61 r).2.1 = []) => show tyB ⟨c, (cutL 61 r).1, []⟩ = c :: r from by
    rcases cutL_cases 61 r with ⟨_, e⟩ | ⟨p, t, e1, _, e⟩
    · rw [e] at f; cases f.1
    · rw [e] at f ⊢
      simp only at f
      have := f.2
      subst this
      rw [e1]; rfl)
  have Hcut := Lib.hid (fun W => Cut_any r 61 W (by omega))
  have hcl := (cutL_len 61 r).1
  generalize cutL 61 r = q at *
  obtain ⟨nm, rest, told⟩ := q
  simp only at hcl HF h Hl
  have Hh := Lib.hid h
  have Hc82 := Lib.hid hc
  clear hc h
  go_enter Tryd.func44, Tryd.ntmps44
  go_wp2_with fail
  refine (Hc.out _).mono ?_
  rintro e w' ⟨rfl, rfl⟩
  go_wp2_with fail
  refine (Hcut.out _).mono ?_
  rintro e w1 ⟨rfl, k1, rfl⟩
  unfold cutV
  cases told with
  | false =>
    go_wp2_with fail
    go_ret2
    exact ItPost.no (HF.out.trans (if_pos (by simp))) rfl (below_drewN (Below.refl _ _) _)
  | true =>
    have Hname := Lib.hid (fun W => isName_any nm W (by omega))
    generalize hnb : nameOk nm = nb at *
    have Hnb := Lib.hid hnb
    clear hnb
    go_wp2_with fail
    refine (Hname.out _).mono ?_
    rintro e w2 ⟨rfl, hb2⟩
    have Hb2 := Lib.hid (show Below w.heap.size w w2 from (below_drewN (Below.refl _ _) k1).trans (by simpa using hb2))
    clear hb2
    cases nb with
    | false =>
      go_wp2_with fail
      go_ret2
      exact ItPost.no (HF.out.trans (if_pos (by simp))) rfl Hb2.out
    | true =>
      obtain rfl : rest = [] := by
        rcases Hh.out with h | h | h
        · cases h
        · cases h
        · exact h
      have HF2 := Lib.hid (HF.out.trans (if_neg (by simp)))
      have Hl2 := Lib.hid (Hl.out (by simp))
      have hz := Hb2.out.size
      rcases Decidable.em (c = 82) with h82 | h82
      · have t1 : ((c.toNat : Int) == 82) = true := byte_eq (d := 82) h82
        have HF3 := Lib.hid (HF2.out.trans (if_pos h82))
        clear h82
        go_wp2_with fail
        go_quiet (fail)
        go_wp2_with fail
        go_ret2
        refine ItPost.yes HF3.out (b := w2.heap.size) (fv := .slice none 0 0) rfl Hb2.out.size ?_ (fun k hk => by simp [Value.ownBlock] at hk) (by repeat (first | exact Hb2.out.alloc Hb2.out.size _ | refine Below.drew ?_ | refine below_drewN ?_ _))
        refine ⟨by simp, by first | exact Blk.new _ _ _ | exact Blk.belowAt (Blk.new w2 _ _) (by simp) (by first | exact below_drewN (Below.refl _ _) _ | exact (Below.refl _ _).drew), by simp, by simp, by simp, ?_, none, 0, rfl, by simp, rfl, Nat.zero_le _, fun h => absurd h (by simp)⟩
        rw [Hl2.out]; simp
      · have t1 : ((c.toNat : Int) == 82) = false := byte_ne (d := 82) h82
        have HF3 := Lib.hid (HF2.out.trans (if_neg h82))
        clear h82
        go_wp2_with fail
        go_quiet (fail)
        go_wp2_with fail
        go_ret2
        exact ItPost.no HF3.out rfl (by repeat (first | exact Hb2.out.alloc Hb2.out.size _ | refine Below.drew ?_ | refine below_drewN ?_ _))

/-- What a line with fields tells. -/
def finP (c : UInt8) (nm : List UInt8) : Option (List Fd) → Option Ty
  | some r => some ⟨c, nm, r⟩
  | none => none
theorem typeI_fields {c : UInt8} {r nm rest : List UInt8} (hc : sortOk c) (h : cutL 61 r = (nm, rest, true)) (hn : nameOk nm = true) (hr : rest ≠ []) : typeI (c :: r) = finP c nm (fieldsI c (splitL 44 rest) []) := by
  unfold typeI
  simp only [h]
  rw [if_neg (by simp [hc, hn]), if_neg hr]
  cases fieldsI c (splitL 44 rest) [] <;> rfl
theorem fieldsI_step {c : UInt8} {ps : List (List UInt8)} {acc : List Fd} {k : Nat} (hk : k < ps.length) : fieldsI c (ps.drop k) acc = (match fieldI c ps[k] with | none => none | some f => if acc.length = 8 ∨ fitsIn acc f = false then none else fieldsI c (ps.drop (k + 1)) (acc ++ [f])) := by
  rw [List.drop_eq_getElem_cons hk, fieldsI]
  cases fieldI c ps[k] <;> rfl
theorem fitsIn_all {acc : List Fd} {f : Fd} (h : ∀ g ∈ acc, g.name ≠ f.name ∧ g.tag < f.tag) : fitsIn acc f = true := fitsIn_iff.2 h
theorem fits_no' {acc : List Fd} {f x : Fd} (hx : x ∈ acc) (h : f.tag ≤ x.tag ∨ x.name = f.name) : fitsIn acc f = false := by
  cases hh : fitsIn acc f with
  | false => rfl
  | true =>
    obtain ⟨h1, h2⟩ := fitsIn_iff.1 hh x hx
    rcases h with h | h
    · omega
    · exact absurd h h1
theorem grown_set (w : World) (a : Addr) (v : Value) : w.grownBy (w.setCell a v) (some a.block) :=
  ⟨rfl, rfl, rfl, by simp, fun k _ hk => Go.heap_setCell_other _ _ _ _ (fun e => hk (by rw [e]))⟩
theorem own_slice {w : World} {base k n : Nat} {e : TypeId} {v : Value} {xs : List Value} (h : w.ownsRow base e k v n xs) : ∃ A m c, v = .slice A m c := by
  rcases h.2 with ⟨rfl, _⟩ | ⟨g, cap, cur, rfl, _⟩
  · exact ⟨_, _, _, rfl⟩
  · exact ⟨_, _, _, rfl⟩
theorem own_oneCell {w : World} {base k n : Nat} {e : TypeId} {v : Value} {xs : List Value} (h : w.ownsRow base e k v n xs) : v.oneCell' = true := by
  obtain ⟨_, _, _, rfl⟩ := own_slice h
  rfl
/-- One field of a row that is read, as a range. -/
theorem IFds.range {w : World} {A : Option Addr} {fs : List Fd} (hr : RowAt w A (fs.length * 6) (fs.flatMap ifc)) {i : Nat} (hi : i < fs.length) : ∃ b off, A = some ⟨b, off, none⟩ ∧ b < w.heap.size ∧ w.rangeAt b (off + i * 6) (ifc fs[i]) := by
  obtain ⟨b, off, e, hlt, hc⟩ := hr.elem ifc_len (by decide) hi
  exact ⟨b, off, e, hlt, fun j v hv => by rw [Nat.add_assoc]; exact hc j v hv⟩
theorem Tryd.infoIf : (Tryd.prog.info? 104).map (fun i => (i.zero, i.size, i.bytes)) = some (some (.agg #[.int .i64 0, .string ⟨#[]⟩, .string ⟨#[]⟩, .string ⟨#[]⟩, .string ⟨#[]⟩, .string ⟨#[]⟩]), 6, 88) := by kernel_rfl
theorem ifc_one (fs : List Fd) : ∀ y ∈ fs.flatMap ifc, y.oneCell' = true := by
  intro y hy
  obtain ⟨f, _, hf⟩ := List.mem_flatMap.1 hy
  simp [ifc] at hf
  rcases hf with rfl | rfl | rfl | rfl | rfl | rfl <;> rfl
end Go.Proofs.YtcjfgbcdlcdeaaaDoor
/- The reference's texts of types: joined parts; the text of a type. -/
namespace Go.Proofs.YtcjfgbcdlcdeaaaDoor
open Go.RowKit
set_option maxRecDepth 100000
set_option linter.unusedVariables false
set_option linter.unusedSimpArgs false
attribute [local go_sem] ba_get ba_toList ba_extract take_drop_all ByteArray.mk_append_mk

theorem joinL_snoc (c : UInt8) (p : List UInt8) : ∀ (l : List (List UInt8)), joinL c (l ++ [p]) = if l = [] then p else joinL c l ++ c :: p
  | [] => rfl
  | [q] => rfl
  | q :: r :: l => by
    have ih := joinL_snoc c p (r :: l)
    rw [if_neg (by simp)] at ih ⊢
    rw [List.cons_append, joinL_cons c q (by simp), ih, joinL_cons c q (by simp)]
    simp
theorem joinL_len (c : UInt8) (m : Nat) : ∀ (l : List (List UInt8)), (∀ p ∈ l, p.length ≤ m) → (joinL c l).length ≤ l.length * (m + 1)
  | [], _ => by simp [joinL]
  | [q], h => by have := h q (by simp); simp [joinL]; omega
  | q :: r :: l, h => by
    have h1 := h q (by simp)
    have h2 := joinL_len c m (r :: l) (fun p hp => h p (by simp [hp]))
    rw [joinL_cons c q (by simp), List.length_append, List.length_cons, List.length_cons, Nat.add_mul]
    omega

set_option maxHeartbeats 1000000 in
theorem sJoin_any (A : Option Addr) (c : Nat) (ps : List (List UInt8)) (w : World) (hr : RowAt w A ps.length (scells ps)) (hl : ps.length ≤ 100) (hp : ∀ p ∈ ps, p.length ≤ 10000) :
    Calls Tryd.prog 28 #[.slice A ps.length c] w fun e w' => e = .returned (.string ⟨(joinL 44 ps).toArray⟩) ∧ w = w' := by
  have Hr := Lib.hid hr
  have Hp := Lib.hid hp
  clear hr hp
  go_enter Tryd.func28, Tryd.ntmps28
  go_wp2_with fail
  go_loop [4, 3] (fun i s => ∃ k : Nat, i = .int .i64 k ∧ k ≤ ps.length ∧ s = .string ⟨(joinL 44 (ps.take k)).toArray⟩) (fun i _ => ps.length - (intOf i).toNat)
  case atStart => exact ⟨0, rfl, Nat.zero_le _, rfl⟩
  case round =>
    obtain ⟨k, rfl, hk, rfl⟩ := hrel
    have k1 : (0 : Int) ≤ (k : Int) := by omega
    have hjl := joinL_len 44 10000 (ps.take k) (fun p hp => Hp.out p (List.mem_of_mem_take hp))
    rw [List.length_take, Nat.min_eq_left hk] at hjl
    by_cases hlt : k < ps.length
    · have k2 : (k : Int) < (ps.length : Int) := by omega
      obtain ⟨b, off, rfl, hb, hc⟩ := Hr.out.at_ hlt
      have c0 : w.cell? ⟨b, off + k, none⟩ = some (.string ⟨ps[k].toArray⟩) := by rw [hc]; simp [scells]
      have Hsn := Lib.hid (show joinL 44 (ps.take (k + 1)) = if ps.take k = [] then ps[k] else joinL 44 (ps.take k) ++ 44 :: ps[k] from by rw [take_snoc ps k hlt]; exact joinL_snoc 44 ps[k] (ps.take k))
      have hpl := Hp.out _ (List.getElem_mem hlt)
      have He : Hid (ps.take k = [] ↔ k = 0) := by
        constructor
        · intro h
          have := congrArg List.length h
          rw [List.length_take, Nat.min_eq_left hk] at this
          simpa using this
        · rintro rfl; rfl
      generalize ps[k] = p at c0 Hsn hpl
      clear hc
      by_cases h0 : k = 0
      · have h0i : ¬ (0 : Int) < (k : Int) := by omega
        have Hs2 := Lib.hid (Hsn.out.trans (if_pos (He.out.2 h0)))
        have hj0 : joinL 44 (ps.take k) = [] := by rw [He.out.2 h0]; rfl
        rw [hj0]
        clear h0 hjl hj0
        go_wp2_with fail
        go_round
        case rel => exact ⟨k + 1, by go_num, by omega, by rw [Hs2.out]⟩
        case measure => simp [intOf]; omega
      · have h0i : (0 : Int) < (k : Int) := by omega
        have Hs2 := Lib.hid (Hsn.out.trans (if_neg (fun h => h0 (He.out.1 h))))
        generalize joinL 44 (ps.take k) = js at *
        clear h0
        go_wp2_with fail
        go_round
        case rel => exact ⟨k + 1, by go_num, by omega, by rw [Hs2.out]⟩
        case measure => simp [intOf]; omega
    · obtain rfl : k = ps.length := by omega
      have Hfin : Hid (ps.take ps.length = ps) := List.take_length
      go_wp2_with fail
      go_ret
      exact ⟨by first | rfl | rw [Hfin.out], rfl⟩
/-- What the text of a type asks of its fields. -/
def FShort (st : UInt8) (f : Fd) : Prop := f.tag ≤ 200 ∧ f.name.length ≤ 100 ∧ (kdB f.kind).length ≤ 100 ∧ f.given.length ≤ 100 ∧ (st = 69 → f.given = [])
theorem fdB_len {st : UInt8} {f : Fd} (h : FShort st f) : (fdB st f).length ≤ 400 := by
  obtain ⟨h1, h2, h3, h4, _⟩ := h
  have hd := decB_len 2 f.tag (by have e : 10 ^ (2 + 1) = 1000 := rfl; omega)
  unfold fdB tailB
  split
  · simp; omega
  · split
    · simp; omega
    · simp; omega
set_option maxHeartbeats 4000000 in
theorem sOut20_any (t : Ty) (fv : Value) (w : World) (hf : SFds w fv t.fields) (h8 : t.fields.length ≤ 20) (hnm : t.name.length ≤ 100) (hs : ∀ f ∈ t.fields, FShort t.sort f) :
    Calls Tryd.prog 17 #[styV t fv] w fun e w' => e = .returned (.string ⟨(tyB t ++ [10]).toArray⟩) ∧ Below w.heap.size w w' := by
  obtain ⟨A, c, rfl, _, hrow⟩ := hf
  have Hrow := Lib.hid hrow
  have Hs := Lib.hid hs
  have HF : Hid (tyB t ++ [10] = t.sort :: (t.name ++ 61 :: (joinL 44 (t.fields.map (fdB t.sort)) ++ [10]))) := by unfold tyB Hid; simp
  have hcl := t.sort.toNat_lt
  unfold styV
  clear hrow hs
  go_enter Tryd.func17, Tryd.ntmps17
  go_wp2_with fail
  obtain ⟨w2, hw2⟩ : ∃ w2, w2 = (w.alloc (.cells #[.int .u8 (t.sort.toNat : Int), .string ⟨t.name.toArray⟩, .slice A t.fields.length c] 48)).alloc (.cells #[] 9) := ⟨_, rfl⟩
  rw [← hw2]
  have T0 := Lib.hid (show w2.cell? ⟨w.heap.size, 0, none⟩ = some (.int .u8 (t.sort.toNat : Int)) from by rw [hw2]; simp [go_sem])
  have T1 := Lib.hid (show w2.cell? ⟨w.heap.size, 1, none⟩ = some (.string ⟨t.name.toArray⟩) from by rw [hw2]; simp [go_sem])
  have T2 := Lib.hid (show w2.cell? ⟨w.heap.size, 2, none⟩ = some (.slice A t.fields.length c) from by rw [hw2]; simp [go_sem])
  have Hb2 := Lib.hid (show Below w.heap.size w w2 from by rw [hw2]; exact ((Below.refl _ _).alloc (Nat.le_refl _) _).alloc (by simp) _)
  have hz2 : w2.heap.size = w.heap.size + 2 := by rw [hw2]; simp
  have Hown2 := Lib.hid (show w2.ownsRow (w.heap.size + 1) 9 1 (.slice (some ⟨w.heap.size + 1, 0, none⟩) 0 0) 0 [] from ⟨rfl, .inr ⟨w.heap.size + 1, 0, #[], rfl, Nat.le_refl _, by rw [hw2]; have := heap_alloc_new (w.alloc (.cells #[.int .u8 (t.sort.toNat : Int), .string ⟨t.name.toArray⟩, .slice A t.fields.length c] 48)) (.cells #[] 9); simpa using this, Nat.le_refl _, Nat.zero_le _, rfl, rfl⟩⟩)
  clear hw2
  go_loopw [4, 3] (fun i lv wr => ∃ k : Nat, i = .int .i64 k ∧ k ≤ t.fields.length ∧ Hid (wr.ownsRow (w.heap.size + 1) 9 1 lv k (scells ((t.fields.take k).map (fdB t.sort)))) ∧ Hid (Below (w.heap.size + 1) w2 wr)) (fun i _ _ => t.fields.length - (intOf i).toNat)
  case atStart => exact ⟨0, rfl, Nat.zero_le _, Hown2.out, Below.refl _ _⟩
  case round =>
    obtain ⟨k, rfl, hk, hown, hbr⟩ := hrel
    have k1 : (0 : Int) ≤ (k : Int) := by omega
    have hzr : w2.heap.size ≤ wr.heap.size := hbr.out.size
    have t0 : wr.cell? ⟨w.heap.size, 0, none⟩ = some (.int .u8 (t.sort.toNat : Int)) := (hbr.out.cell (p := ⟨w.heap.size, 0, none⟩) (Nat.lt_succ_self _)).trans T0.out
    have t1 : wr.cell? ⟨w.heap.size, 1, none⟩ = some (.string ⟨t.name.toArray⟩) := (hbr.out.cell (p := ⟨w.heap.size, 1, none⟩) (Nat.lt_succ_self _)).trans T1.out
    have t2 : wr.cell? ⟨w.heap.size, 2, none⟩ = some (.slice A t.fields.length c) := (hbr.out.cell (p := ⟨w.heap.size, 2, none⟩) (Nat.lt_succ_self _)).trans T2.out
    have Hbw := Lib.hid (show Below w.heap.size w wr from Hb2.out.trans (hbr.out.mono (by omega)))
    obtain ⟨A3, n3, c3, hlv⟩ := own_slice hown.out
    subst hlv
    by_cases hlt : k < t.fields.length
    · have k2 : (k : Int) < (t.fields.length : Int) := by omega
      obtain ⟨b, off, rfl, hbl, g0, g1, g2, g3⟩ := SFds.at_ (Hrow.out.below Hbw.out) hlt
      have Hts := Lib.hid (take_snoc t.fields k hlt)
      have Hfs := Lib.hid (Hs.out _ (List.getElem_mem hlt))
      generalize t.fields[k] = f at g0 g1 g2 g3 Hts Hfs
      obtain ⟨f1, f2, f3, f4, f5⟩ := Hfs.out
      have Hf5 := Lib.hid f5
      have hdl := decB_len 2 f.tag (by have e : 10 ^ (2 + 1) = 1000 := rfl; omega)
      have Hd := Lib.hid (fun W => l6Dec_any f.tag f.tag W (Nat.le_refl _) (by omega))
      have hbn : ¬ (b = wr.heap.size) := by omega
      clear f5
      go_wp2_with fail
      obtain ⟨W5, hW5⟩ : ∃ W5, W5 = wr.alloc (.cells #[.int .i64 (f.tag : Int), .string ⟨f.name.toArray⟩, .string ⟨(kdB f.kind).toArray⟩, .string ⟨f.given.toArray⟩] 50) := ⟨_, rfl⟩
      rw [← hW5]
      have hb5 : Below wr.heap.size wr W5 := by rw [hW5]; exact (Below.refl _ _).alloc (Nat.le_refl _) _
      have F0 := Lib.hid (show W5.cell? ⟨wr.heap.size, 0, none⟩ = some (.int .i64 (f.tag : Int)) from by rw [hW5]; simp)
      have F1 := Lib.hid (show W5.cell? ⟨wr.heap.size, 1, none⟩ = some (.string ⟨f.name.toArray⟩) from by rw [hW5]; simp)
      have F2 := Lib.hid (show W5.cell? ⟨wr.heap.size, 2, none⟩ = some (.string ⟨(kdB f.kind).toArray⟩) from by rw [hW5]; simp)
      have F3 := Lib.hid (show W5.cell? ⟨wr.heap.size, 3, none⟩ = some (.string ⟨f.given.toArray⟩) from by rw [hW5]; simp)
      have L5 := Lib.hid (show wr.heap.size < W5.heap.size from by rw [hW5]; simp)
      have Hb5 := Lib.hid (show Below (w.heap.size + 1) w2 W5 from hbr.out.trans (hb5.mono (by omega)))
      have Hown5 := Lib.hid (ownsRow_below hown.out hb5)
      have h5w : w.heap.size + 1 < wr.heap.size := by omega
      generalize wr.heap.size = B5 at *
      clear hW5 hb5 g0 g1 g2 g3 t0 t1 t2
      refine wp_region_slots3 [20, 21, 22, 23, 24, 25, 26, 6] (by kernel_rfl) (by kernel_rfl) (by kernel_rfl) (fun u => by dsimp only [frameOf, setMany, List.set, Nat.zero_add, Nat.reduceAdd])
        (fun ix v W => match ix with | 0 => v = .pointer (some ⟨B5, 0, none⟩) | 1 => v = .int .i64 (f.tag : Int) | 2 => v = .string ⟨(decB f.tag : List UInt8).toArray⟩ | 3 => v = .string ⟨(decB f.tag ++ [58] : List UInt8).toArray⟩ | 4 => v = .pointer (some ⟨B5, 1, none⟩) | 5 => v = .string ⟨(f.name : List UInt8).toArray⟩ | 6 => v = .string ⟨(decB f.tag ++ 58 :: f.name : List UInt8).toArray⟩ | 7 => v = .string ⟨(decB f.tag ++ 58 :: f.name : List UInt8).toArray⟩ | _ => True)
        (fun L U W => Below W5.heap.size W5 W) (fun _ _ => True) (fun _ _ _ _ _ h => h) ((Below.refl _ _).drew) ?_ ?_
      · repeat (first | exact Steps.nil | (refine Steps.cons ?_ ?_; rotate_left))
        all_goals
          rintro L U W hL hpre hR hun hdep K hK
          have HR := Lib.hid hR
          have hB := HR.out
          have a0 : W.cell? ⟨B5, 0, none⟩ = some (.int .i64 (f.tag : Int)) := (hB.cell (p := ⟨B5, 0, none⟩) L5.out).trans F0.out
          have a1 : W.cell? ⟨B5, 1, none⟩ = some (.string ⟨f.name.toArray⟩) := (hB.cell (p := ⟨B5, 1, none⟩) L5.out).trans F1.out
          clear hun hdep hR
          first | (simp [Region.binds] at hpre; done) | simp [Region.binds] at hpre | clear hpre
        iterate 2
          · go_simp
            first | exact hK _ _ _ rfl trivial HR.out rfl | exact hK _ _ _ rfl trivial HR.out (by simp [Act.put, hpre]) | exact hK undef _ _ trivial trivial HR.out (by simp [Act.put, hpre]) | exact hK _ _ _ trivial trivial HR.out rfl | exact hK _ _ _ trivial trivial HR.out (by simp [Act.put, hpre])
        · go_simp
          refine (Hd.out W).mono ?_
          rintro e w5 ⟨rfl, hb5⟩
          exact hK _ _ _ rfl trivial (hB.trans (hb5.mono hB.size)) (by simp [Act.put, hpre])
        · go_simp
          rw [if_neg (by first | omega | (simp; omega))]
          go_simp
          first | exact hK _ _ _ rfl trivial HR.out rfl | exact hK _ _ _ rfl trivial HR.out (by simp [Act.put, hpre])
        iterate 2
          · go_simp
            first | exact hK _ _ _ rfl trivial HR.out rfl | exact hK _ _ _ rfl trivial HR.out (by simp [Act.put, hpre]) | exact hK undef _ _ trivial trivial HR.out (by simp [Act.put, hpre]) | exact hK _ _ _ trivial trivial HR.out rfl | exact hK _ _ _ trivial trivial HR.out (by simp [Act.put, hpre])
        · go_simp
          rw [if_neg (by first | omega | (simp; omega))]
          go_simp
          first | exact hK _ _ _ rfl trivial HR.out rfl | exact hK _ _ _ rfl trivial HR.out (by simp [Act.put, hpre])
        · go_simp
          first | exact hK _ _ _ rfl trivial HR.out rfl | exact hK _ _ _ rfl trivial HR.out (by simp [Act.put, hpre]) | exact hK undef _ _ trivial trivial HR.out (by simp [Act.put, hpre]) | exact hK _ _ _ trivial trivial HR.out rfl | exact hK _ _ _ trivial trivial HR.out (by simp [Act.put, hpre])
      · rintro L U W hL hφ hR
        have e7 : U 7 = .string ⟨(decB f.tag ++ 58 :: f.name : List UInt8).toArray⟩ := hφ 7 (by decide)
        simp only [e7]
        clear hφ
        have Hb6 := Lib.hid (Hb5.out.trans (hR.mono (by have := L5.out; omega)))
        have Hown6 := Lib.hid (ownsRow_below Hown5.out hR)
        have t0 : W.cell? ⟨w.heap.size, 0, none⟩ = some (.int .u8 (t.sort.toNat : Int)) := (Hb6.out.cell (p := ⟨w.heap.size, 0, none⟩) (Nat.lt_succ_self _)).trans T0.out
        have a2 : W.cell? ⟨B5, 2, none⟩ = some (.string ⟨(kdB f.kind).toArray⟩) := (hR.cell (p := ⟨B5, 2, none⟩) L5.out).trans F2.out
        have a3 : W.cell? ⟨B5, 3, none⟩ = some (.string ⟨f.given.toArray⟩) := (hR.cell (p := ⟨B5, 3, none⟩) L5.out).trans F3.out
        have hzw : w.heap.size + 1 ≤ W.heap.size := by have := hR.size; have := L5.out; omega
        clear hL hR
        by_cases h69 : t.sort = 69
        · have t69 : ((t.sort.toNat : Int) != 69) = false := by have := byte_eq (d := 69) h69; simpa using this
          have hgv := Hf5.out h69
          rw [hgv] at a3
          have Hrest2 := Lib.hid (show fdB t.sort f = decB f.tag ++ 58 :: f.name from by unfold fdB tailB; rw [if_pos h69]; simp)
          clear h69 hgv
          go_wp2_with (at_builtin; refine wpList_app1W _ rfl _ _ 67 rfl (w.heap.size + 1) 9 (.string ⟨#[]⟩) 16 Tryd.underlying67 Tryd.infoStr rfl W (.string ⟨(decB f.tag ++ 58 :: f.name : List UInt8).toArray⟩) rfl rfl (.slice A3 n3 c3) k (scells ((t.fields.take k).map (fdB t.sort))) rfl rfl Hown6.out (by unfold maxLen; omega) (by omega) (by omega) ?_; intro v7 w7 hown7 hg7 _; have Hown7 := Lib.hid hown7; have Hg7 := Lib.hid hg7; clear hown7 hg7)
          go_roundw
          case rel =>
            refine ⟨k + 1, by go_num, by omega, ?_, Hb6.out.grown Hg7.out hzw (fun j hj => (Hown6.out.lt j hj).1)⟩
            rw [Hts.out, List.map_append, List.map_singleton, scells_snoc, Hrest2.out]
            exact Hown7.out
          case measure => simp [intOf]; omega
        · have t69 : ((t.sort.toNat : Int) != 69) = true := by have := byte_ne (d := 69) h69; simpa using this
          by_cases hg : f.given = []
          · rw [hg] at a3
            have Hrest2 := Lib.hid (show fdB t.sort f = decB f.tag ++ 58 :: (f.name ++ 58 :: kdB f.kind) from by unfold fdB tailB; rw [if_neg h69, if_pos hg]; simp)
            clear h69 hg
            go_wp2_with (at_builtin; refine wpList_app1W _ rfl _ _ 67 rfl (w.heap.size + 1) 9 (.string ⟨#[]⟩) 16 Tryd.underlying67 Tryd.infoStr rfl W (.string ⟨(decB f.tag ++ 58 :: (f.name ++ 58 :: kdB f.kind) : List UInt8).toArray⟩) rfl rfl (.slice A3 n3 c3) k (scells ((t.fields.take k).map (fdB t.sort))) rfl rfl Hown6.out (by unfold maxLen; omega) (by omega) (by omega) ?_; intro v7 w7 hown7 hg7 _; have Hown7 := Lib.hid hown7; have Hg7 := Lib.hid hg7; clear hown7 hg7)
            go_roundw
            case rel =>
              refine ⟨k + 1, by go_num, by omega, ?_, Hb6.out.grown Hg7.out hzw (fun j hj => (Hown6.out.lt j hj).1)⟩
              rw [Hts.out, List.map_append, List.map_singleton, scells_snoc, Hrest2.out]
              exact Hown7.out
            case measure => simp [intOf]; omega
          · have s1 : f.given.isEmpty = false := by simpa using hg
            have s2 : (!f.given.isEmpty) = true := by simp [s1]
            have Hrest2 := Lib.hid (show fdB t.sort f = decB f.tag ++ 58 :: (f.name ++ 58 :: (kdB f.kind ++ 61 :: f.given)) from by unfold fdB tailB; rw [if_neg h69, if_neg hg])
            clear h69 hg
            go_wp2_with (at_builtin; refine wpList_app1W _ rfl _ _ 67 rfl (w.heap.size + 1) 9 (.string ⟨#[]⟩) 16 Tryd.underlying67 Tryd.infoStr rfl W (.string ⟨(decB f.tag ++ 58 :: (f.name ++ 58 :: (kdB f.kind ++ 61 :: f.given)) : List UInt8).toArray⟩) rfl rfl (.slice A3 n3 c3) k (scells ((t.fields.take k).map (fdB t.sort))) rfl rfl Hown6.out (by unfold maxLen; omega) (by omega) (by omega) ?_; intro v7 w7 hown7 hg7 _; have Hown7 := Lib.hid hown7; have Hg7 := Lib.hid hg7; clear hown7 hg7)
            go_roundw
            case rel =>
              refine ⟨k + 1, by go_num, by omega, ?_, Hb6.out.grown Hg7.out hzw (fun j hj => (Hown6.out.lt j hj).1)⟩
              rw [Hts.out, List.map_append, List.map_singleton, scells_snoc, Hrest2.out]
              exact Hown7.out
            case measure => simp [intOf]; omega
    · obtain rfl : k = t.fields.length := by omega
      have Hjl := Lib.hid (joinL_len 44 400 (t.fields.map (fdB t.sort)) (fun p hp => by obtain ⟨f, hf, rfl⟩ := List.mem_map.1 hp; exact fdB_len (Hs.out f hf)))
      have hjl := Hjl.out
      rw [List.length_map] at hjl
      have Hw := Lib.hid hown.out
      rw [List.take_length] at Hw
      obtain ⟨A9, c9, e9, hr9⟩ := RowAt.own Hw.out
      injection e9 with e9 e10 e11
      subst e9 e10 e11
      have Hjoin := Lib.hid (fun W (h : Below wr.heap.size wr W) => show Calls Tryd.prog 28 #[.slice A3 t.fields.length c3] W fun e w' => e = .returned (.string ⟨(joinL 44 (t.fields.map (fdB t.sort))).toArray⟩) ∧ W = w' from by
        have := sJoin_any A3 c3 (t.fields.map (fdB t.sort)) W (by simpa using hr9.below h) (by rw [List.length_map]; omega) (fun p hp => by obtain ⟨f, hf, rfl⟩ := List.mem_map.1 hp; have := fdB_len (Hs.out f hf); omega)
        rwa [List.length_map] at this)
      have W0e : ∃ W0, W0 = wr := ⟨_, rfl⟩
      obtain ⟨W0, hW0⟩ := W0e
      have Lw := Lib.hid (show w.heap.size < wr.heap.size by omega)
      have T0' := Lib.hid t0
      have T1' := Lib.hid t1
      clear T0 T1
      have T0 := T0'
      have T1 := T1'
      generalize joinL 44 (t.fields.map (fdB t.sort)) = js at *
      clear t0 t1 hr9 Hw
      go_wp2_with fail
      subst hW0
      refine wp_region_slots3 [47, 48, 49, 50, 51, 52, 53, 54, 55, 56, 57, 58, 2] (by kernel_rfl) (by kernel_rfl) (by kernel_rfl) (fun u => by dsimp only [frameOf, setMany, List.set, Nat.zero_add, Nat.reduceAdd])
        (fun ix v W => match ix with | 0 => v = .pointer (some ⟨w.heap.size, 0, none⟩) | 1 => v = .int .u8 (t.sort.toNat : Int) | 2 => ∃ g, v = .slice (some ⟨g, 0, none⟩) 1 1 | 3 => v = .string ⟨([t.sort] : List UInt8).toArray⟩ | 4 => v = .pointer (some ⟨w.heap.size, 1, none⟩) | 5 => v = .string ⟨(t.name : List UInt8).toArray⟩ | 6 => v = .string ⟨(t.sort :: t.name : List UInt8).toArray⟩ | 7 => v = .string ⟨(t.sort :: (t.name ++ [61]) : List UInt8).toArray⟩ | 8 => v = .slice A3 t.fields.length c3 | 9 => v = .string ⟨(js : List UInt8).toArray⟩ | 10 => v = .string ⟨(t.sort :: (t.name ++ 61 :: js) : List UInt8).toArray⟩ | 11 => v = .string ⟨(t.sort :: (t.name ++ 61 :: (js ++ [10])) : List UInt8).toArray⟩ | 12 => v = .string ⟨(t.sort :: (t.name ++ 61 :: (js ++ [10])) : List UInt8).toArray⟩ | _ => True)
        (fun L U W => Below W0.heap.size W0 W ∧ (L 2 = true → ∃ g, U 2 = .slice (some ⟨g, 0, none⟩) 1 1 ∧ g < W.heap.size ∧ W.cell? ⟨g, 0, none⟩ = some (.int .u8 (t.sort.toNat : Int)))) (fun _ _ => True) (fun _ _ _ _ _ h => h) (⟨(Below.refl _ _).drew, fun h => Bool.noConfusion h⟩) ?_ ?_
      · repeat (first | exact Steps.nil | (refine Steps.cons ?_ ?_; rotate_left))
        all_goals
          rintro L U W hL hpre hR hun hdep K hK
          have HR := Lib.hid hR
          obtain ⟨hB, R2⟩ := HR.out
          have a0 : W.cell? ⟨w.heap.size, 0, none⟩ = some (.int .u8 (t.sort.toNat : Int)) := (hB.cell (p := ⟨w.heap.size, 0, none⟩) Lw.out).trans T0.out
          have a1 : W.cell? ⟨w.heap.size, 1, none⟩ = some (.string ⟨t.name.toArray⟩) := (hB.cell (p := ⟨w.heap.size, 1, none⟩) Lw.out).trans T1.out
          clear hun hdep hR
          first | (simp [Region.binds] at hpre; done) | simp [Region.binds] at hpre | clear hpre
        iterate 2
          · go_simp
            first | exact hK _ _ _ rfl trivial HR.out rfl | exact hK _ _ _ rfl trivial HR.out (by simp [Act.put, hpre]) | exact hK undef _ _ trivial trivial HR.out (by simp [Act.put, hpre]) | exact hK _ _ _ trivial trivial HR.out rfl | exact hK _ _ _ trivial trivial HR.out (by simp [Act.put, hpre])
        · go_simp
          exact hK _ _ _ ⟨_, rfl⟩ trivial ⟨hB.alloc hB.size _, fun _ => ⟨W.heap.size, rfl, by simp, by simp⟩⟩ (by simp [Act.put, hpre])
        · have l2 : L 2 = true := by first | exact hpre.1 | exact hpre.2.1
          obtain ⟨g, u2, hg, hc⟩ := R2 l2
          have hcv := Tryd.conv1 W g 1 t.sort hc
          go_simp
          exact hK _ _ _ rfl trivial HR.out (by simp [Act.put, hpre, u2])
        iterate 2
          · go_simp
            first | exact hK _ _ _ rfl trivial HR.out rfl | exact hK _ _ _ rfl trivial HR.out (by simp [Act.put, hpre]) | exact hK undef _ _ trivial trivial HR.out (by simp [Act.put, hpre]) | exact hK _ _ _ trivial trivial HR.out rfl | exact hK _ _ _ trivial trivial HR.out (by simp [Act.put, hpre])
        · go_simp
          rw [if_neg (by first | omega | (simp; omega))]
          go_simp
          first | exact hK _ _ _ rfl trivial HR.out rfl | exact hK _ _ _ rfl trivial HR.out (by simp [Act.put, hpre])
        · go_simp
          rw [if_neg (by first | omega | (simp; omega))]
          go_simp
          first | exact hK _ _ _ rfl trivial HR.out rfl | exact hK _ _ _ rfl trivial HR.out (by simp [Act.put, hpre])
        · go_simp
          first | exact hK _ _ _ rfl trivial HR.out rfl | exact hK _ _ _ rfl trivial HR.out (by simp [Act.put, hpre]) | exact hK undef _ _ trivial trivial HR.out (by simp [Act.put, hpre]) | exact hK _ _ _ trivial trivial HR.out rfl | exact hK _ _ _ trivial trivial HR.out (by simp [Act.put, hpre])
        · go_simp
          refine (Hjoin.out W hB).mono ?_
          rintro e w5 ⟨rfl, rfl⟩
          exact hK _ _ _ rfl trivial HR.out (by simp [Act.put, hpre])
        · go_simp
          rw [if_neg (by first | omega | (simp; omega))]
          go_simp
          first | exact hK _ _ _ rfl trivial HR.out rfl | exact hK _ _ _ rfl trivial HR.out (by simp [Act.put, hpre])
        · go_simp
          rw [if_neg (by first | omega | (simp; omega))]
          go_simp
          first | exact hK _ _ _ rfl trivial HR.out rfl | exact hK _ _ _ rfl trivial HR.out (by simp [Act.put, hpre])
        · go_simp
          first | exact hK _ _ _ rfl trivial HR.out rfl | exact hK _ _ _ rfl trivial HR.out (by simp [Act.put, hpre]) | exact hK undef _ _ trivial trivial HR.out (by simp [Act.put, hpre]) | exact hK _ _ _ trivial trivial HR.out rfl | exact hK _ _ _ trivial trivial HR.out (by simp [Act.put, hpre])
      · rintro L U W hL hφ hR
        have e12 : U 12 = .string ⟨(t.sort :: (t.name ++ 61 :: (js ++ [10])) : List UInt8).toArray⟩ := hφ 12 (by decide)
        simp only [e12]
        clear hφ
        have Hb9 := Lib.hid (Hbw.out.trans (hR.1.mono Hbw.out.size))
        clear hL hR
        go_wp2_with fail
        go_ret
        exact ⟨by rw [HF.out]; rfl, Hb9.out⟩
theorem sOut_any (t : Ty) (fv : Value) (w : World) (hf : SFds w fv t.fields) (h8 : t.fields.length ≤ 8) (hnm : t.name.length ≤ 100) (hs : ∀ f ∈ t.fields, FShort t.sort f) :
    Calls Tryd.prog 17 #[styV t fv] w fun e w' => e = .returned (.string ⟨(tyB t ++ [10]).toArray⟩) ∧ Below w.heap.size w w' :=
  sOut20_any t fv w hf (by omega) hnm hs
end Go.Proofs.YtcjfgbcdlcdeaaaDoor
/- The reference's standing values of kinds and fields. -/
namespace Go.Proofs.YtcjfgbcdlcdeaaaDoor
open Go.RowKit
set_option maxRecDepth 100000
set_option linter.unusedVariables false
set_option linter.unusedSimpArgs false
attribute [local go_sem] ba_get ba_toList ba_extract take_drop_all ByteArray.mk_append_mk

theorem standN_len (S : List Ty) (hT : ∀ t ∈ S, tyOk t) : ∀ (n : Nat) (k : Kd), (standN S n k).length ≤ 6 * n
  | 0, _ => by simp [standN]
  | n + 1, k => by
    unfold standN
    split
    · simp; omega
    · split
      · simp; omega
      · split
        · simp; omega
        · split
          · simp; omega
          · split
            · simp; omega
            · cases hf : findTy S k.name with
              | none => simp
              | some t =>
                simp only
                split
                · simp; omega
                · cases hfs : t.fields with
                  | nil => simp
                  | cons f fs =>
                    have h1 := ((hT t (findTy_some hf).1).2.2.1.1 f (by rw [hfs]; simp)).2.1
                    have h2 := decB_len 2 f.tag (by have e : 10 ^ (2 + 1) = 1000 := rfl; omega)
                    have ih := standN_len S hT n f.kind
                    simp only
                    split
                    · simp; omega
                    · simp; omega
/-- The standing value of a letter. -/
def plainL (b : List UInt8) : List UInt8 := if b = [110] then [48] else if b = [116] then [39, 39] else [110, 111]
theorem l3PlainK_any (b : List UInt8) (w : World) (hb : b = [110] ∨ b = [116] ∨ b = [102]) :
    Calls Tryd.prog 84 #[.string ⟨b.toArray⟩] w fun e w' => e = .returned (.string ⟨(plainL b).toArray⟩) ∧ w = w' := by
  rcases hb with rfl | rfl | rfl
  · go_enter Tryd.func84, Tryd.ntmps84
    go_wp2_with fail
    go_ret
    exact ⟨rfl, rfl⟩
  · go_enter Tryd.func84, Tryd.ntmps84
    go_wp2_with fail
    go_ret
    exact ⟨rfl, rfl⟩
  · go_enter Tryd.func84, Tryd.ntmps84
    go_wp2_with fail
    go_ret
    exact ⟨rfl, rfl⟩
def signL (c : UInt8) : List UInt8 := if c = 91 then [91, 93] else [45]
theorem sStands_sign (v : Value) (c : UInt8) (t : List UInt8) (w : World) (hc : c = 91 ∨ c = 63) (hl : t.length ≤ 1000) :
    Calls Tryd.prog 69 #[v, .string ⟨(c :: t).toArray⟩] w fun e w' => e = .returned (.string ⟨(signL c).toArray⟩) ∧ w = w' := by
  rcases hc with rfl | rfl
  · go_enter Tryd.func69, Tryd.ntmps69
    go_wp2_with fail
    go_ret
    exact ⟨rfl, rfl⟩
  · go_enter Tryd.func69, Tryd.ntmps69
    go_wp2_with fail
    go_ret
    exact ⟨rfl, rfl⟩
theorem kd_letter {k : Kd} (h : kdOk k) (hs : k.signs = []) (hb : k.base ≠ [64]) : kdB k = k.base ∧ (k.base = [110] ∨ k.base = [116] ∨ k.base = [102]) := by
  refine ⟨by unfold kdB coreB; rw [hs, if_neg hb]; rfl, ?_⟩
  rcases h.2.1 with h | h
  · exact absurd h.1 hb
  · exact h.1
theorem sStands_letter (v : Value) (xs : List (Ty × Value)) (k : Kd) (w : World) (hsc : SSc w v xs) (hk : kdOk k) (hs : k.signs = []) (hb : k.base ≠ [64]) :
    Calls Tryd.prog 69 #[v, .string ⟨(kdB k).toArray⟩] w fun e w' => e = .returned (.string ⟨(plainL k.base).toArray⟩) ∧ Below w.heap.size w w' := by
  have Hr := Lib.hid (fun W h => sRef_any v xs k W h hk)
  have hx : refX xs k = none := if_neg (fun h => hb h.2)
  rw [hx] at Hr
  obtain ⟨e1, e2⟩ := kd_letter hk hs hb
  rw [e1] at Hr ⊢
  have Hsc := Lib.hid hsc
  have Hp := Lib.hid (fun W => l3PlainK_any k.base W e2)
  have He2 := Lib.hid e2
  unfold styR sty0 at Hr
  generalize k.base = b at *
  clear hs hb e1 hsc hx
  obtain ⟨c, hc, t1, t2⟩ : ∃ c, b = [c] ∧ ((c.toNat : Int) == 91) = false ∧ ((c.toNat : Int) == 63) = false := by
    rcases e2 with rfl | rfl | rfl
    · exact ⟨110, rfl, by decide, by decide⟩
    · exact ⟨116, rfl, by decide, by decide⟩
    · exact ⟨102, rfl, by decide, by decide⟩
  clear e2
  subst hc
  go_enter Tryd.func69, Tryd.ntmps69
  go_wp2_with fail
  refine (Hr.out _ Hsc.out).mono ?_
  rintro e w1 ⟨rfl, hb1⟩
  go_wp2_with fail
  refine (Hp.out _).mono ?_
  rintro e w2 ⟨rfl, rfl⟩
  go_wp2_with fail
  go_ret
  exact ⟨rfl, hb1.alloc hb1.size _⟩
end Go.Proofs.YtcjfgbcdlcdeaaaDoor
