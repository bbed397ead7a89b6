/- Texts joined: NumsS2, SCut, SRead. Conditions: as each theorem names them. -/
import Derived.Test.YtcjfgbcdlcdeaaaGreatDoorK01
import Derived.Test.YtcjfgbcdlcdeaaaGreatDoorK03
/- Numbers and texts of the reference: l3Num, l3Text, l3Stand, l3Plain. -/
namespace Go.Proofs.YtcjfgbcdlcdeaaaGreatDoor
open Go.RowKit
set_option maxRecDepth 100000
set_option linter.unusedVariables false
attribute [local go_sem] ba_get ba_toList ba_extract take_drop_all ByteArray.mk_append_mk

theorem valB_take_lt' (s : List UInt8) (k : Nat) (hk : k ≤ 6) (h : (s.take k).all isDig = true) : valB (s.take k) ≤ 999999 := by
  have h1 := valB_lt (s.take k).length (s.take k) rfl h
  have h2 : 10 ^ (s.take k).length ≤ 10 ^ 6 := Nat.pow_le_pow_right (by omega) (by simp; omega)
  have e6 : 10 ^ 6 = 1000000 := rfl
  omega

/-- Whether a text is a number up to a greatest one. -/
def numOk (s : List UInt8) (top : Nat) : Bool := match decL s with | some m => decide (m ≤ top) | none => false
theorem numOk_no {s : List UInt8} {top : Nat} (h : decL s = none) : numOk s top = false := by unfold numOk; rw [h]
theorem numOk_yes {s : List UInt8} {top n : Nat} (h : decL s = some n) : numOk s top = decide (n ≤ top) := by unfold numOk; rw [h]
def L3NumPost (s : List UInt8) (top : Nat) (w : World) (e : Ending) (w' : World) : Prop :=
  ∃ n : Nat, n ≤ 999999 ∧ e = .returned (.tuple #[.int .i64 n, .bool (numOk s top)]) ∧ (∀ m, decL s = some m → m = n) ∧ Below w.heap.size w w'

set_option maxHeartbeats 1000000 in
theorem l3Num_any (s : List UInt8) (m : Nat) (w : World) (hs : s.length ≤ 4000000) (hm : m ≤ 999999) :
    Calls Tryz.prog 103 #[.string ⟨s.toArray⟩, .int .i64 m] w (L3NumPost s m w) := by
  go_enter Tryz.func103, Tryz.ntmps103
  go_wp2_with fail
  go_loop [6, 7] (fun x i => ∃ k : Nat, i = .int .i64 k ∧ k ≤ s.length ∧ k ≤ 6 ∧ Hid ((s.take k).all isDig = true) ∧ valB (s.take k) ≤ 999999 ∧ x = .int .i64 ((valB (s.take k) : Nat) : Int)) (fun _ i => s.length - (intOf i).toNat)
  case atStart => exact ⟨0, rfl, Nat.zero_le _, by omega, by simp [Hid], by simp [valB], by simp [valB]⟩
  case round =>
    obtain ⟨k, rfl, hk, hk6, hdig, hv, rfl⟩ := hrel
    by_cases hlt : k < s.length
    · have hc := (s[k]).toNat_lt
      have Hts := Lib.hid (take_snoc s k hlt)
      have Hmem := Lib.hid (List.getElem_mem hlt)
      by_cases hd : isDig s[k] = true
      · have hd2 := isDig_iff.1 hd
        obtain ⟨d1, d2⟩ := hd2
        by_cases h5 : k ≤ 5
        · have hdig2 : (s.take (k + 1)).all isDig = true := by
            rw [Hts.out, List.all_append, hdig.out]; simp [hd]
          have hv2 := valB_take_lt' s (k + 1) (by omega) hdig2
          have Hdig2 := Lib.hid hdig2
          have Hv := Lib.hid (show valB (s.take (k + 1)) = 10 * valB (s.take k) + ((s[k]).toNat - 48) by rw [Hts.out, valB_snoc])
          clear hd hdig2
          go_wp2_with fail
          go_round
          case rel => exact ⟨k + 1, by go_num, by omega, by omega, Hdig2.out, hv2, vint (by rw [Hv.out]; omega)⟩
          case measure => simp [intOf]; omega
        · have h5' : 5 < k := by omega
          have hno : decL s = none := by
            unfold decL
            rw [if_neg]
            rintro ⟨_, h, _⟩
            omega
          have Hn := Lib.hid (numOk_no (top := m) hno)
          have Hno := Lib.hid hno
          clear hd hno h5
          go_wp2_with fail
          go_ret2
          exact ⟨0, by omega, by rw [Hn.out]; rfl, (fun m h => by rw [Hno.out] at h; cases h), Below.refl _ _⟩
      · have hno : decL s = none := by
          unfold decL
          rw [if_neg]
          rintro ⟨_, _, h, _⟩
          exact hd (List.all_eq_true.1 h _ Hmem.out)
        have Hn := Lib.hid (numOk_no (top := m) hno)
        have Hno := Lib.hid hno
        have h2 : (s[k]).toNat < 48 ∨ (48 ≤ (s[k]).toNat ∧ 57 < (s[k]).toNat) := by
          rcases Nat.lt_or_ge (s[k]).toNat 48 with h | h
          · exact .inl h
          · rcases Nat.lt_or_ge 57 (s[k]).toNat with h' | h'
            · exact .inr ⟨h, h'⟩
            · exact absurd (isDig_iff.2 ⟨h, h'⟩) hd
        clear hd hno
        rcases h2 with h2 | ⟨h2, h4⟩
        · go_wp2_with fail
          go_ret2
          exact ⟨0, by omega, by rw [Hn.out]; rfl, (fun m h => by rw [Hno.out] at h; cases h), Below.refl _ _⟩
        · go_wp2_with fail
          go_ret2
          exact ⟨0, by omega, by rw [Hn.out]; rfl, (fun m h => by rw [Hno.out] at h; cases h), Below.refl _ _⟩
    · have e : s.take k = s := List.take_of_length_le (by omega)
      rw [e] at hv ⊢
      have hcase : (decL s = some (valB s) ∧ s = decB (valB s)) ∨ (decL s = none ∧ s ≠ decB (valB s)) := by
        by_cases h : s = decB (valB s)
        · exact .inl ⟨decL_some.2 ⟨hv, h⟩, h⟩
        · refine .inr ⟨?_, h⟩
          cases hd : decL s with
          | none => rfl
          | some n =>
            obtain ⟨_, h2⟩ := decL_some.1 hd
            exact absurd (by rw [h2, valB_decB]) h
      clear hdig e
      generalize valB s = v at hv hcase
      have hdl := decB_len 5 v (by have e6 : 10 ^ (5 + 1) = 1000000 := rfl; omega)
      rcases hcase with ⟨h1, h2⟩ | ⟨h1, h2⟩
      · have Hn := Lib.hid (numOk_yes (top := m) h1)
        have Hd := Lib.hid h1
        have tq : (s == decB v) = true := by simpa using h2
        clear h1 h2
        by_cases hvm : v ≤ m
        · go_wp2_with fail
          refine (l6Dec_any v v _ (Nat.le_refl _) (by omega)).mono ?_
          rintro e w1 ⟨rfl, hb⟩
          have Hb := Lib.hid hb
          clear hb
          go_wp2_with fail
          go_ret2
          exact ⟨v, hv, by rw [Hn.out]; exact ret2 rfl (vbool (by simp [hvm])), (fun m h => by rw [Hd.out] at h; injection h with h; exact h.symm), Hb.out⟩
        · have hvm' : m < v := by omega
          go_wp2_with fail
          refine (l6Dec_any v v _ (Nat.le_refl _) (by omega)).mono ?_
          rintro e w1 ⟨rfl, hb⟩
          have Hb := Lib.hid hb
          clear hb
          go_wp2_with fail
          go_ret2
          exact ⟨v, hv, by rw [Hn.out]; exact ret2 rfl (vbool (by simp; omega)), (fun m h => by rw [Hd.out] at h; injection h with h; exact h.symm), Hb.out⟩
      · have Hn := Lib.hid (numOk_no (top := m) h1)
        have Hd := Lib.hid h1
        have tq : (s == decB v) = false := by simpa using h2
        clear h1 h2
        go_wp2_with fail
        refine (l6Dec_any v v _ (Nat.le_refl _) (by omega)).mono ?_
        rintro e w1 ⟨rfl, hb⟩
        have Hb := Lib.hid hb
        clear hb
        go_wp2_with fail
        go_ret2
        exact ⟨v, hv, by rw [Hn.out]; rfl, (fun m h => by rw [Hd.out] at h; cases h), Hb.out⟩

/-- A text between two strokes. -/
def quoteOk (s : List UInt8) : Bool := decide (2 ≤ s.length) && decide (s.head? = some 39) && decide (s.getLast? = some 39) && textOk (s.drop 1).dropLast

set_option maxHeartbeats 1000000 in
theorem l3Text_any (s : List UInt8) (w : World) (hs : s.length ≤ 4000000) :
    Calls Tryz.prog 171 #[.string ⟨s.toArray⟩] w fun e w' => e = .returned (.bool (quoteOk s)) ∧ w = w' := by
  have hf : quoteOk s = (decide (2 ≤ s.length) && decide (s.head? = some 39) && decide (s.getLast? = some 39) && textOk (s.drop 1).dropLast) := rfl
  rcases Nat.lt_or_ge s.length 2 with h2 | h2
  · have e0 : decide (2 ≤ s.length) = false := by simp; omega
    have Hf := Lib.hid (show quoteOk s = false by rw [hf, e0]; simp)
    have t0 : decide ((s.length : Int) < 2) = true := by simp; omega
    clear hf e0
    go_enter Tryz.func171, Tryz.ntmps171
    go_wp2_with fail
    go_ret
    exact ⟨ret1 (vbool Hf.out.symm), rfl⟩
  · have t0 : decide ((s.length : Int) < 2) = false := by simp; omega
    rcases Nat.lt_or_ge 14 s.length with h14 | h14
    · have Hf := Lib.hid (show quoteOk s = false by
        have : textOk (s.drop 1).dropLast = false := by
          unfold textOk
          have e1 : decide ((s.drop 1).dropLast.length ≤ 12) = false := by simp; omega
          rw [e1]; rfl
        rw [hf, this]; simp)
      have t1 : decide (14 < (s.length : Int)) = true := by simp; omega
      clear hf
      go_enter Tryz.func171, Tryz.ntmps171
      go_wp2_with fail
      go_ret
      exact ⟨ret1 (vbool Hf.out.symm), rfl⟩
    · obtain ⟨c, u, d, rfl⟩ : ∃ c u d, s = c :: (u ++ [d]) := by
        cases s with
        | nil => simp at h2
        | cons c t =>
          rcases snoc_cases t with rfl | ⟨u, d, rfl⟩
          · simp at h2
          · exact ⟨c, u, d, rfl⟩
      have hl : (c :: (u ++ [d])).getLast? = some d := by
        rw [show c :: (u ++ [d]) = (c :: u) ++ [d] from rfl, List.getLast?_append]; rfl
      have hu : ((c :: (u ++ [d])).drop 1).dropLast = u := by simp
      have e2 : decide (2 ≤ (c :: (u ++ [d])).length) = true := by simp
      rw [hl, hu, e2] at hf
      simp only [List.head?_cons, Option.some.injEq, Bool.true_and] at hf
      have Hf := Lib.hid hf
      have hc := c.toNat_lt
      have hd := d.toNat_lt
      have hgd : ∀ h, (c :: (u ++ [d]))[u.length + 1]'h = d := by intro h; simp
      have hul : u.length ≤ 12 := by simp at h14; omega
      have Hfit := Lib.hid (show textOk u = u.all isTxt by simp [textOk, hul])
      clear hf hl hu h2 hs h14 t0 e2
      by_cases hc39 : c = 39
      · have t1 : ((c.toNat : Int) != 39) = false := by have := byte_eq hc39; simpa using this
        have Hc := Lib.hid (show decide (c = 39) = true by simpa using hc39)
        clear hc39
        by_cases hd39 : d = 39
        · have t2 : ((d.toNat : Int) != 39) = false := by have := byte_eq hd39; simpa using this
          have Hd := Lib.hid (show decide (d = 39) = true by simpa using hd39)
          clear hd39
          go_enter Tryz.func171, Tryz.ntmps171
          go_wp2_with fail
          go_loop [3] (fun i => ∃ k : Nat, i = .int .i64 ((k : Int) + 1) ∧ k ≤ u.length ∧ Hid ((u.take k).all isTxt = true)) (fun i => u.length + 1 - (intOf i).toNat)
          case atStart => exact ⟨0, rfl, Nat.zero_le _, by simp [Hid]⟩
          case round =>
            obtain ⟨k, rfl, hk, hin⟩ := hrel
            by_cases hlt : k < u.length
            · have hg : ∀ h, (c :: (u ++ [d]))[k + 1]'h = u[k] := by intro h; simp [List.getElem_append_left hlt]
              have Hts := Lib.hid (take_snoc u k hlt)
              have Hmem := Lib.hid (List.getElem_mem hlt)
              have hx := (u[k]).toNat_lt
              generalize u[k] = x at hg Hts Hmem hx
              by_cases ht : isTxt x = true
              · have Hin := Lib.hid (show (u.take (k + 1)).all isTxt = true by rw [Hts.out, List.all_append, hin.out]; simp [ht])
                have h3 : x = 32 ∨ (x.toNat ≠ 32 ∧ 48 ≤ x.toNat ∧ x.toNat ≤ 57) ∨ (57 < x.toNat ∧ 97 ≤ x.toNat ∧ x.toNat ≤ 122) := by
                  unfold isTxt at ht
                  simp only [Bool.or_eq_true] at ht
                  rcases ht with (h | h) | h
                  · have := isLow_iff.1 h; exact .inr (.inr ⟨by omega, this⟩)
                  · have := isDig_iff.1 h; exact .inr (.inl ⟨by omega, this⟩)
                  · exact .inl (by simpa using h)
                clear ht
                rcases h3 with h3 | ⟨h3, h4, h5⟩ | ⟨h3, h4, h5⟩
                · have t3 : ((x.toNat : Int) != 32) = false := by have := byte_eq h3; simpa using this
                  clear h3
                  go_wp2_with fail
                  go_round
                  case rel => exact ⟨k + 1, by go_num, by omega, Hin.out⟩
                  case measure => simp [intOf]; omega
                · have t3 : ((x.toNat : Int) != 32) = true := by rw [bne_iff_ne]; omega
                  go_wp2_with fail
                  go_round
                  case rel => exact ⟨k + 1, by go_num, by omega, Hin.out⟩
                  case measure => simp [intOf]; omega
                · have t3 : ((x.toNat : Int) != 32) = true := by rw [bne_iff_ne]; omega
                  go_wp2_with fail
                  go_round
                  case rel => exact ⟨k + 1, by go_num, by omega, Hin.out⟩
                  case measure => simp [intOf]; omega
              · have Hno := Lib.hid (show u.all isTxt = false by
                  cases h : u.all isTxt with
                  | false => rfl
                  | true => exact absurd (List.all_eq_true.1 h _ Hmem.out) ht)
                have h32 : x ≠ 32 := by rintro rfl; exact ht rfl
                have t3 : ((x.toNat : Int) != 32) = true := by have := byte_ne h32; simpa using this
                have h3 : x.toNat < 48 ∨ (57 < x.toNat ∧ x.toNat < 97) ∨ 122 < x.toNat := by
                  have a : ¬ isLow x = true := fun h => ht (by simp [isTxt, h])
                  have b : ¬ isDig x = true := fun h => ht (by simp [isTxt, h])
                  rw [isLow_iff] at a
                  rw [isDig_iff] at b
                  omega
                clear ht h32
                rcases h3 with h3 | ⟨h3, h4⟩ | h3
                all_goals
                  go_wp2_with fail
                  go_ret
                  exact ⟨ret1 (vbool (by rw [Hf.out, Hc.out, Hd.out, Hfit.out, Hno.out]; rfl)), rfl⟩
            · have Hall := Lib.hid (show u.all isTxt = true by
                have := hin.out
                rwa [List.take_of_length_le (by omega)] at this)
              have hk2 : k = u.length := by omega
              subst hk2
              go_wp2_with fail
              go_ret
              exact ⟨ret1 (vbool (by rw [Hf.out, Hc.out, Hd.out, Hfit.out, Hall.out]; rfl)), rfl⟩
        · have t2 : ((d.toNat : Int) != 39) = true := by have := byte_ne hd39; simpa using this
          have Hd := Lib.hid (show decide (d = 39) = false by simpa using hd39)
          clear hd39
          go_enter Tryz.func171, Tryz.ntmps171
          go_wp2_with fail
          go_ret
          exact ⟨ret1 (vbool (by rw [Hf.out, Hd.out]; simp)), rfl⟩
      · have t1 : ((c.toNat : Int) != 39) = true := by have := byte_ne hc39; simpa using this
        have Hc := Lib.hid (show decide (c = 39) = false by simpa using hc39)
        clear hc39
        go_enter Tryz.func171, Tryz.ntmps171
        go_wp2_with fail
        go_ret
        exact ⟨ret1 (vbool (by rw [Hf.out, Hc.out]; simp)), rfl⟩
end Go.Proofs.YtcjfgbcdlcdeaaaGreatDoor
/- l3Cut, l3Stand and l3Plain of the reference. -/
namespace Go.Proofs.YtcjfgbcdlcdeaaaGreatDoor
open Go.RowKit
set_option maxRecDepth 100000
set_option linter.unusedVariables false
attribute [local go_sem] ba_get ba_toList ba_extract take_drop_all ByteArray.mk_append_mk

theorem take_drop_snoc (s : List UInt8) (f k : Nat) (hf : f ≤ k) (hk : k < s.length) : (s.drop f).take (k + 1 - f) = (s.drop f).take (k - f) ++ [s[k]] := by
  have h1 : k - f < (s.drop f).length := by simp; omega
  rw [show k + 1 - f = (k - f) + 1 by omega, take_snoc _ _ h1]
  simp [show f + (k - f) = k by omega]
theorem drop_cut (s : List UInt8) (f k : Nat) (hf : f ≤ k) (hk : k < s.length) : s.drop f = (s.drop f).take (k - f) ++ s[k] :: s.drop (k + 1) := by
  have e1 : (s.drop f).drop (k - f) = s[k] :: s.drop (k + 1) := by
    rw [List.drop_drop, show f + (k - f) = k by omega]; exact List.drop_eq_getElem_cons hk
  rw [← e1, List.take_append_drop]

set_option maxHeartbeats 1000000 in
theorem l3Cut_any (s : List UInt8) (c : UInt8) (m : Int) (hm : m = (c.toNat : Int)) (w : World) (hs : s.length ≤ 4000000) :
    Calls Tryz.prog 102 #[.string ⟨s.toArray⟩, .int .u8 m] w fun e w' =>
      ∃ v, e = .returned v ∧ w'.ownsRow w.heap.size 9 1 v (splitL c s).length (scells (splitL c s)) ∧ Below w.heap.size w w' := by
  have Hm := Lib.hid hm
  have Hlen := Lib.hid (splitL_len c s)
  clear hm
  go_enter Tryz.func102, Tryz.ntmps102
  go_wp2_with fail
  go_loopw [5, 6, 7] (fun v y i wr => ∃ (ps : List (List UInt8)) (f k : Nat), i = .int .i64 k ∧ k ≤ s.length ∧ y = .int .i64 f ∧ f ≤ k ∧ ps.length ≤ k ∧ Hid (splitL c s = ps ++ splitL c (s.drop f)) ∧ Hid (c ∉ (s.drop f).take (k - f)) ∧
      Hid (wr.ownsRow w.heap.size 9 1 v ps.length (scells ps)) ∧ Hid (Below w.heap.size w wr)) (fun _ _ i _ => s.length - (intOf i).toNat)
  case atStart => exact ⟨[], 0, 0, rfl, Nat.zero_le _, rfl, Nat.le_refl _, by simp, rfl, by simp [Hid], World.ownsRow_lit (base := w.heap.size) (e := 9) (size := 1) w #[] 0 (Nat.le_refl _) (Nat.zero_le _) rfl, (Below.refl _ _).alloc (Nat.le_refl _) _⟩
  case round =>
    obtain ⟨ps, f, k, rfl, hk, rfl, hf, hps, hsp, hno, hown, hb⟩ := hrel
    by_cases hlt : k < s.length
    · have hc := (s[k]).toNat_lt
      by_cases he : s[k] = c
      · have t1 : (((s[k]).toNat : Int) == m) = true := by rw [Hm.out]; exact byte_eq he
        have Hsp := Lib.hid (show splitL c s = (ps ++ [(s.drop f).take (k - f)]) ++ splitL c (s.drop (k + 1)) by
          rw [hsp.out, drop_cut s f k hf hlt, he, splitL_app c _ _ hno.out]
          simp only [List.append_assoc, List.singleton_append]
          have e2 := drop_cut s f k hf hlt
          rw [he] at e2
          rw [← e2])
        have Hz := Lib.hid hb.out.size
        clear he
        have k1 : (0 : Int) ≤ (f : Int) := by omega
        have k2 : (f : Int) ≤ (k : Int) := by omega
        have k3 : (k : Int) ≤ (s.length : Int) := by omega
        go_wp2_with (at_builtin; refine wpList_app1 _ rfl _ _ 58 rfl w.heap.size 9 (.string ⟨#[]⟩) 16 Tryz.underlying58 Tryz.infoStr rfl wr _ rfl rfl _ _ _ rfl rfl hown.out (by unfold maxLen; omega) (by omega) Hz.out ?_; intro v' w' hown' hb'; have Ho := Lib.hid (show w'.ownsRow w.heap.size 9 1 v' (ps ++ [(s.drop f).take (k - f)]).length (scells (ps ++ [(s.drop f).take (k - f)])) by rw [scells_snoc, List.length_append]; exact hown'); have Hb := Lib.hid (hb.out.trans hb'); clear hown' hb')
        go_roundw
        case rel => exact ⟨ps ++ [(s.drop f).take (k - f)], k + 1, k + 1, by go_num, by omega, by go_num, Nat.le_refl _, by rw [List.length_append]; simp; omega, Hsp.out, by simp [Hid], Ho.out, Hb.out⟩
        case measure => simp [intOf]; omega
      · have t1 : (((s[k]).toNat : Int) == m) = false := by rw [Hm.out]; exact byte_ne he
        have Hno := Lib.hid (show c ∉ (s.drop f).take (k + 1 - f) by
          rw [take_drop_snoc s f k hf hlt]
          simp only [List.mem_append, List.mem_singleton, not_or]
          exact ⟨hno.out, fun h => he h.symm⟩)
        clear he
        go_wp2_with fail
        go_roundw
        case rel => exact ⟨ps, f, k + 1, by go_num, by omega, rfl, by omega, by omega, hsp.out, Hno.out, hown.out, hb.out⟩
        case measure => simp [intOf]; omega
    · obtain rfl : k = s.length := by omega
      have Hsp := Lib.hid (show splitL c s = ps ++ [s.drop f] by
        have h := hno.out
        rw [List.take_of_length_le (by simp)] at h
        rw [hsp.out, splitL_plain c _ h])
      have Hz := Lib.hid hb.out.size
      have k1 : (0 : Int) ≤ (f : Int) := by omega
      have k2 : (f : Int) ≤ (s.length : Int) := by omega
      go_wp2_with (at_builtin; refine wpList_app1 _ rfl _ _ 58 rfl w.heap.size 9 (.string ⟨#[]⟩) 16 Tryz.underlying58 Tryz.infoStr rfl wr _ rfl rfl _ _ _ rfl rfl hown.out (by unfold maxLen; omega) (by omega) Hz.out ?_; intro v' w' hown' hb'; have Ho := Lib.hid (show w'.ownsRow w.heap.size 9 1 v' (ps ++ [s.drop f]).length (scells (ps ++ [s.drop f])) by rw [scells_snoc, List.length_append]; exact hown'); have Hb := Lib.hid (hb.out.trans hb'); clear hown' hb')
      go_ret
      refine ⟨_, rfl, ?_, Hb.out⟩
      rw [Hsp.out]; exact Ho.out

/-- l3Stand: may a text be told as a standing value of a kind. -/
theorem standOk_other {b s : List UInt8} (h1 : b ≠ [110]) (h2 : b ≠ [116]) (h3 : b ≠ [102]) : standOk b s = false := by
  unfold standOk; rw [if_neg h1, if_neg h2, if_neg h3]

theorem standQ (s : List UInt8) : standOk [116] s = (quoteOk s && !(s == [39, 39])) := by
  show (decide (2 < s.length) && decide (s.head? = some 39) && decide (s.getLast? = some 39) && textOk (s.drop 1).dropLast) = ((decide (2 ≤ s.length) && decide (s.head? = some 39) && decide (s.getLast? = some 39) && textOk (s.drop 1).dropLast) && !(s == [39, 39]))
  rcases Nat.lt_or_ge 2 s.length with h | h
  · have e1 : decide (2 < s.length) = true := by simpa using h
    have e2 : decide (2 ≤ s.length) = true := by simp; omega
    have e3 : (s == [39, 39]) = false := by
      rw [beq_eq_false_iff_ne]; rintro rfl; simp at h
    rw [e1, e2, e3]; simp
  · have e1 : decide (2 < s.length) = false := by simp; omega
    rw [e1]
    match s, h with
    | [], _ => rfl
    | [_], _ => rfl
    | [a, b], _ =>
      by_cases ha : a = 39
      · by_cases hb : b = 39
        · subst ha; subst hb; rfl
        · simp [hb]
      · simp [ha]

set_option maxHeartbeats 600000 in
theorem l3Stand_any (b s : List UInt8) (w : World) (hs : s.length ≤ 4000000) :
    Calls Tryz.prog 179 #[.string ⟨b.toArray⟩, .string ⟨s.toArray⟩] w fun e w' => e = .returned (.bool (standOk b s)) ∧ Below w.heap.size w w' := by
  by_cases h1 : b = [110]
  · subst h1
    have Hp := Lib.hid (fun W => l3Num_any s 999999 W hs (by omega))
    have hf : standOk [110] s = (match decL s with | some n => decide (0 < n) | none => false) := rfl
    have hv : (numOk s 999999 && (s != [48])) = standOk [110] s := by
      rw [hf]
      cases hd : decL s with
      | none => rw [numOk_no hd]; rfl
      | some n =>
        obtain ⟨h9, e⟩ := decL_some.1 hd
        rw [numOk_yes hd]
        have e1 : decide (n ≤ 999999) = true := by simpa using h9
        rw [e1, Bool.true_and]
        by_cases h0 : n = 0
        · subst h0
          rw [e, decB_small (by omega)]; decide
        · have hne : s ≠ [48] := by
            intro h
            rw [e] at h
            have : decB n = decB 0 := by rw [h, decB_small (n := 0) (by omega)]; decide
            exact h0 (decB_inj this)
          have e2 : (s != [48]) = true := by simpa using hne
          rw [e2]; simp; omega
    have Hv := Lib.hid hv
    clear hf hv
    go_enter Tryz.func179, Tryz.ntmps179
    go_wp2_with fail
    refine (Hp.out _).mono ?_
    rintro e w' ⟨n, hn, rfl, _, hb⟩
    have Hb := Lib.hid hb
    clear hb
    rcases Bool.eq_false_or_eq_true (numOk s 999999) with ho | ho
    · have Ho := Lib.hid ho
      rw [ho]
      clear ho
      go_wp2_with fail
      go_ret
      exact ⟨ret1 (vbool (by rw [← Hv.out, Ho.out]; rfl)), Hb.out⟩
    · have Ho := Lib.hid ho
      rw [ho]
      clear ho
      go_wp2_with fail
      go_ret
      exact ⟨ret1 (vbool (by rw [← Hv.out, Ho.out]; rfl)), Hb.out⟩
  · by_cases h2 : b = [116]
    · subst h2
      have Hp := Lib.hid (fun W => l3Text_any s W hs)
      have Hv := Lib.hid (standQ s)
      clear h1
      go_enter Tryz.func179, Tryz.ntmps179
      go_wp2_with fail
      refine (Hp.out _).mono ?_
      rintro e w' ⟨rfl, rfl⟩
      rcases Bool.eq_false_or_eq_true (quoteOk s) with ho | ho
      · have Ho := Lib.hid ho
        rw [ho]
        clear ho
        rcases Bool.eq_false_or_eq_true (s == [39, 39]) with hq | hq
        · have Hq := Lib.hid hq
          have hq2 : (s != [39, 39]) = false := by simp [bne, hq]
          go_wp2_with fail
          go_ret
          exact ⟨ret1 (vbool (by rw [Hv.out, Ho.out, Hq.out]; rfl)), Below.refl _ _⟩
        · have Hq := Lib.hid hq
          have hq2 : (s != [39, 39]) = true := by simp [bne, hq]
          go_wp2_with fail
          go_ret
          exact ⟨ret1 (vbool (by rw [Hv.out, Ho.out, Hq.out]; rfl)), Below.refl _ _⟩
      · have Ho := Lib.hid ho
        rw [ho]
        clear ho
        go_wp2_with fail
        go_ret
        exact ⟨ret1 (vbool (by rw [Hv.out, Ho.out]; rfl)), Below.refl _ _⟩
    · by_cases h3 : b = [102]
      · subst h3
        have Hv := Lib.hid (show standOk [102] s = (s == [121, 101, 115]) by show decide (s = [121, 101, 115]) = _; by_cases h : s = [121, 101, 115] <;> simp [h])
        clear h1 h2
        go_enter Tryz.func179, Tryz.ntmps179
        go_wp2_with fail
        go_ret
        exact ⟨ret1 (vbool Hv.out.symm), Below.refl _ _⟩
      · have Hv := Lib.hid (standOk_other (s := s) h1 h2 h3)
        have q1 : (b == [110]) = false := by simpa using h1
        have q2 : (b == [116]) = false := by simpa using h2
        have q3 : (b == [102]) = false := by simpa using h3
        clear h1 h2 h3
        go_enter Tryz.func179, Tryz.ntmps179
        go_wp2_with fail
        go_ret
        exact ⟨ret1 (vbool Hv.out.symm), Below.refl _ _⟩

def plainB (b : List UInt8) : List UInt8 := if b = [110] then [48] else if b = [116] then [39, 39] else [110, 111]
theorem l3Plain_any (b : List UInt8) (w : World) (hb : b = [110] ∨ b = [116] ∨ b = [102]) :
    Calls Tryz.prog 186 #[.string ⟨b.toArray⟩] w fun e w' => e = .returned (.string ⟨(plainB b).toArray⟩) ∧ w = w' := by
  rcases hb with rfl | rfl | rfl
  all_goals
    go_enter Tryz.func186, Tryz.ntmps186
    go_wp2_with fail
    go_ret
    exact ⟨rfl, rfl⟩
end Go.Proofs.YtcjfgbcdlcdeaaaGreatDoor
/- l3ReadField: a field of a type, as the reference reads it. -/
namespace Go.Proofs.YtcjfgbcdlcdeaaaGreatDoor
open Go.RowKit
set_option maxRecDepth 100000
set_option linter.unusedVariables false
set_option linter.unusedSimpArgs false
attribute [local go_sem] ba_get ba_toList ba_extract take_drop_all ByteArray.mk_append_mk

/-- What reading a field leaves. -/
def SfPost (o : Option Fd) (w : World) (e : Ending) (w' : World) : Prop :=
  (match o with
    | some f => e = .returned (.tuple #[sfV f, .bool true])
    | none => ∃ (x : Int) (a b c : ByteArray), e = .returned (.tuple #[.agg #[.int .i64 x, .string a, .string b, .string c], .bool false])) ∧ Below w.heap.size w w'
theorem SfPost.no {w w' : World} {e : Ending} {o : Option Fd} (ho : o = none) {x : Int} {a b c : ByteArray} (he : e = .returned (.tuple #[.agg #[.int .i64 x, .string a, .string b, .string c], .bool false])) (hb : Below w.heap.size w w') : SfPost o w e w' := by
  rw [ho]; exact ⟨⟨x, a, b, c, he⟩, hb⟩
theorem SfPost.yes {w w' : World} {e : Ending} {o : Option Fd} {f : Fd} (ho : o = some f) (he : e = .returned (.tuple #[sfV f, .bool true])) (hb : Below w.heap.size w w') : SfPost o w e w' := by
  rw [ho]; exact ⟨he, hb⟩

/-- Two or three texts in a row. -/
theorem own_two {w : World} {base : Nat} {v : Value} {a b : List UInt8} (h : w.ownsRow base 9 1 v [a, b].length (scells [a, b])) :
    ∃ g c, v = .slice (some ⟨g, 0, none⟩) 2 c ∧ base ≤ g ∧ g < w.heap.size ∧ w.cell? ⟨g, 0, none⟩ = some (.string ⟨a.toArray⟩) ∧ w.cell? ⟨g, 1, none⟩ = some (.string ⟨b.toArray⟩) := by
  rcases h.2 with ⟨_, h0⟩ | ⟨g, cap, cur, rfl, hb, hh, _⟩
  · simp at h0
  · have hc := fun j u hu => h.cells (g := g) rfl j u hu
    have e1 : ∀ j, (⟨g, 0, none⟩ : Addr).add j = ⟨g, j, none⟩ := fun j => by unfold Addr.add; split <;> simp_all
    refine ⟨g, cap, rfl, hb, (h.lt g rfl).2, ?_, ?_⟩
    · have := hc 0 _ rfl; rwa [e1] at this
    · have := hc 1 _ rfl; rwa [e1] at this
theorem own_three {w : World} {base : Nat} {v : Value} {a b d : List UInt8} (h : w.ownsRow base 9 1 v [a, b, d].length (scells [a, b, d])) :
    ∃ g c, v = .slice (some ⟨g, 0, none⟩) 3 c ∧ base ≤ g ∧ g < w.heap.size ∧ w.cell? ⟨g, 0, none⟩ = some (.string ⟨a.toArray⟩) ∧ w.cell? ⟨g, 1, none⟩ = some (.string ⟨b.toArray⟩) ∧ w.cell? ⟨g, 2, none⟩ = some (.string ⟨d.toArray⟩) := by
  rcases h.2 with ⟨_, h0⟩ | ⟨g, cap, cur, rfl, hb, hh, _⟩
  · simp at h0
  · have hc := fun j u hu => h.cells (g := g) rfl j u hu
    have e1 : ∀ j, (⟨g, 0, none⟩ : Addr).add j = ⟨g, j, none⟩ := fun j => by unfold Addr.add; split <;> simp_all
    refine ⟨g, cap, rfl, hb, (h.lt g rfl).2, ?_, ?_, ?_⟩
    · have := hc 0 _ rfl; rwa [e1] at this
    · have := hc 1 _ rfl; rwa [e1] at this
    · have := hc 2 _ rfl; rwa [e1] at this

set_option maxHeartbeats 1000000 in
/-- A number of parts that is not the wanted one. -/
theorem sReadField_parts (st : UInt8) (s : List UInt8) (w : World) (hs : s.length ≤ 1000) (hp : (splitL 58 s).length ≠ (if st = 69 then 2 else 3)) :
    Calls Tryz.prog 150 #[.string ⟨s.toArray⟩, .int .u8 (st.toNat : Int)] w (SfPost (fieldS st s) w) := by
  have hno : fieldS st s = none := by
    unfold fieldS
    by_cases h : st = 69
    · rw [if_pos h] at hp ⊢
      have : fdL2 (splitL 58 s) = none := by
        cases hh : fdL2 (splitL 58 s) with
        | none => rfl
        | some x => rw [(fdL2_some (n := x.1) (b := x.2)).1 hh |>.1] at hp; simp at hp
      rw [this]
    · rw [if_neg h] at hp ⊢
      have : fdL3 (splitL 58 s) = none := by
        cases hh : fdL3 (splitL 58 s) with
        | none => rfl
        | some x => rw [(fdL3_some (n := x.1) (b := x.2.1) (c := x.2.2)).1 hh |>.1] at hp; simp at hp
      rw [this]
  have Hno := Lib.hid hno
  have Hl := Lib.hid (splitL_len 58 s)
  have hst := st.toNat_lt
  clear hno
  have Hcut := Lib.hid (fun W => l3Cut_any s 58 58 rfl W (by omega))
  generalize splitL 58 s = ps at hp Hl Hcut
  by_cases h69 : st = 69
  · rw [if_pos h69] at hp
    have t1 : ((st.toNat : Int) != 69) = false := by have := byte_eq h69; simpa using this
    have t2 : ((st.toNat : Int) == 69) = true := byte_eq h69
    have t3 : ((ps.length : Int) != 2) = true := by rw [bne_iff_ne]; omega
    clear h69 hp
    go_enter Tryz.func150, Tryz.ntmps150
    go_wp2_with fail
    refine (Hcut.out _).mono ?_
    rintro e w1 ⟨v, rfl, ho, hb⟩
    obtain ⟨A, c, rfl, _⟩ := RowAt.own ho
    obtain ⟨hc, hfz, hz⟩ := bcell hb
    have Hb := Lib.hid (((Below.refl w.heap.size w).alloc (Nat.le_refl _) _).trans (hb.mono (by simp)))
    clear hb ho
    go_wp2_with fail
    all_goals
      refine bodyPost_ret (v := .tuple #[sf0, .bool false]) (by simp [results, Tryz.results150, go_sem, sf0, hc]) rfl ?_
      exact SfPost.no Hno.out rfl ((((Hb.out.setCell (Nat.le_refl _) _).setCell (Nat.le_refl _) _).setCell (Nat.le_refl _) _).setCell (Nat.le_refl _) _)
  · rw [if_neg h69] at hp
    have t1 : ((st.toNat : Int) != 69) = true := by have := byte_ne h69; simpa using this
    have t2 : ((st.toNat : Int) == 69) = false := byte_ne h69
    have t3 : ((ps.length : Int) != 3) = true := by rw [bne_iff_ne]; omega
    clear h69 hp
    go_enter Tryz.func150, Tryz.ntmps150
    go_wp2_with fail
    refine (Hcut.out _).mono ?_
    rintro e w1 ⟨v, rfl, ho, hb⟩
    obtain ⟨A, c, rfl, _⟩ := RowAt.own ho
    obtain ⟨hc, hfz, hz⟩ := bcell hb
    have Hb := Lib.hid (((Below.refl w.heap.size w).alloc (Nat.le_refl _) _).trans (hb.mono (by simp)))
    clear hb ho
    go_wp2_with fail
    all_goals
      refine bodyPost_ret (v := .tuple #[sf0, .bool false]) (by simp [results, Tryz.results150, go_sem, sf0, hc]) rfl ?_
      exact SfPost.no Hno.out rfl ((((Hb.out.setCell (Nat.le_refl _) _).setCell (Nat.le_refl _) _).setCell (Nat.le_refl _) _).setCell (Nat.le_refl _) _)

/-- How the first two parts of a field stand. -/
theorem parts_cases (a b : List UInt8) : numOk a 200 = false ∨ (numOk a 200 = true ∧ decL a = some 0) ∨ (∃ n, numOk a 200 = true ∧ decL a = some n ∧ 1 ≤ n ∧ n ≤ 200 ∧ nameOk b = false) ∨ (∃ n, numOk a 200 = true ∧ decL a = some n ∧ 1 ≤ n ∧ n ≤ 200 ∧ nameOk b = true) := by
  cases hd : decL a with
  | none => exact .inl (numOk_no hd)
  | some n =>
    rw [numOk_yes hd]
    by_cases h : n ≤ 200
    · have e : decide (n ≤ 200) = true := by simpa using h
      rw [e]
      by_cases h0 : n = 0
      · subst h0; exact .inr (.inl ⟨rfl, rfl⟩)
      · rcases Bool.eq_false_or_eq_true (nameOk b) with hb | hb
        · exact .inr (.inr (.inr ⟨n, rfl, rfl, by omega, h, hb⟩))
        · exact .inr (.inr (.inl ⟨n, rfl, rfl, by omega, h, hb⟩))
    · left; simpa using h
theorem fdL2_bad {a b : List UInt8} (h : numOk a 200 = false ∨ decL a = some 0 ∨ nameOk b = false) : fdL2 [a, b] = none := by
  cases hh : fdL2 [a, b] with
  | none => rfl
  | some x =>
    obtain ⟨n, c⟩ := x
    obtain ⟨e, h1, h2, h3⟩ := fdL2_some.1 hh
    simp at e
    obtain ⟨rfl, rfl⟩ := e
    have hd : decL (decB n) = some n := decL_some.2 ⟨by omega, rfl⟩
    rcases h with h | h | h
    · rw [numOk_yes hd] at h; simp at h; omega
    · rw [hd] at h; injection h with h; omega
    · rw [h3] at h; cases h
theorem fdL3_bad {a b c : List UInt8} (h : numOk a 200 = false ∨ decL a = some 0 ∨ nameOk b = false) : fdL3 [a, b, c] = none := by
  cases hh : fdL3 [a, b, c] with
  | none => rfl
  | some x =>
    obtain ⟨n, d, f⟩ := x
    obtain ⟨e, h1, h2, h3⟩ := fdL3_some.1 hh
    simp at e
    obtain ⟨rfl, rfl, rfl⟩ := e
    have hd : decL (decB n) = some n := decL_some.2 ⟨by omega, rfl⟩
    rcases h with h | h | h
    · rw [numOk_yes hd] at h; simp at h; omega
    · rw [hd] at h; injection h with h; omega
    · rw [h3] at h; cases h
theorem fdL2_good {a b : List UInt8} {n : Nat} (hd : decL a = some n) (h1 : 1 ≤ n) (h2 : n ≤ 200) (hb : nameOk b = true) : fdL2 [a, b] = some (n, b) := fdL2_some.2 ⟨by rw [(decL_some.1 hd).2], h1, h2, hb⟩
theorem fdL3_good {a b c : List UInt8} {n : Nat} (hd : decL a = some n) (h1 : 1 ≤ n) (h2 : n ≤ 200) (hb : nameOk b = true) : fdL3 [a, b, c] = some (n, b, c) := fdL3_some.2 ⟨by rw [(decL_some.1 hd).2], h1, h2, hb⟩

set_option maxHeartbeats 2000000 in
theorem sRead_E1 (s a b : List UInt8) (w : World) (hs : s.length ≤ 1000) (hp : splitL 58 s = [a, b]) (ho : numOk a 200 = false) :
    Calls Tryz.prog 150 #[.string ⟨s.toArray⟩, .int .u8 69] w (SfPost (fieldS 69 s) w) := by
  have hal := splitL_plen 58 s a (by rw [hp]; simp)
  have hbl := splitL_plen 58 s b (by rw [hp]; simp)
  have hF : fieldS 69 s = (match fdL2 [a, b] with | some (n, b) => some ⟨n, b, Kd.nil, []⟩ | none => none) := by unfold fieldS; rw [if_pos rfl, hp]; cases fdL2 [a, b] <;> rfl
  have Hcut := Lib.hid (fun W => l3Cut_any s 58 58 rfl W (by omega))
  rw [hp] at Hcut
  have Hnum := Lib.hid (fun W => l3Num_any a 200 W (by omega) (by omega))
  have Hname := Lib.hid (fun W => l2Name_any b W (by omega))
  clear hp
  rw [fdL2_bad (.inl ho)] at hF
  have HF := Lib.hid hF
  have Ho := Lib.hid ho
  clear hF ho
  go_enter Tryz.func150, Tryz.ntmps150
  go_wp2_with fail
  refine (Hcut.out _).mono ?_
  rintro e w1 ⟨v, rfl, ho, hb⟩
  obtain ⟨g, c, rfl, hg1, hg2, c0, c1⟩ := own_two ho
  simp at hg1
  obtain ⟨hc, hfz, hz⟩ := bcell hb
  have Hb := Lib.hid (((Below.refl w.heap.size w).alloc (Nat.le_refl _) _).trans (hb.mono (by simp)))
  have hzz := hz w.heap.size (by simp)
  clear hb ho
  go_wp2_with fail
  refine (Hnum.out _).mono ?_
  rintro e w2 ⟨n, hn, rfl, hdn, hb2⟩
  rw [Ho.out]
  obtain ⟨hc2, hfz2, hz2⟩ := bcell hb2
  have Hb2 := Lib.hid (Hb.out.trans (hb2.mono Hb.out.size))
  have hsz := Hb2.out.size
  have hz3 := hz2 _ hzz
  clear hb2
  go_wp2_with fail
  refine bodyPost_ret (v := .tuple #[.agg #[.int .i64 n, .string ⟨b.toArray⟩, .string ⟨#[]⟩, .string ⟨#[]⟩], .bool false]) (by simp [results, Tryz.results150, go_sem, hc, hc2, hzz, hz3]) rfl ?_
  exact SfPost.no HF.out rfl (by (repeat (first | exact Hb2.out | refine Below.setCell ?_ (by first | exact Nat.le_refl _ | (simp; omega) | omega) _ | refine Below.alloc ?_ (by first | exact Nat.le_refl _ | (simp; omega) | omega) _ | refine Below.drew ?_)))

set_option maxHeartbeats 2000000 in
theorem sRead_E2 (s a b : List UInt8) (w : World) (hs : s.length ≤ 1000) (hp : splitL 58 s = [a, b]) (ho : numOk a 200 = true) (hd : decL a = some 0) :
    Calls Tryz.prog 150 #[.string ⟨s.toArray⟩, .int .u8 69] w (SfPost (fieldS 69 s) w) := by
  have hal := splitL_plen 58 s a (by rw [hp]; simp)
  have hbl := splitL_plen 58 s b (by rw [hp]; simp)
  have hF : fieldS 69 s = (match fdL2 [a, b] with | some (n, b) => some ⟨n, b, Kd.nil, []⟩ | none => none) := by unfold fieldS; rw [if_pos rfl, hp]; cases fdL2 [a, b] <;> rfl
  have Hcut := Lib.hid (fun W => l3Cut_any s 58 58 rfl W (by omega))
  rw [hp] at Hcut
  have Hnum := Lib.hid (fun W => l3Num_any a 200 W (by omega) (by omega))
  have Hname := Lib.hid (fun W => l2Name_any b W (by omega))
  clear hp
  rw [fdL2_bad (.inr (.inl hd))] at hF
  have HF := Lib.hid hF
  have Ho := Lib.hid ho
  have Hd := Lib.hid hd
  clear hF ho hd
  go_enter Tryz.func150, Tryz.ntmps150
  go_wp2_with fail
  refine (Hcut.out _).mono ?_
  rintro e w1 ⟨v, rfl, ho, hb⟩
  obtain ⟨g, c, rfl, hg1, hg2, c0, c1⟩ := own_two ho
  simp at hg1
  obtain ⟨hc, hfz, hz⟩ := bcell hb
  have Hb := Lib.hid (((Below.refl w.heap.size w).alloc (Nat.le_refl _) _).trans (hb.mono (by simp)))
  have hzz := hz w.heap.size (by simp)
  clear hb ho
  go_wp2_with fail
  refine (Hnum.out _).mono ?_
  rintro e w2 ⟨n, hn, rfl, hdn, hb2⟩
  rw [Ho.out]
  obtain ⟨hc2, hfz2, hz2⟩ := bcell hb2
  have Hb2 := Lib.hid (Hb.out.trans (hb2.mono Hb.out.size))
  have hsz := Hb2.out.size
  have hz3 := hz2 _ hzz
  clear hb2
  obtain rfl := hdn 0 Hd.out
  clear hdn
  go_wp2_with fail
  refine bodyPost_ret (v := .tuple #[.agg #[.int .i64 0, .string ⟨b.toArray⟩, .string ⟨#[]⟩, .string ⟨#[]⟩], .bool false]) (by simp [results, Tryz.results150, go_sem, hc, hc2, hzz, hz3]) rfl ?_
  exact SfPost.no HF.out rfl (by (repeat (first | exact Hb2.out | refine Below.setCell ?_ (by first | exact Nat.le_refl _ | (simp; omega) | omega) _ | refine Below.alloc ?_ (by first | exact Nat.le_refl _ | (simp; omega) | omega) _ | refine Below.drew ?_)))

set_option maxHeartbeats 2000000 in
theorem sRead_E3 (s a b : List UInt8) (w : World) (hs : s.length ≤ 1000) (hp : splitL 58 s = [a, b]) (n0 : Nat) (ho : numOk a 200 = true) (hd : decL a = some n0) (h1 : 1 ≤ n0) (h2 : n0 ≤ 200) (hnm : nameOk b = false) :
    Calls Tryz.prog 150 #[.string ⟨s.toArray⟩, .int .u8 69] w (SfPost (fieldS 69 s) w) := by
  have hal := splitL_plen 58 s a (by rw [hp]; simp)
  have hbl := splitL_plen 58 s b (by rw [hp]; simp)
  have hF : fieldS 69 s = (match fdL2 [a, b] with | some (n, b) => some ⟨n, b, Kd.nil, []⟩ | none => none) := by unfold fieldS; rw [if_pos rfl, hp]; cases fdL2 [a, b] <;> rfl
  have Hcut := Lib.hid (fun W => l3Cut_any s 58 58 rfl W (by omega))
  rw [hp] at Hcut
  have Hnum := Lib.hid (fun W => l3Num_any a 200 W (by omega) (by omega))
  have Hname := Lib.hid (fun W => l2Name_any b W (by omega))
  clear hp
  rw [fdL2_bad (.inr (.inr hnm))] at hF
  have HF := Lib.hid hF
  have Ho := Lib.hid ho
  have Hd := Lib.hid hd
  have Hnm := Lib.hid hnm
  clear hF ho hd hnm
  go_enter Tryz.func150, Tryz.ntmps150
  go_wp2_with fail
  refine (Hcut.out _).mono ?_
  rintro e w1 ⟨v, rfl, ho, hb⟩
  obtain ⟨g, c, rfl, hg1, hg2, c0, c1⟩ := own_two ho
  simp at hg1
  obtain ⟨hc, hfz, hz⟩ := bcell hb
  have Hb := Lib.hid (((Below.refl w.heap.size w).alloc (Nat.le_refl _) _).trans (hb.mono (by simp)))
  have hzz := hz w.heap.size (by simp)
  clear hb ho
  go_wp2_with fail
  refine (Hnum.out _).mono ?_
  rintro e w2 ⟨n, hn, rfl, hdn, hb2⟩
  rw [Ho.out]
  obtain ⟨hc2, hfz2, hz2⟩ := bcell hb2
  have Hb2 := Lib.hid (Hb.out.trans (hb2.mono Hb.out.size))
  have hsz := Hb2.out.size
  have hz3 := hz2 _ hzz
  clear hb2
  obtain rfl := hdn n0 Hd.out
  clear hdn
  go_wp2_with fail
  refine (Hname.out _).mono ?_
  rintro e w3 ⟨rfl, rfl⟩
  rw [Hnm.out]
  go_wp2_with fail
  refine bodyPost_ret (v := .tuple #[.agg #[.int .i64 n0, .string ⟨b.toArray⟩, .string ⟨#[]⟩, .string ⟨#[]⟩], .bool false]) (by simp [results, Tryz.results150, go_sem, hc, hc2, hzz, hz3]) rfl ?_
  exact SfPost.no HF.out rfl (by (repeat (first | exact Hb2.out | refine Below.setCell ?_ (by first | exact Nat.le_refl _ | (simp; omega) | omega) _ | refine Below.alloc ?_ (by first | exact Nat.le_refl _ | (simp; omega) | omega) _ | refine Below.drew ?_)))

set_option maxHeartbeats 2000000 in
theorem sRead_E4 (s a b : List UInt8) (w : World) (hs : s.length ≤ 1000) (hp : splitL 58 s = [a, b]) (n0 : Nat) (ho : numOk a 200 = true) (hd : decL a = some n0) (h1 : 1 ≤ n0) (h2 : n0 ≤ 200) (hnm : nameOk b = true) :
    Calls Tryz.prog 150 #[.string ⟨s.toArray⟩, .int .u8 69] w (SfPost (fieldS 69 s) w) := by
  have hal := splitL_plen 58 s a (by rw [hp]; simp)
  have hbl := splitL_plen 58 s b (by rw [hp]; simp)
  have hF : fieldS 69 s = (match fdL2 [a, b] with | some (n, b) => some ⟨n, b, Kd.nil, []⟩ | none => none) := by unfold fieldS; rw [if_pos rfl, hp]; cases fdL2 [a, b] <;> rfl
  have Hcut := Lib.hid (fun W => l3Cut_any s 58 58 rfl W (by omega))
  rw [hp] at Hcut
  have Hnum := Lib.hid (fun W => l3Num_any a 200 W (by omega) (by omega))
  have Hname := Lib.hid (fun W => l2Name_any b W (by omega))
  clear hp
  rw [fdL2_good hd h1 h2 hnm] at hF
  have HF := Lib.hid hF
  have Ho := Lib.hid ho
  have Hd := Lib.hid hd
  have Hnm := Lib.hid hnm
  clear hF ho hd hnm
  go_enter Tryz.func150, Tryz.ntmps150
  go_wp2_with fail
  refine (Hcut.out _).mono ?_
  rintro e w1 ⟨v, rfl, ho, hb⟩
  obtain ⟨g, c, rfl, hg1, hg2, c0, c1⟩ := own_two ho
  simp at hg1
  obtain ⟨hc, hfz, hz⟩ := bcell hb
  have Hb := Lib.hid (((Below.refl w.heap.size w).alloc (Nat.le_refl _) _).trans (hb.mono (by simp)))
  have hzz := hz w.heap.size (by simp)
  clear hb ho
  go_wp2_with fail
  refine (Hnum.out _).mono ?_
  rintro e w2 ⟨n, hn, rfl, hdn, hb2⟩
  rw [Ho.out]
  obtain ⟨hc2, hfz2, hz2⟩ := bcell hb2
  have Hb2 := Lib.hid (Hb.out.trans (hb2.mono Hb.out.size))
  have hsz := Hb2.out.size
  have hz3 := hz2 _ hzz
  clear hb2
  obtain rfl := hdn n0 Hd.out
  clear hdn
  go_wp2_with fail
  refine (Hname.out _).mono ?_
  rintro e w3 ⟨rfl, rfl⟩
  rw [Hnm.out]
  go_wp2_with fail
  refine bodyPost_ret (v := .tuple #[sfV ⟨n0, b, Kd.nil, []⟩, .bool true]) (by simp [results, Tryz.results150, go_sem, sfV, Kd.nil, kdB, coreB, hc, hc2, hzz, hz3]) rfl ?_
  exact SfPost.yes HF.out rfl (by (repeat (first | exact Hb2.out | refine Below.setCell ?_ (by first | exact Nat.le_refl _ | (simp; omega) | omega) _ | refine Below.alloc ?_ (by first | exact Nat.le_refl _ | (simp; omega) | omega) _ | refine Below.drew ?_)))

theorem sReadField_enum (s a b : List UInt8) (w : World) (hs : s.length ≤ 1000) (hp : splitL 58 s = [a, b]) :
    Calls Tryz.prog 150 #[.string ⟨s.toArray⟩, .int .u8 69] w (SfPost (fieldS 69 s) w) := by
  rcases parts_cases a b with ho | ⟨ho, hd⟩ | ⟨n0, ho, hd, h1, h2, hnm⟩ | ⟨n0, ho, hd, h1, h2, hnm⟩
  · exact sRead_E1 s a b w hs hp ho
  · exact sRead_E2 s a b w hs hp ho hd
  · exact sRead_E3 s a b w hs hp n0 ho hd h1 h2 hnm
  · exact sRead_E4 s a b w hs hp n0 ho hd h1 h2 hnm

end Go.Proofs.YtcjfgbcdlcdeaaaGreatDoor
