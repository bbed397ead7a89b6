/- Texts joined: DType, NumsS2, SCut, SL3, SL4, SMem. Conditions: as each theorem names them. -/
import Derived.Test.YtcjfgbcdlcdeaaaDoorK01
/- Drawn fields and types: texts of bounded length, with short runs of signs. -/
namespace Go.Proofs.YtcjfgbcdlcdeaaaDoor
open Go.RowKit
set_option maxRecDepth 100000
set_option linter.unusedVariables false
set_option linter.unusedSimpArgs false
attribute [local go_sem] ba_get ba_toList ba_extract take_drop_all ByteArray.mk_append_mk

/-! ### runs of signs in what is drawn -/
def isPl (c : UInt8) : Bool := !isSign c && c != 64
theorem stepM_pl {c : UInt8} (h : isPl c = true) (st : Nat × Nat) : stepM st c = some (st.2, 0) := by
  simp only [isPl, Bool.and_eq_true, Bool.not_eq_true', bne_iff_ne] at h
  unfold stepM
  rw [h.1, if_neg (by decide), if_neg (fun e => h.2 e.1)]
theorem mach_pl : ∀ (p : List UInt8), p.all isPl = true → ∀ u v, p ≠ [] → ∃ u' v', mach (u, v) p = some (u', v') ∧ (v = 0 → u' = 0) ∧ v' = 0 ∧ u' ≤ v
  | [], _, _, _, h => absurd rfl h
  | [c], h, u, v, _ => by
    simp only [List.all_cons, List.all_nil, Bool.and_true] at h
    refine ⟨v, 0, ?_, fun e => e, rfl, Nat.le_refl _⟩
    rw [mach, stepM_pl h]; rfl
  | c :: d :: p, h, u, v, _ => by
    simp only [List.all_cons, Bool.and_eq_true] at h
    obtain ⟨u', v', e, h1, h2, h3⟩ := mach_pl (d :: p) (by simp only [List.all_cons, Bool.and_eq_true]; exact h.2) v 0 (by simp)
    refine ⟨u', v', ?_, fun _ => h1 rfl, h2, by omega⟩
    rw [mach, stepM_pl h.1]; exact e
theorem mach_pl0 {p : List UInt8} (h : p.all isPl = true) (hn : p ≠ []) (u : Nat) : mach (u, 0) p = some (0, 0) := by
  obtain ⟨u', v', e, h1, h2, _⟩ := mach_pl p h u 0 hn
  rw [e, h1 rfl, h2]
/-- A piece between separators: whatever run stood ahead of the separator. -/
def FSafe (l : List UInt8) : Prop := ∀ u, u ≤ 14 → ∃ u' v', mach (u, 0) l = some (u', v') ∧ u' ≤ 14 ∧ v' ≤ 14
/-- A line, its end too. -/
def LSafe (l : List UInt8) : Prop := ∀ u, u ≤ 14 → ∃ u', mach (u, 0) l = some (u', 0) ∧ u' ≤ 14
theorem FSafe.sep {l : List UInt8} (h : FSafe l) {c : UInt8} (hc : isPl c = true) : LSafe (l ++ [c]) := fun u hu => by
  obtain ⟨u', v', e, h1, h2⟩ := h u hu
  refine ⟨v', ?_, h2⟩
  rw [mach_app, e]
  simp only [mach]
  rw [stepM_pl hc]
theorem LSafe.app {a b : List UInt8} (h : LSafe a) (k : LSafe b) : LSafe (a ++ b) := fun u hu => by
  obtain ⟨u', e, h1⟩ := h u hu
  obtain ⟨u2, e2, h2⟩ := k u' h1
  exact ⟨u2, by rw [mach_app, e]; exact e2, h2⟩
theorem LSafe.appF {a b : List UInt8} (h : LSafe a) (k : FSafe b) : FSafe (a ++ b) := fun u hu => by
  obtain ⟨u', e, h1⟩ := h u hu
  obtain ⟨u2, v2, e2, h2, h3⟩ := k u' h1
  exact ⟨u2, v2, by rw [mach_app, e]; exact e2, h2, h3⟩
theorem LSafe.plain {p : List UInt8} (h : p.all isPl = true) (hn : p ≠ []) : LSafe p := fun u hu => ⟨0, mach_pl0 h hn u, by omega⟩
theorem LSafe.toF {l : List UInt8} (h : LSafe l) : FSafe l := fun u hu => by
  obtain ⟨u', e, h1⟩ := h u hu
  exact ⟨u', 0, e, h1, by omega⟩
theorem LSafe.nil : LSafe [] := fun u hu => ⟨u, rfl, hu⟩
def okM (l : List UInt8) (v : Nat) : Bool := match mach (0, v) l with | some (a, b) => decide (a ≤ 14) && decide (b ≤ 14) | none => false
theorem okM_iff {l : List UInt8} {v : Nat} (h : okM l v = true) : ∃ a b, mach (0, v) l = some (a, b) ∧ a ≤ 14 ∧ b ≤ 14 := by
  unfold okM at h
  cases e : mach (0, v) l with
  | none => rw [e] at h; cases h
  | some x =>
    obtain ⟨a, b⟩ := x
    rw [e] at h
    simp only [Bool.and_eq_true, decide_eq_true_eq] at h
    exact ⟨a, b, rfl, h.1, h.2⟩
theorem DK.mach {l : List UInt8} (h : DK l) : ∃ a b, Go.Proofs.YtcjfgbcdlcdeaaaDoor.mach (0, 0) l = some (a, b) ∧ a ≤ 14 ∧ b ≤ 14 := by
  rcases h with ⟨sg, b, rfl, h1, h2, h3⟩ | h
  · rw [mach_app, mach_signs sg _ h2]
    simp only [Nat.zero_add]
    have hd : ∀ b ∈ baseTs, okM b 0 = true ∧ okM b 1 = true ∧ okM b 2 = true := by decide
    obtain ⟨d0, d1, d2⟩ := hd b h3
    rcases (show sg.length = 0 ∨ sg.length = 1 ∨ sg.length = 2 by omega) with e | e | e <;> rw [e]
    · exact okM_iff d0
    · exact okM_iff d1
    · exact okM_iff d2
  · have hd : ∀ l ∈ weirdTs, okM l 0 = true := by decide
    exact okM_iff (hd l h)
theorem FSafe.kind {p k : List UInt8} (hp : p.all isPl = true) (hn : p ≠ []) (hk : DK k) : FSafe (p ++ k) := fun u hu => by
  rw [mach_app, mach_pl0 hp hn u]
  exact hk.mach
theorem isPl_dig {c : UInt8} (h : isDig c = true) : isPl c = true := by
  have := isDig_iff.1 h
  have h1 : c ≠ 91 := by rintro rfl; simp at this
  have h2 : c ≠ 63 := by rintro rfl; simp at this
  have h3 : c ≠ 64 := by rintro rfl; simp at this
  simp [isPl, isSign, h1, h2, h3]
theorem decB_pl (n : Nat) : (decB n).all isPl = true := List.all_eq_true.2 fun c hc => isPl_dig (List.all_eq_true.1 (decB_dig n) c hc)

/-! ### fields -/
def numTs : List (List UInt8) := [[53], [55, 55], [57, 57, 57, 57, 57, 57], [48]]
def txtTs : List (List UInt8) := [[104, 105], [97, 32, 98], []]
def flgTs : List (List UInt8) := [[121, 101, 115], [121, 101, 115], [110, 111]]

set_option maxHeartbeats 2000000 in
theorem l91Field_any (g p : Nat) (c : UInt8) (tag : Nat) (nm : List UInt8) (w : World) (h : Rdr w g p) (hp : p ≤ 100000000) (hc : c = 82 ∨ c = 85 ∨ c = 69) (ht : tag ≤ 99) (hn : nm.length ≤ 1) (hpl : nm.all isPl = true) :
    Calls Tryd.prog 39 #[.pointer (some ⟨g, 0, none⟩), .string ⟨[c].toArray⟩, .int .i64 (tag : Int), .string ⟨nm.toArray⟩] w (DrPost (fun l => FSafe l ∧ l.length ≤ 20) w g p 9) := by
  have hgl := h.lt
  have HR := Lib.hid h
  have Hd := Lib.hid (fun W => l6Dec_any tag tag W (Nat.le_refl _) (by omega))
  have hd2 := decB_len 1 tag (by have e : 10 ^ (1 + 1) = 100 := rfl; omega)
  have Hpre := Lib.hid (show (decB tag ++ 58 :: nm).all isPl = true ∧ (decB tag ++ 58 :: nm) ≠ [] by
    refine ⟨?_, by simp⟩
    rw [List.all_append, List.all_cons, decB_pl, hpl]; decide)
  have Hpre2 := Lib.hid (show (decB tag ++ 58 :: (nm ++ [58])).all isPl = true ∧ (decB tag ++ 58 :: (nm ++ [58])) ≠ [] by
    refine ⟨?_, by simp⟩
    rw [List.all_append, List.all_cons, List.all_append, decB_pl, hpl]; decide)
  have Hnp := Lib.hid hpl
  have Hdp := Lib.hid (decB_pl tag)
  clear h hpl
  generalize decB tag = dt at *
  go_enter Tryd.func39, Tryd.ntmps39
  go_wp2_with fail
  refine (Hd.out _).mono ?_
  rintro e w1 ⟨rfl, hb1⟩
  have HR1 := Lib.hid (HR.out.below hb1)
  have Hg1 := Lib.hid (dgrown_below hb1 (some g))
  clear hb1 HR
  rcases hc with rfl | rfl | rfl
  · go_wp2_with fail
    refine (l91Kind_any g p _ HR1.out hp).mono ?_
    rintro e w2 ⟨l, q, rfl, hl, hq, hR2, hg2⟩
    have hll := hl.len
    have Hl := Lib.hid hl
    have HR2 := Lib.hid hR2
    have Hg2 := Lib.hid (dgrown_trans Hg1.out hg2)
    clear hl hR2 hg2 HR1 Hg1
    go_wp2_with fail
    refine (pick_any g q 3 _ HR2.out (by omega) (by omega) (by omega)).mono ?_
    rintro e w3 ⟨z, rfl, hz1, _, hR3, hg3⟩
    have HR3 := Lib.hid hR3
    have hg3l := hR3.lt
    have Hg3 := Lib.hid (dgrown_trans Hg2.out hg3)
    clear hR3 hg3 HR2 Hg2
    by_cases hz0 : z = 0
    · subst hz0
      by_cases hn1 : l = [110]
      · subst hn1
        go_wp2_with fail
        refine (pick_any g (q + 1) 8 _ (HR3.out.dalloc _) (by omega) (by omega) (by omega)).mono ?_
        rintro e w4 ⟨u, rfl, hu1, _, hR4, hg4⟩
        have hu : u / 2 % 4 < numTs.length := by show u / 2 % 4 < 4; omega
        obtain ⟨s4, hsm, hcell⟩ := ((TRow.new w3 numTs).grown hg4 (by omega)).cell hu
        have hs4 := (show ∀ l ∈ numTs, l.all isPl = true ∧ l.length ≤ 6 by decide) s4 hsm
        have hs4l := hs4.2
        have k1 : (0 : Int) ≤ (u : Int) / 2 % 4 := by omega
        have k2 : (u : Int) / 2 % 4 < 4 := by omega
        have HR4 := Lib.hid hR4
        have Hg4 := Lib.hid (dgrown_trans Hg3.out (dgrown_trans (World.grownBy_alloc w3 _ (some g)) hg4))
        have Hs4 := Lib.hid hs4
        clear hR4 hg4 hsm hs4
        go_wp2_with fail
        go_ret
        exact ⟨dt ++ 58 :: (nm ++ 58 :: 110 :: 61 :: s4), q + 1 + 1, by simp, ⟨(LSafe.plain (by simp only [List.all_append, List.all_cons, Hdp.out, Hnp.out, Hs4.out.1]; decide) (by simp)).toF, by have := Hs4.out.2; simp; omega⟩, by omega, HR4.out, Hg4.out⟩
      · have tn : (l == [110]) = false := by simpa using hn1
        by_cases hn2 : l = [116]
        · subst hn2
          go_wp2_with fail
          refine (pick_any g (q + 1) 7 _ (HR3.out.dalloc _) (by omega) (by omega) (by omega)).mono ?_
          rintro e w4 ⟨u, rfl, hu1, _, hR4, hg4⟩
          have hu : u / 3 < txtTs.length := by show u / 3 < 3; omega
          obtain ⟨s4, hsm, hcell⟩ := ((TRow.new w3 txtTs).grown hg4 (by omega)).cell hu
          have hs4 := (show ∀ l ∈ txtTs, l.all isPl = true ∧ l.length ≤ 3 by decide) s4 hsm
          have hs4l := hs4.2
          have k1 : (0 : Int) ≤ (u : Int) / 3 := by omega
          have k2 : (u : Int) / 3 < 3 := by omega
          have HR4 := Lib.hid hR4
          have Hg4 := Lib.hid (dgrown_trans Hg3.out (dgrown_trans (World.grownBy_alloc w3 _ (some g)) hg4))
          have Hs4 := Lib.hid hs4
          clear hR4 hg4 hsm hs4
          go_wp2_with fail
          go_ret
          exact ⟨dt ++ 58 :: (nm ++ 58 :: 116 :: 61 :: 39 :: (s4 ++ [39])), q + 1 + 1, by simp, ⟨(LSafe.plain (by simp only [List.all_append, List.all_cons, Hdp.out, Hnp.out, Hs4.out.1]; decide) (by simp)).toF, by have := Hs4.out.2; simp; omega⟩, by omega, HR4.out, Hg4.out⟩
        · have tt : (l == [116]) = false := by simpa using hn2
          by_cases hn3 : l = [102]
          · subst hn3
            go_wp2_with fail
            refine (pick_any g (q + 1) 7 _ (HR3.out.dalloc _) (by omega) (by omega) (by omega)).mono ?_
            rintro e w4 ⟨u, rfl, hu1, _, hR4, hg4⟩
            have hu : u / 3 < flgTs.length := by show u / 3 < 3; omega
            obtain ⟨s4, hsm, hcell⟩ := ((TRow.new w3 flgTs).grown hg4 (by omega)).cell hu
            have hs4 := (show ∀ l ∈ flgTs, l.all isPl = true ∧ l.length ≤ 3 by decide) s4 hsm
            have hs4l := hs4.2
            have k1 : (0 : Int) ≤ (u : Int) / 3 := by omega
            have k2 : (u : Int) / 3 < 3 := by omega
            have HR4 := Lib.hid hR4
            have Hg4 := Lib.hid (dgrown_trans Hg3.out (dgrown_trans (World.grownBy_alloc w3 _ (some g)) hg4))
            have Hs4 := Lib.hid hs4
            clear hR4 hg4 hsm hs4
            go_wp2_with fail
            go_ret
            exact ⟨dt ++ 58 :: (nm ++ 58 :: 102 :: 61 :: s4), q + 1 + 1, by simp, ⟨(LSafe.plain (by simp only [List.all_append, List.all_cons, Hdp.out, Hnp.out, Hs4.out.1]; decide) (by simp)).toF, by have := Hs4.out.2; simp; omega⟩, by omega, HR4.out, Hg4.out⟩
          · have tf : (l == [102]) = false := by simpa using hn3
            clear hn1 hn2 hn3
            go_wp2_with fail
            go_ret
            exact ⟨(dt ++ 58 :: (nm ++ [58])) ++ l, q + 1, by simp, ⟨FSafe.kind Hpre2.out.1 Hpre2.out.2 Hl.out, by simp; omega⟩, by omega, HR3.out, Hg3.out⟩
    · have tz : ((z : Int) == 0) = false := by simp; omega
      clear hz0
      go_wp2_with fail
      go_ret
      exact ⟨(dt ++ 58 :: (nm ++ [58])) ++ l, q + 1, by simp, ⟨FSafe.kind Hpre2.out.1 Hpre2.out.2 Hl.out, by simp; omega⟩, by omega, HR3.out, Hg3.out⟩
  · go_wp2_with fail
    refine (l91Kind_any g p _ HR1.out hp).mono ?_
    rintro e w2 ⟨l, q, rfl, hl, hq, hR2, hg2⟩
    have hll := hl.len
    have Hl := Lib.hid hl
    have HR2 := Lib.hid hR2
    have Hg2 := Lib.hid (dgrown_trans Hg1.out hg2)
    clear hl hR2 hg2 HR1 Hg1
    go_wp2_with fail
    go_ret
    exact ⟨(dt ++ 58 :: (nm ++ [58])) ++ l, q, by simp, ⟨FSafe.kind Hpre2.out.1 Hpre2.out.2 Hl.out, by simp; omega⟩, by omega, HR2.out, Hg2.out⟩
  · go_wp2_with fail
    go_ret
    exact ⟨dt ++ 58 :: nm, p, by simp, ⟨(LSafe.plain Hpre.out.1 Hpre.out.2).toF, by simp; omega⟩, by omega, HR1.out, Hg1.out⟩

/-! ### types -/
theorem FSafe.comma {l : List UInt8} (h : FSafe l) : LSafe (l ++ [44]) := h.sep (by decide)
set_option maxHeartbeats 2000000 in
theorem l91Type_any (g p : Nat) (c nc : UInt8) (w : World) (h : Rdr w g p) (hp : p ≤ 10000000) (hc : c = 82 ∨ c = 85 ∨ c = 69) (hn : isPl nc = true) :
    Calls Tryd.prog 22 #[.pointer (some ⟨g, 0, none⟩), .string ⟨[c].toArray⟩, .string ⟨[nc].toArray⟩] w (DrPost (fun l => LSafe l ∧ l.length ≤ 88 ∧ 1 ≤ l.length) w g p 50) := by
  have hgl := h.lt
  have HR := Lib.hid h
  have Hh := Lib.hid (show LSafe [c, nc, 61] from LSafe.plain (by
    have hcp : isPl c = true := by rcases hc with rfl | rfl | rfl <;> decide
    simp only [List.all_cons, List.all_nil, hcp, hn]; decide) (by simp))
  have Hc := Lib.hid hc
  clear h hn
  go_enter Tryd.func22, Tryd.ntmps22
  go_wp2_with fail
  refine (pick_any g p 4 _ HR.out (by omega) (by omega) (by omega)).mono ?_
  rintro e w1 ⟨x, rfl, hx1, _, hR1, hg1⟩
  have hx : x ≤ 3 := by omega
  have HR1 := Lib.hid hR1
  have Hg1 := Lib.hid hg1
  have hg1l := hR1.lt
  clear hR1 hg1 HR hx1
  rcases hc with rfl | rfl | rfl
  · go_wp2_with fail
    refine (pick_any g (p + 1) 8 _ HR1.out (by omega) (by omega) (by omega)).mono ?_
    rintro e w2 ⟨z, rfl, hz1, _, hR2, hg2⟩
    have HR2 := Lib.hid hR2
    have Hg2 := Lib.hid (dgrown_trans Hg1.out hg2)
    have hg2l := hR2.lt
    clear hR2 hg2 HR1 Hg1 hz1
    by_cases hz0 : z = 0
    · subst hz0
      go_wp2_with fail
      go_loopw [7, 8, 10] (fun s t k wr => ∃ (l : List UInt8) (tg k' q : Nat), s = .string ⟨l.toArray⟩ ∧ t = .int .i64 (tg : Int) ∧ k = .int .i64 (k' : Int) ∧ k' ≤ 0 ∧ tg ≤ 3 * k' ∧ l.length ≤ 3 + 21 * k' ∧ 1 ≤ l.length ∧ Hid (FSafe l) ∧ Hid (k' = 0 → LSafe l) ∧ q ≤ (p + 1 + 1) + 11 * k' ∧ g < wr.heap.size ∧ Hid (Rdr wr g q) ∧ Hid (w.grownBy wr (some g))) (fun _ _ k _ => 0 - (intOf k).toNat)
      case atStart => exact ⟨[82, nc, 61], 0, 0, (p + 1 + 1), by simp, rfl, rfl, Nat.zero_le _, Nat.le_refl _, by simp, by simp, Hh.out.toF, fun _ => Hh.out, by omega, HR2.out.lt, HR2.out, Hg2.out⟩
      case round =>
        obtain ⟨l, tg, k, q, rfl, rfl, rfl, hk, htg, hll, hl1, hF, hL, hq, hgw, hR, hg⟩ := hrel
        by_cases hlt : k < 0
        · exact absurd hlt (Nat.not_lt_zero _)
        · have k2 : ¬ (k : Int) < 0 := by omega
          have HRf := Lib.hid hR.out
          have Hgf := Lib.hid hg.out
          have HFf := Lib.hid hF.out
          go_wp2_with fail
          go_ret
          exact ⟨l ++ [10], q, by simp, ⟨HFf.out.sep (by decide), by simp only [List.length_append, List.length_cons, List.length_nil]; omega, by simp⟩, by omega, HRf.out, Hgf.out⟩
    · have tz : ((z : Int) == 0) = false := by simp; omega
      clear hz0
      go_wp2_with fail
      go_loopw [7, 8, 10] (fun s t k wr => ∃ (l : List UInt8) (tg k' q : Nat), s = .string ⟨l.toArray⟩ ∧ t = .int .i64 (tg : Int) ∧ k = .int .i64 (k' : Int) ∧ k' ≤ (1 + x) ∧ tg ≤ 3 * k' ∧ l.length ≤ 3 + 21 * k' ∧ 1 ≤ l.length ∧ Hid (FSafe l) ∧ Hid (k' = 0 → LSafe l) ∧ q ≤ (p + 1 + 1) + 11 * k' ∧ g < wr.heap.size ∧ Hid (Rdr wr g q) ∧ Hid (w.grownBy wr (some g))) (fun _ _ k _ => (1 + x) - (intOf k).toNat)
      case atStart => exact ⟨[82, nc, 61], 0, 0, (p + 1 + 1), by simp, rfl, rfl, Nat.zero_le _, Nat.le_refl _, by simp, by simp, Hh.out.toF, fun _ => Hh.out, by omega, HR2.out.lt, HR2.out, Hg2.out⟩
      case round =>
        obtain ⟨l, tg, k, q, rfl, rfl, rfl, hk, htg, hll, hl1, hF, hL, hq, hgw, hR, hg⟩ := hrel
        by_cases hlt : k < (1 + x)
        · have k2 : (k : Int) < 1 + (x : Int) := by omega
          have k3 : k ≤ 3 := by omega
          go_wp2_with fail
          refine (pick_any g q 3 _ hR.out (by omega) (by omega) (by omega)).mono ?_
          rintro e w3 ⟨a, rfl, ha1, _, hR3, hg3⟩
          have ha : a ≤ 2 := by omega
          have HR3 := Lib.hid hR3
          have Hg3 := Lib.hid (dgrown_trans hg.out hg3)
          clear hR3 hg3 ha1
          go_wp2_with fail
          refine (pick_any g (q + 1) 2 _ HR3.out (by omega) (by omega) (by omega)).mono ?_
          rintro e w4 ⟨b, rfl, hb1, _, hR4, hg4⟩
          obtain ⟨T, hT, hT2⟩ : ∃ T : Nat, (T : Int) = (tg : Int) + 1 + (a : Int) * (b : Int) ∧ T ≤ 3 * (k + 1) := by
            have hb : b = 0 ∨ b = 1 := by omega
            rcases hb with rfl | rfl
            · exact ⟨tg + 1, by simp, by omega⟩
            · exact ⟨tg + 1 + a, by simp, by omega⟩
          have hab : (a : Int) * (b : Int) ≤ 2 := by
            have hb : b = 0 ∨ b = 1 := by omega
            rcases hb with rfl | rfl
            · simp
            · simp; omega
          have hab0 : 0 ≤ (a : Int) * (b : Int) := Int.mul_nonneg (by omega) (by omega)
          have HR4 := Lib.hid hR4
          have Hg4 := Lib.hid (dgrown_trans Hg3.out hg4)
          have HT := Lib.hid hT
          have hg4l := hR4.lt
          clear hR4 hg4 HR3 Hg3 hb1 hT
          by_cases hk0 : k = 0
          · have HL := Lib.hid (hL.out hk0)
            have hki : ¬ (0 : Int) < (k : Int) := by omega
            have hcv := fun W => Tryd.conv1 W w4.heap.size 1 (byteOf (112 + k))
            rw [byteOf_toNat (by omega)] at hcv
            have hu : IntKind.u8.wrap (112 + (k : Int)) = ((112 + k : Nat) : Int) := by rw [IntWalk.u8_in _ (by omega)]; omega
            have Hnm := Lib.hid (show ([byteOf (112 + k)] : List UInt8).all isPl = true by
              have hk4 : k = 0 ∨ k = 1 ∨ k = 2 ∨ k = 3 := by omega
              rcases hk4 with rfl | rfl | rfl | rfl <;> decide)
            clear hk0
            go_wp2_with fail
            rw [← HT.out]
            refine (l91Field_any g (q + 1 + 1) 82 T [byteOf (112 + k)] _ (HR4.out.dalloc _) (by omega) (by simp) (by omega) (by simp) Hnm.out).mono ?_
            rintro e w5 ⟨l2, q2, rfl, ⟨hl2, hl2n⟩, hq2, hR5, hg5⟩
            have HR5 := Lib.hid hR5
            have hg5l := hR5.lt
            have Hg5 := Lib.hid (dgrown_trans Hg4.out (dgrown_trans (World.grownBy_alloc w4 _ (some g)) hg5))
            have Hl2 := Lib.hid hl2
            clear hR5 hg5 hl2
            go_wp2_with fail
            go_roundw
            case rel => exact ⟨l ++ l2, T, k + 1, q2, by simp, by first | rfl | rw [HT.out], by go_num, by omega, by omega, by rw [List.length_append]; omega, by rw [List.length_append]; omega, HL.out.appF Hl2.out, (fun h => by omega), by omega, hg5l, HR5.out, Hg5.out⟩
            case measure => simp [intOf]; omega
          · have hki : (0 : Int) < (k : Int) := by omega
            have hcv := fun W => Tryd.conv1 W w4.heap.size 1 (byteOf (112 + k))
            rw [byteOf_toNat (by omega)] at hcv
            have hu : IntKind.u8.wrap (112 + (k : Int)) = ((112 + k : Nat) : Int) := by rw [IntWalk.u8_in _ (by omega)]; omega
            have Hnm := Lib.hid (show ([byteOf (112 + k)] : List UInt8).all isPl = true by
              have hk4 : k = 0 ∨ k = 1 ∨ k = 2 ∨ k = 3 := by omega
              rcases hk4 with rfl | rfl | rfl | rfl <;> decide)
            have HF2 := Lib.hid hF.out.comma
            clear hk0
            go_wp2_with fail
            rw [← HT.out]
            refine (l91Field_any g (q + 1 + 1) 82 T [byteOf (112 + k)] _ (HR4.out.dalloc _) (by omega) (by simp) (by omega) (by simp) Hnm.out).mono ?_
            rintro e w5 ⟨l2, q2, rfl, ⟨hl2, hl2n⟩, hq2, hR5, hg5⟩
            have HR5 := Lib.hid hR5
            have hg5l := hR5.lt
            have Hg5 := Lib.hid (dgrown_trans Hg4.out (dgrown_trans (World.grownBy_alloc w4 _ (some g)) hg5))
            have Hl2 := Lib.hid hl2
            clear hR5 hg5 hl2
            go_wp2_with fail
            go_roundw
            case rel => exact ⟨(l ++ [44]) ++ l2, T, k + 1, q2, by simp, by first | rfl | rw [HT.out], by go_num, by omega, by omega, by simp only [List.length_append, List.length_cons, List.length_nil]; omega, by simp only [List.length_append, List.length_cons, List.length_nil]; omega, HF2.out.appF Hl2.out, (fun h => by omega), by omega, hg5l, HR5.out, Hg5.out⟩
            case measure => simp [intOf]; omega
        · have k2 : ¬ (k : Int) < 1 + (x : Int) := by omega
          have HRf := Lib.hid hR.out
          have Hgf := Lib.hid hg.out
          have HFf := Lib.hid hF.out
          go_wp2_with fail
          go_ret
          exact ⟨l ++ [10], q, by simp, ⟨HFf.out.sep (by decide), by simp only [List.length_append, List.length_cons, List.length_nil]; omega, by simp⟩, by omega, HRf.out, Hgf.out⟩
  · go_wp2_with fail
    go_loopw [7, 8, 10] (fun s t k wr => ∃ (l : List UInt8) (tg k' q : Nat), s = .string ⟨l.toArray⟩ ∧ t = .int .i64 (tg : Int) ∧ k = .int .i64 (k' : Int) ∧ k' ≤ (1 + x) ∧ tg ≤ 3 * k' ∧ l.length ≤ 3 + 21 * k' ∧ 1 ≤ l.length ∧ Hid (FSafe l) ∧ Hid (k' = 0 → LSafe l) ∧ q ≤ (p + 1) + 11 * k' ∧ g < wr.heap.size ∧ Hid (Rdr wr g q) ∧ Hid (w.grownBy wr (some g))) (fun _ _ k _ => (1 + x) - (intOf k).toNat)
    case atStart => exact ⟨[85, nc, 61], 0, 0, (p + 1), by simp, rfl, rfl, Nat.zero_le _, Nat.le_refl _, by simp, by simp, Hh.out.toF, fun _ => Hh.out, by omega, HR1.out.lt, HR1.out, Hg1.out⟩
    case round =>
      obtain ⟨l, tg, k, q, rfl, rfl, rfl, hk, htg, hll, hl1, hF, hL, hq, hgw, hR, hg⟩ := hrel
      by_cases hlt : k < (1 + x)
      · have k2 : (k : Int) < 1 + (x : Int) := by omega
        have k3 : k ≤ 3 := by omega
        go_wp2_with fail
        refine (pick_any g q 3 _ hR.out (by omega) (by omega) (by omega)).mono ?_
        rintro e w3 ⟨a, rfl, ha1, _, hR3, hg3⟩
        have ha : a ≤ 2 := by omega
        have HR3 := Lib.hid hR3
        have Hg3 := Lib.hid (dgrown_trans hg.out hg3)
        clear hR3 hg3 ha1
        go_wp2_with fail
        refine (pick_any g (q + 1) 2 _ HR3.out (by omega) (by omega) (by omega)).mono ?_
        rintro e w4 ⟨b, rfl, hb1, _, hR4, hg4⟩
        obtain ⟨T, hT, hT2⟩ : ∃ T : Nat, (T : Int) = (tg : Int) + 1 + (a : Int) * (b : Int) ∧ T ≤ 3 * (k + 1) := by
          have hb : b = 0 ∨ b = 1 := by omega
          rcases hb with rfl | rfl
          · exact ⟨tg + 1, by simp, by omega⟩
          · exact ⟨tg + 1 + a, by simp, by omega⟩
        have hab : (a : Int) * (b : Int) ≤ 2 := by
          have hb : b = 0 ∨ b = 1 := by omega
          rcases hb with rfl | rfl
          · simp
          · simp; omega
        have hab0 : 0 ≤ (a : Int) * (b : Int) := Int.mul_nonneg (by omega) (by omega)
        have HR4 := Lib.hid hR4
        have Hg4 := Lib.hid (dgrown_trans Hg3.out hg4)
        have HT := Lib.hid hT
        have hg4l := hR4.lt
        clear hR4 hg4 HR3 Hg3 hb1 hT
        by_cases hk0 : k = 0
        · have HL := Lib.hid (hL.out hk0)
          have hki : ¬ (0 : Int) < (k : Int) := by omega
          have hcv := fun W => Tryd.conv1 W w4.heap.size 1 (byteOf (112 + k))
          rw [byteOf_toNat (by omega)] at hcv
          have hu : IntKind.u8.wrap (112 + (k : Int)) = ((112 + k : Nat) : Int) := by rw [IntWalk.u8_in _ (by omega)]; omega
          have Hnm := Lib.hid (show ([byteOf (112 + k)] : List UInt8).all isPl = true by
            have hk4 : k = 0 ∨ k = 1 ∨ k = 2 ∨ k = 3 := by omega
            rcases hk4 with rfl | rfl | rfl | rfl <;> decide)
          clear hk0
          go_wp2_with fail
          rw [← HT.out]
          refine (l91Field_any g (q + 1 + 1) 85 T [byteOf (112 + k)] _ (HR4.out.dalloc _) (by omega) (by simp) (by omega) (by simp) Hnm.out).mono ?_
          rintro e w5 ⟨l2, q2, rfl, ⟨hl2, hl2n⟩, hq2, hR5, hg5⟩
          have HR5 := Lib.hid hR5
          have hg5l := hR5.lt
          have Hg5 := Lib.hid (dgrown_trans Hg4.out (dgrown_trans (World.grownBy_alloc w4 _ (some g)) hg5))
          have Hl2 := Lib.hid hl2
          clear hR5 hg5 hl2
          go_wp2_with fail
          go_roundw
          case rel => exact ⟨l ++ l2, T, k + 1, q2, by simp, by first | rfl | rw [HT.out], by go_num, by omega, by omega, by rw [List.length_append]; omega, by rw [List.length_append]; omega, HL.out.appF Hl2.out, (fun h => by omega), by omega, hg5l, HR5.out, Hg5.out⟩
          case measure => simp [intOf]; omega
        · have hki : (0 : Int) < (k : Int) := by omega
          have hcv := fun W => Tryd.conv1 W w4.heap.size 1 (byteOf (112 + k))
          rw [byteOf_toNat (by omega)] at hcv
          have hu : IntKind.u8.wrap (112 + (k : Int)) = ((112 + k : Nat) : Int) := by rw [IntWalk.u8_in _ (by omega)]; omega
          have Hnm := Lib.hid (show ([byteOf (112 + k)] : List UInt8).all isPl = true by
            have hk4 : k = 0 ∨ k = 1 ∨ k = 2 ∨ k = 3 := by omega
            rcases hk4 with rfl | rfl | rfl | rfl <;> decide)
          have HF2 := Lib.hid hF.out.comma
          clear hk0
          go_wp2_with fail
          rw [← HT.out]
          refine (l91Field_any g (q + 1 + 1) 85 T [byteOf (112 + k)] _ (HR4.out.dalloc _) (by omega) (by simp) (by omega) (by simp) Hnm.out).mono ?_
          rintro e w5 ⟨l2, q2, rfl, ⟨hl2, hl2n⟩, hq2, hR5, hg5⟩
          have HR5 := Lib.hid hR5
          have hg5l := hR5.lt
          have Hg5 := Lib.hid (dgrown_trans Hg4.out (dgrown_trans (World.grownBy_alloc w4 _ (some g)) hg5))
          have Hl2 := Lib.hid hl2
          clear hR5 hg5 hl2
          go_wp2_with fail
          go_roundw
          case rel => exact ⟨(l ++ [44]) ++ l2, T, k + 1, q2, by simp, by first | rfl | rw [HT.out], by go_num, by omega, by omega, by simp only [List.length_append, List.length_cons, List.length_nil]; omega, by simp only [List.length_append, List.length_cons, List.length_nil]; omega, HF2.out.appF Hl2.out, (fun h => by omega), by omega, hg5l, HR5.out, Hg5.out⟩
          case measure => simp [intOf]; omega
      · have k2 : ¬ (k : Int) < 1 + (x : Int) := by omega
        have HRf := Lib.hid hR.out
        have Hgf := Lib.hid hg.out
        have HFf := Lib.hid hF.out
        go_wp2_with fail
        go_ret
        exact ⟨l ++ [10], q, by simp, ⟨HFf.out.sep (by decide), by simp only [List.length_append, List.length_cons, List.length_nil]; omega, by simp⟩, by omega, HRf.out, Hgf.out⟩
  · go_wp2_with fail
    go_loopw [7, 8, 10] (fun s t k wr => ∃ (l : List UInt8) (tg k' q : Nat), s = .string ⟨l.toArray⟩ ∧ t = .int .i64 (tg : Int) ∧ k = .int .i64 (k' : Int) ∧ k' ≤ (1 + x) ∧ tg ≤ 3 * k' ∧ l.length ≤ 3 + 21 * k' ∧ 1 ≤ l.length ∧ Hid (FSafe l) ∧ Hid (k' = 0 → LSafe l) ∧ q ≤ (p + 1) + 11 * k' ∧ g < wr.heap.size ∧ Hid (Rdr wr g q) ∧ Hid (w.grownBy wr (some g))) (fun _ _ k _ => (1 + x) - (intOf k).toNat)
    case atStart => exact ⟨[69, nc, 61], 0, 0, (p + 1), by simp, rfl, rfl, Nat.zero_le _, Nat.le_refl _, by simp, by simp, Hh.out.toF, fun _ => Hh.out, by omega, HR1.out.lt, HR1.out, Hg1.out⟩
    case round =>
      obtain ⟨l, tg, k, q, rfl, rfl, rfl, hk, htg, hll, hl1, hF, hL, hq, hgw, hR, hg⟩ := hrel
      by_cases hlt : k < (1 + x)
      · have k2 : (k : Int) < 1 + (x : Int) := by omega
        have k3 : k ≤ 3 := by omega
        go_wp2_with fail
        refine (pick_any g q 3 _ hR.out (by omega) (by omega) (by omega)).mono ?_
        rintro e w3 ⟨a, rfl, ha1, _, hR3, hg3⟩
        have ha : a ≤ 2 := by omega
        have HR3 := Lib.hid hR3
        have Hg3 := Lib.hid (dgrown_trans hg.out hg3)
        clear hR3 hg3 ha1
        go_wp2_with fail
        refine (pick_any g (q + 1) 2 _ HR3.out (by omega) (by omega) (by omega)).mono ?_
        rintro e w4 ⟨b, rfl, hb1, _, hR4, hg4⟩
        obtain ⟨T, hT, hT2⟩ : ∃ T : Nat, (T : Int) = (tg : Int) + 1 + (a : Int) * (b : Int) ∧ T ≤ 3 * (k + 1) := by
          have hb : b = 0 ∨ b = 1 := by omega
          rcases hb with rfl | rfl
          · exact ⟨tg + 1, by simp, by omega⟩
          · exact ⟨tg + 1 + a, by simp, by omega⟩
        have hab : (a : Int) * (b : Int) ≤ 2 := by
          have hb : b = 0 ∨ b = 1 := by omega
          rcases hb with rfl | rfl
          · simp
          · simp; omega
        have hab0 : 0 ≤ (a : Int) * (b : Int) := Int.mul_nonneg (by omega) (by omega)
        have HR4 := Lib.hid hR4
        have Hg4 := Lib.hid (dgrown_trans Hg3.out hg4)
        have HT := Lib.hid hT
        have hg4l := hR4.lt
        clear hR4 hg4 HR3 Hg3 hb1 hT
        by_cases hk0 : k = 0
        · have HL := Lib.hid (hL.out hk0)
          have hki : ¬ (0 : Int) < (k : Int) := by omega
          have hcv := fun W => Tryd.conv1 W w4.heap.size 1 (byteOf (112 + k))
          rw [byteOf_toNat (by omega)] at hcv
          have hu : IntKind.u8.wrap (112 + (k : Int)) = ((112 + k : Nat) : Int) := by rw [IntWalk.u8_in _ (by omega)]; omega
          have Hnm := Lib.hid (show ([byteOf (112 + k)] : List UInt8).all isPl = true by
            have hk4 : k = 0 ∨ k = 1 ∨ k = 2 ∨ k = 3 := by omega
            rcases hk4 with rfl | rfl | rfl | rfl <;> decide)
          clear hk0
          go_wp2_with fail
          rw [← HT.out]
          refine (l91Field_any g (q + 1 + 1) 69 T [byteOf (112 + k)] _ (HR4.out.dalloc _) (by omega) (by simp) (by omega) (by simp) Hnm.out).mono ?_
          rintro e w5 ⟨l2, q2, rfl, ⟨hl2, hl2n⟩, hq2, hR5, hg5⟩
          have HR5 := Lib.hid hR5
          have hg5l := hR5.lt
          have Hg5 := Lib.hid (dgrown_trans Hg4.out (dgrown_trans (World.grownBy_alloc w4 _ (some g)) hg5))
          have Hl2 := Lib.hid hl2
          clear hR5 hg5 hl2
          go_wp2_with fail
          go_roundw
          case rel => exact ⟨l ++ l2, T, k + 1, q2, by simp, by first | rfl | rw [HT.out], by go_num, by omega, by omega, by rw [List.length_append]; omega, by rw [List.length_append]; omega, HL.out.appF Hl2.out, (fun h => by omega), by omega, hg5l, HR5.out, Hg5.out⟩
          case measure => simp [intOf]; omega
        · have hki : (0 : Int) < (k : Int) := by omega
          have hcv := fun W => Tryd.conv1 W w4.heap.size 1 (byteOf (112 + k))
          rw [byteOf_toNat (by omega)] at hcv
          have hu : IntKind.u8.wrap (112 + (k : Int)) = ((112 + k : Nat) : Int) := by rw [IntWalk.u8_in _ (by omega)]; omega
          have Hnm := Lib.hid (show ([byteOf (112 + k)] : List UInt8).all isPl = true by
            have hk4 : k = 0 ∨ k = 1 ∨ k = 2 ∨ k = 3 := by omega
            rcases hk4 with rfl | rfl | rfl | rfl <;> decide)
          have HF2 := Lib.hid hF.out.comma
          clear hk0
          go_wp2_with fail
          rw [← HT.out]
          refine (l91Field_any g (q + 1 + 1) 69 T [byteOf (112 + k)] _ (HR4.out.dalloc _) (by omega) (by simp) (by omega) (by simp) Hnm.out).mono ?_
          rintro e w5 ⟨l2, q2, rfl, ⟨hl2, hl2n⟩, hq2, hR5, hg5⟩
          have HR5 := Lib.hid hR5
          have hg5l := hR5.lt
          have Hg5 := Lib.hid (dgrown_trans Hg4.out (dgrown_trans (World.grownBy_alloc w4 _ (some g)) hg5))
          have Hl2 := Lib.hid hl2
          clear hR5 hg5 hl2
          go_wp2_with fail
          go_roundw
          case rel => exact ⟨(l ++ [44]) ++ l2, T, k + 1, q2, by simp, by first | rfl | rw [HT.out], by go_num, by omega, by omega, by simp only [List.length_append, List.length_cons, List.length_nil]; omega, by simp only [List.length_append, List.length_cons, List.length_nil]; omega, HF2.out.appF Hl2.out, (fun h => by omega), by omega, hg5l, HR5.out, Hg5.out⟩
          case measure => simp [intOf]; omega
      · have k2 : ¬ (k : Int) < 1 + (x : Int) := by omega
        have HRf := Lib.hid hR.out
        have Hgf := Lib.hid hg.out
        have HFf := Lib.hid hF.out
        go_wp2_with fail
        go_ret
        exact ⟨l ++ [10], q, by simp, ⟨HFf.out.sep (by decide), by simp only [List.length_append, List.length_cons, List.length_nil]; omega, by simp⟩, by omega, HRf.out, Hgf.out⟩
end Go.Proofs.YtcjfgbcdlcdeaaaDoor
/- Numbers and texts of the reference: l3Num, l3Text, l3Stand, l3Plain. -/
namespace Go.Proofs.YtcjfgbcdlcdeaaaDoor
open Go.RowKit
set_option maxRecDepth 100000
set_option linter.unusedVariables false
attribute [local go_sem] ba_get ba_toList ba_extract take_drop_all ByteArray.mk_append_mk

theorem valB_take_lt' (s : List UInt8) (k : Nat) (hk : k ≤ 6) (h : (s.take k).all isDig = true) : valB (s.take k) ≤ 999999 := by
  have h1 := valB_lt (s.take k).length (s.take k) rfl h
  have h2 : 10 ^ (s.take k).length ≤ 10 ^ 6 := Nat.pow_le_pow_right (by omega) (by simp; omega)
  have e6 : 10 ^ 6 = 1000000 := rfl
  omega

/-- Whether a text is a number up to a greatest one. -/
def numOk (s : List UInt8) (top : Nat) : Bool := match decL s with | some m => decide (m ≤ top) | none => false
theorem numOk_no {s : List UInt8} {top : Nat} (h : decL s = none) : numOk s top = false := by unfold numOk; rw [h]
theorem numOk_yes {s : List UInt8} {top n : Nat} (h : decL s = some n) : numOk s top = decide (n ≤ top) := by unfold numOk; rw [h]
def L3NumPost (s : List UInt8) (top : Nat) (w : World) (e : Ending) (w' : World) : Prop :=
  ∃ n : Nat, n ≤ 999999 ∧ e = .returned (.tuple #[.int .i64 n, .bool (numOk s top)]) ∧ (∀ m, decL s = some m → m = n) ∧ Below w.heap.size w w'

set_option maxHeartbeats 1000000 in
theorem l3Num_any (s : List UInt8) (m : Nat) (w : World) (hs : s.length ≤ 4000000) (hm : m ≤ 999999) :
    Calls Tryd.prog 55 #[.string ⟨s.toArray⟩, .int .i64 m] w (L3NumPost s m w) := by
  go_enter Tryd.func55, Tryd.ntmps55
  go_wp2_with fail
  go_loop [6, 7] (fun x i => ∃ k : Nat, i = .int .i64 k ∧ k ≤ s.length ∧ k ≤ 6 ∧ Hid ((s.take k).all isDig = true) ∧ valB (s.take k) ≤ 999999 ∧ x = .int .i64 ((valB (s.take k) : Nat) : Int)) (fun _ i => s.length - (intOf i).toNat)
  case atStart => exact ⟨0, rfl, Nat.zero_le _, by omega, by simp [Hid], by simp [valB], by simp [valB]⟩
  case round =>
    obtain ⟨k, rfl, hk, hk6, hdig, hv, rfl⟩ := hrel
    by_cases hlt : k < s.length
    · have hc := (s[k]).toNat_lt
      have Hts := Lib.hid (take_snoc s k hlt)
      have Hmem := Lib.hid (List.getElem_mem hlt)
      by_cases hd : isDig s[k] = true
      · have hd2 := isDig_iff.1 hd
        obtain ⟨d1, d2⟩ := hd2
        by_cases h5 : k ≤ 5
        · have hdig2 : (s.take (k + 1)).all isDig = true := by
            rw [Hts.out, List.all_append, hdig.out]; simp [hd]
          have hv2 := valB_take_lt' s (k + 1) (by omega) hdig2
          have Hdig2 := Lib.hid hdig2
          have Hv := Lib.hid (show valB (s.take (k + 1)) = 10 * valB (s.take k) + ((s[k]).toNat - 48) by rw [Hts.out, valB_snoc])
          clear hd hdig2
          go_wp2_with fail
          go_round
          case rel => exact ⟨k + 1, by go_num, by omega, by omega, Hdig2.out, hv2, vint (by rw [Hv.out]; omega)⟩
          case measure => simp [intOf]; omega
        · have h5' : 5 < k := by omega
          have hno : decL s = none := by
            unfold decL
            rw [if_neg]
            rintro ⟨_, h, _⟩
            omega
          have Hn := Lib.hid (numOk_no (top := m) hno)
          have Hno := Lib.hid hno
          clear hd hno h5
          go_wp2_with fail
          go_ret2
          exact ⟨0, by omega, by rw [Hn.out]; rfl, (fun m h => by rw [Hno.out] at h; cases h), Below.refl _ _⟩
      · have hno : decL s = none := by
          unfold decL
          rw [if_neg]
          rintro ⟨_, _, h, _⟩
          exact hd (List.all_eq_true.1 h _ Hmem.out)
        have Hn := Lib.hid (numOk_no (top := m) hno)
        have Hno := Lib.hid hno
        have h2 : (s[k]).toNat < 48 ∨ (48 ≤ (s[k]).toNat ∧ 57 < (s[k]).toNat) := by
          rcases Nat.lt_or_ge (s[k]).toNat 48 with h | h
          · exact .inl h
          · rcases Nat.lt_or_ge 57 (s[k]).toNat with h' | h'
            · exact .inr ⟨h, h'⟩
            · exact absurd (isDig_iff.2 ⟨h, h'⟩) hd
        clear hd hno
        rcases h2 with h2 | ⟨h2, h4⟩
        · go_wp2_with fail
          go_ret2
          exact ⟨0, by omega, by rw [Hn.out]; rfl, (fun m h => by rw [Hno.out] at h; cases h), Below.refl _ _⟩
        · go_wp2_with fail
          go_ret2
          exact ⟨0, by omega, by rw [Hn.out]; rfl, (fun m h => by rw [Hno.out] at h; cases h), Below.refl _ _⟩
    · have e : s.take k = s := List.take_of_length_le (by omega)
      rw [e] at hv ⊢
      have hcase : (decL s = some (valB s) ∧ s = decB (valB s)) ∨ (decL s = none ∧ s ≠ decB (valB s)) := by
        by_cases h : s = decB (valB s)
        · exact .inl ⟨decL_some.2 ⟨hv, h⟩, h⟩
        · refine .inr ⟨?_, h⟩
          cases hd : decL s with
          | none => rfl
          | some n =>
            obtain ⟨_, h2⟩ := decL_some.1 hd
            exact absurd (by rw [h2, valB_decB]) h
      clear hdig e
      generalize valB s = v at hv hcase
      have hdl := decB_len 5 v (by have e6 : 10 ^ (5 + 1) = 1000000 := rfl; omega)
      rcases hcase with ⟨h1, h2⟩ | ⟨h1, h2⟩
      · have Hn := Lib.hid (numOk_yes (top := m) h1)
        have Hd := Lib.hid h1
        have tq : (s == decB v) = true := by simpa using h2
        clear h1 h2
        by_cases hvm : v ≤ m
        · go_wp2_with fail
          refine (l6Dec_any v v _ (Nat.le_refl _) (by omega)).mono ?_
          rintro e w1 ⟨rfl, hb⟩
          have Hb := Lib.hid hb
          clear hb
          go_wp2_with fail
          go_ret2
          exact ⟨v, hv, by rw [Hn.out]; exact ret2 rfl (vbool (by simp [hvm])), (fun m h => by rw [Hd.out] at h; injection h with h; exact h.symm), Hb.out⟩
        · have hvm' : m < v := by omega
          go_wp2_with fail
          refine (l6Dec_any v v _ (Nat.le_refl _) (by omega)).mono ?_
          rintro e w1 ⟨rfl, hb⟩
          have Hb := Lib.hid hb
          clear hb
          go_wp2_with fail
          go_ret2
          exact ⟨v, hv, by rw [Hn.out]; exact ret2 rfl (vbool (by simp; omega)), (fun m h => by rw [Hd.out] at h; injection h with h; exact h.symm), Hb.out⟩
      · have Hn := Lib.hid (numOk_no (top := m) h1)
        have Hd := Lib.hid h1
        have tq : (s == decB v) = false := by simpa using h2
        clear h1 h2
        go_wp2_with fail
        refine (l6Dec_any v v _ (Nat.le_refl _) (by omega)).mono ?_
        rintro e w1 ⟨rfl, hb⟩
        have Hb := Lib.hid hb
        clear hb
        go_wp2_with fail
        go_ret2
        exact ⟨v, hv, by rw [Hn.out]; rfl, (fun m h => by rw [Hd.out] at h; cases h), Hb.out⟩

/-- A text between two strokes. -/
def quoteOk (s : List UInt8) : Bool := decide (2 ≤ s.length) && decide (s.head? = some 39) && decide (s.getLast? = some 39) && textOk (s.drop 1).dropLast

set_option maxHeartbeats 1000000 in
theorem l3Text_any (s : List UInt8) (w : World) (hs : s.length ≤ 4000000) :
    Calls Tryd.prog 70 #[.string ⟨s.toArray⟩] w fun e w' => e = .returned (.bool (quoteOk s)) ∧ w = w' := by
  have hf : quoteOk s = (decide (2 ≤ s.length) && decide (s.head? = some 39) && decide (s.getLast? = some 39) && textOk (s.drop 1).dropLast) := rfl
  rcases Nat.lt_or_ge s.length 2 with h2 | h2
  · have e0 : decide (2 ≤ s.length) = false := by simp; omega
    have Hf := Lib.hid (show quoteOk s = false by rw [hf, e0]; simp)
    have t0 : decide ((s.length : Int) < 2) = true := by simp; omega
    clear hf e0
    go_enter Tryd.func70, Tryd.ntmps70
    go_wp2_with fail
    go_ret
    exact ⟨ret1 (vbool Hf.out.symm), rfl⟩
  · have t0 : decide ((s.length : Int) < 2) = false := by simp; omega
    rcases Nat.lt_or_ge 14 s.length with h14 | h14
    · have Hf := Lib.hid (show quoteOk s = false by
        have : textOk (s.drop 1).dropLast = false := by
          unfold textOk
          have e1 : decide ((s.drop 1).dropLast.length ≤ 12) = false := by simp; omega
          rw [e1]; rfl
        rw [hf, this]; simp)
      have t1 : decide (14 < (s.length : Int)) = true := by simp; omega
      clear hf
      go_enter Tryd.func70, Tryd.ntmps70
      go_wp2_with fail
      go_ret
      exact ⟨ret1 (vbool Hf.out.symm), rfl⟩
    · obtain ⟨c, u, d, rfl⟩ : ∃ c u d, s = c :: (u ++ [d]) := by
        cases s with
        | nil => simp at h2
        | cons c t =>
          rcases snoc_cases t with rfl | ⟨u, d, rfl⟩
          · simp at h2
          · exact ⟨c, u, d, rfl⟩
      have hl : (c :: (u ++ [d])).getLast? = some d := by
        rw [show c :: (u ++ [d]) = (c :: u) ++ [d] from rfl, List.getLast?_append]; rfl
      have hu : ((c :: (u ++ [d])).drop 1).dropLast = u := by simp
      have e2 : decide (2 ≤ (c :: (u ++ [d])).length) = true := by simp
      rw [hl, hu, e2] at hf
      simp only [List.head?_cons, Option.some.injEq, Bool.true_and] at hf
      have Hf := Lib.hid hf
      have hc := c.toNat_lt
      have hd := d.toNat_lt
      have hgd : ∀ h, (c :: (u ++ [d]))[u.length + 1]'h = d := by intro h; simp
      have hul : u.length ≤ 12 := by simp at h14; omega
      have Hfit := Lib.hid (show textOk u = u.all isTxt by simp [textOk, hul])
      clear hf hl hu h2 hs h14 t0 e2
      by_cases hc39 : c = 39
      · have t1 : ((c.toNat : Int) != 39) = false := by have := byte_eq hc39; simpa using this
        have Hc := Lib.hid (show decide (c = 39) = true by simpa using hc39)
        clear hc39
        by_cases hd39 : d = 39
        · have t2 : ((d.toNat : Int) != 39) = false := by have := byte_eq hd39; simpa using this
          have Hd := Lib.hid (show decide (d = 39) = true by simpa using hd39)
          clear hd39
          go_enter Tryd.func70, Tryd.ntmps70
          go_wp2_with fail
          go_loop [3] (fun i => ∃ k : Nat, i = .int .i64 ((k : Int) + 1) ∧ k ≤ u.length ∧ Hid ((u.take k).all isTxt = true)) (fun i => u.length + 1 - (intOf i).toNat)
          case atStart => exact ⟨0, rfl, Nat.zero_le _, by simp [Hid]⟩
          case round =>
            obtain ⟨k, rfl, hk, hin⟩ := hrel
            by_cases hlt : k < u.length
            · have hg : ∀ h, (c :: (u ++ [d]))[k + 1]'h = u[k] := by intro h; simp [List.getElem_append_left hlt]
              have Hts := Lib.hid (take_snoc u k hlt)
              have Hmem := Lib.hid (List.getElem_mem hlt)
              have hx := (u[k]).toNat_lt
              generalize u[k] = x at hg Hts Hmem hx
              by_cases ht : isTxt x = true
              · have Hin := Lib.hid (show (u.take (k + 1)).all isTxt = true by rw [Hts.out, List.all_append, hin.out]; simp [ht])
                have h3 : x = 32 ∨ (x.toNat ≠ 32 ∧ 48 ≤ x.toNat ∧ x.toNat ≤ 57) ∨ (57 < x.toNat ∧ 97 ≤ x.toNat ∧ x.toNat ≤ 122) := by
                  unfold isTxt at ht
                  simp only [Bool.or_eq_true] at ht
                  rcases ht with (h | h) | h
                  · have := isLow_iff.1 h; exact .inr (.inr ⟨by omega, this⟩)
                  · have := isDig_iff.1 h; exact .inr (.inl ⟨by omega, this⟩)
                  · exact .inl (by simpa using h)
                clear ht
                rcases h3 with h3 | ⟨h3, h4, h5⟩ | ⟨h3, h4, h5⟩
                · have t3 : ((x.toNat : Int) != 32) = false := by have := byte_eq h3; simpa using this
                  clear h3
                  go_wp2_with fail
                  go_round
                  case rel => exact ⟨k + 1, by go_num, by omega, Hin.out⟩
                  case measure => simp [intOf]; omega
                · have t3 : ((x.toNat : Int) != 32) = true := by rw [bne_iff_ne]; omega
                  go_wp2_with fail
                  go_round
                  case rel => exact ⟨k + 1, by go_num, by omega, Hin.out⟩
                  case measure => simp [intOf]; omega
                · have t3 : ((x.toNat : Int) != 32) = true := by rw [bne_iff_ne]; omega
                  go_wp2_with fail
                  go_round
                  case rel => exact ⟨k + 1, by go_num, by omega, Hin.out⟩
                  case measure => simp [intOf]; omega
              · have Hno := Lib.hid (show u.all isTxt = false by
                  cases h : u.all isTxt with
                  | false => rfl
                  | true => exact absurd (List.all_eq_true.1 h _ Hmem.out) ht)
                have h32 : x ≠ 32 := by rintro rfl; exact ht rfl
                have t3 : ((x.toNat : Int) != 32) = true := by have := byte_ne h32; simpa using this
                have h3 : x.toNat < 48 ∨ (57 < x.toNat ∧ x.toNat < 97) ∨ 122 < x.toNat := by
                  have a : ¬ isLow x = true := fun h => ht (by simp [isTxt, h])
                  have b : ¬ isDig x = true := fun h => ht (by simp [isTxt, h])
                  rw [isLow_iff] at a
                  rw [isDig_iff] at b
                  omega
                clear ht h32
                rcases h3 with h3 | ⟨h3, h4⟩ | h3
                all_goals
                  go_wp2_with fail
                  go_ret
                  exact ⟨ret1 (vbool (by rw [Hf.out, Hc.out, Hd.out, Hfit.out, Hno.out]; rfl)), rfl⟩
            · have Hall := Lib.hid (show u.all isTxt = true by
                have := hin.out
                rwa [List.take_of_length_le (by omega)] at this)
              have hk2 : k = u.length := by omega
              subst hk2
              go_wp2_with fail
              go_ret
              exact ⟨ret1 (vbool (by rw [Hf.out, Hc.out, Hd.out, Hfit.out, Hall.out]; rfl)), rfl⟩
        · have t2 : ((d.toNat : Int) != 39) = true := by have := byte_ne hd39; simpa using this
          have Hd := Lib.hid (show decide (d = 39) = false by simpa using hd39)
          clear hd39
          go_enter Tryd.func70, Tryd.ntmps70
          go_wp2_with fail
          go_ret
          exact ⟨ret1 (vbool (by rw [Hf.out, Hd.out]; simp)), rfl⟩
      · have t1 : ((c.toNat : Int) != 39) = true := by have := byte_ne hc39; simpa using this
        have Hc := Lib.hid (show decide (c = 39) = false by simpa using hc39)
        clear hc39
        go_enter Tryd.func70, Tryd.ntmps70
        go_wp2_with fail
        go_ret
        exact ⟨ret1 (vbool (by rw [Hf.out, Hc.out]; simp)), rfl⟩
end Go.Proofs.YtcjfgbcdlcdeaaaDoor
/- l3Cut, l3Stand and l3Plain of the reference. -/
namespace Go.Proofs.YtcjfgbcdlcdeaaaDoor
open Go.RowKit
set_option maxRecDepth 100000
set_option linter.unusedVariables false
attribute [local go_sem] ba_get ba_toList ba_extract take_drop_all ByteArray.mk_append_mk

theorem take_drop_snoc (s : List UInt8) (f k : Nat) (hf : f ≤ k) (hk : k < s.length) : (s.drop f).take (k + 1 - f) = (s.drop f).take (k - f) ++ [s[k]] := by
  have h1 : k - f < (s.drop f).length := by simp; omega
  rw [show k + 1 - f = (k - f) + 1 by omega, take_snoc _ _ h1]
  simp [show f + (k - f) = k by omega]
theorem drop_cut (s : List UInt8) (f k : Nat) (hf : f ≤ k) (hk : k < s.length) : s.drop f = (s.drop f).take (k - f) ++ s[k] :: s.drop (k + 1) := by
  have e1 : (s.drop f).drop (k - f) = s[k] :: s.drop (k + 1) := by
    rw [List.drop_drop, show f + (k - f) = k by omega]; exact List.drop_eq_getElem_cons hk
  rw [← e1, List.take_append_drop]

set_option maxHeartbeats 1000000 in
theorem l3Cut_any (s : List UInt8) (c : UInt8) (m : Int) (hm : m = (c.toNat : Int)) (w : World) (hs : s.length ≤ 4000000) :
    Calls Tryd.prog 24 #[.string ⟨s.toArray⟩, .int .u8 m] w fun e w' =>
      ∃ v, e = .returned v ∧ w'.ownsRow w.heap.size 9 1 v (splitL c s).length (scells (splitL c s)) ∧ Below w.heap.size w w' := by
  have Hm := Lib.hid hm
  have Hlen := Lib.hid (splitL_len c s)
  clear hm
  go_enter Tryd.func24, Tryd.ntmps24
  go_wp2_with fail
  go_loopw [5, 6, 7] (fun v y i wr => ∃ (ps : List (List UInt8)) (f k : Nat), i = .int .i64 k ∧ k ≤ s.length ∧ y = .int .i64 f ∧ f ≤ k ∧ ps.length ≤ k ∧ Hid (splitL c s = ps ++ splitL c (s.drop f)) ∧ Hid (c ∉ (s.drop f).take (k - f)) ∧
      Hid (wr.ownsRow w.heap.size 9 1 v ps.length (scells ps)) ∧ Hid (Below w.heap.size w wr)) (fun _ _ i _ => s.length - (intOf i).toNat)
  case atStart => exact ⟨[], 0, 0, rfl, Nat.zero_le _, rfl, Nat.le_refl _, by simp, rfl, by simp [Hid], World.ownsRow_lit (base := w.heap.size) (e := 9) (size := 1) w #[] 0 (Nat.le_refl _) (Nat.zero_le _) rfl, (Below.refl _ _).alloc (Nat.le_refl _) _⟩
  case round =>
    obtain ⟨ps, f, k, rfl, hk, rfl, hf, hps, hsp, hno, hown, hb⟩ := hrel
    by_cases hlt : k < s.length
    · have hc := (s[k]).toNat_lt
      by_cases he : s[k] = c
      · have t1 : (((s[k]).toNat : Int) == m) = true := by rw [Hm.out]; exact byte_eq he
        have Hsp := Lib.hid (show splitL c s = (ps ++ [(s.drop f).take (k - f)]) ++ splitL c (s.drop (k + 1)) by
          rw [hsp.out, drop_cut s f k hf hlt, he, splitL_app c _ _ hno.out]
          simp only [List.append_assoc, List.singleton_append]
          have e2 := drop_cut s f k hf hlt
          rw [he] at e2
          rw [← e2])
        have Hz := Lib.hid hb.out.size
        clear he
        have k1 : (0 : Int) ≤ (f : Int) := by omega
        have k2 : (f : Int) ≤ (k : Int) := by omega
        have k3 : (k : Int) ≤ (s.length : Int) := by omega
        go_wp2_with (at_builtin; refine wpList_app1 _ rfl _ _ 67 rfl w.heap.size 9 (.string ⟨#[]⟩) 16 Tryd.underlying67 Tryd.infoStr rfl wr _ rfl rfl _ _ _ rfl rfl hown.out (by unfold maxLen; omega) (by omega) Hz.out ?_; intro v' w' hown' hb'; have Ho := Lib.hid (show w'.ownsRow w.heap.size 9 1 v' (ps ++ [(s.drop f).take (k - f)]).length (scells (ps ++ [(s.drop f).take (k - f)])) by rw [scells_snoc, List.length_append]; exact hown'); have Hb := Lib.hid (hb.out.trans hb'); clear hown' hb')
        go_roundw
        case rel => exact ⟨ps ++ [(s.drop f).take (k - f)], k + 1, k + 1, by go_num, by omega, by go_num, Nat.le_refl _, by rw [List.length_append]; simp; omega, Hsp.out, by simp [Hid], Ho.out, Hb.out⟩
        case measure => simp [intOf]; omega
      · have t1 : (((s[k]).toNat : Int) == m) = false := by rw [Hm.out]; exact byte_ne he
        have Hno := Lib.hid (show c ∉ (s.drop f).take (k + 1 - f) by
          rw [take_drop_snoc s f k hf hlt]
          simp only [List.mem_append, List.mem_singleton, not_or]
          exact ⟨hno.out, fun h => he h.symm⟩)
        clear he
        go_wp2_with fail
        go_roundw
        case rel => exact ⟨ps, f, k + 1, by go_num, by omega, rfl, by omega, by omega, hsp.out, Hno.out, hown.out, hb.out⟩
        case measure => simp [intOf]; omega
    · obtain rfl : k = s.length := by omega
      have Hsp := Lib.hid (show splitL c s = ps ++ [s.drop f] by
        have h := hno.out
        rw [List.take_of_length_le (by simp)] at h
        rw [hsp.out, splitL_plain c _ h])
      have Hz := Lib.hid hb.out.size
      have k1 : (0 : Int) ≤ (f : Int) := by omega
      have k2 : (f : Int) ≤ (s.length : Int) := by omega
      go_wp2_with (at_builtin; refine wpList_app1 _ rfl _ _ 67 rfl w.heap.size 9 (.string ⟨#[]⟩) 16 Tryd.underlying67 Tryd.infoStr rfl wr _ rfl rfl _ _ _ rfl rfl hown.out (by unfold maxLen; omega) (by omega) Hz.out ?_; intro v' w' hown' hb'; have Ho := Lib.hid (show w'.ownsRow w.heap.size 9 1 v' (ps ++ [s.drop f]).length (scells (ps ++ [s.drop f])) by rw [scells_snoc, List.length_append]; exact hown'); have Hb := Lib.hid (hb.out.trans hb'); clear hown' hb')
      go_ret
      refine ⟨_, rfl, ?_, Hb.out⟩
      rw [Hsp.out]; exact Ho.out

/-- l3Stand: may a text be told as a standing value of a kind. -/
theorem standOk_other {b s : List UInt8} (h1 : b ≠ [110]) (h2 : b ≠ [116]) (h3 : b ≠ [102]) : standOk b s = false := by
  unfold standOk; rw [if_neg h1, if_neg h2, if_neg h3]

theorem standQ (s : List UInt8) : standOk [116] s = (quoteOk s && !(s == [39, 39])) := by
  show (decide (2 < s.length) && decide (s.head? = some 39) && decide (s.getLast? = some 39) && textOk (s.drop 1).dropLast) = ((decide (2 ≤ s.length) && decide (s.head? = some 39) && decide (s.getLast? = some 39) && textOk (s.drop 1).dropLast) && !(s == [39, 39]))
  rcases Nat.lt_or_ge 2 s.length with h | h
  · have e1 : decide (2 < s.length) = true := by simpa using h
    have e2 : decide (2 ≤ s.length) = true := by simp; omega
    have e3 : (s == [39, 39]) = false := by
      rw [beq_eq_false_iff_ne]; rintro rfl; simp at h
    rw [e1, e2, e3]; simp
  · have e1 : decide (2 < s.length) = false := by simp; omega
    rw [e1]
    match s, h with
    | [], _ => rfl
    | [_], _ => rfl
    | [a, b], _ =>
      by_cases ha : a = 39
      · by_cases hb : b = 39
        · subst ha; subst hb; rfl
        · simp [hb]
      · simp [ha]

set_option maxHeartbeats 600000 in
theorem l3Stand_any (b s : List UInt8) (w : World) (hs : s.length ≤ 4000000) :
    Calls Tryd.prog 56 #[.string ⟨b.toArray⟩, .string ⟨s.toArray⟩] w fun e w' => e = .returned (.bool (standOk b s)) ∧ Below w.heap.size w w' := by
  by_cases h1 : b = [110]
  · subst h1
    have Hp := Lib.hid (fun W => l3Num_any s 999999 W hs (by omega))
    have hf : standOk [110] s = (match decL s with | some n => decide (0 < n) | none => false) := rfl
    have hv : (numOk s 999999 && (s != [48])) = standOk [110] s := by
      rw [hf]
      cases hd : decL s with
      | none => rw [numOk_no hd]; rfl
      | some n =>
        obtain ⟨h9, e⟩ := decL_some.1 hd
        rw [numOk_yes hd]
        have e1 : decide (n ≤ 999999) = true := by simpa using h9
        rw [e1, Bool.true_and]
        by_cases h0 : n = 0
        · subst h0
          rw [e, decB_small (by omega)]; decide
        · have hne : s ≠ [48] := by
            intro h
            rw [e] at h
            have : decB n = decB 0 := by rw [h, decB_small (n := 0) (by omega)]; decide
            exact h0 (decB_inj this)
          have e2 : (s != [48]) = true := by simpa using hne
          rw [e2]; simp; omega
    have Hv := Lib.hid hv
    clear hf hv
    go_enter Tryd.func56, Tryd.ntmps56
    go_wp2_with fail
    refine (Hp.out _).mono ?_
    rintro e w' ⟨n, hn, rfl, _, hb⟩
    have Hb := Lib.hid hb
    clear hb
    rcases Bool.eq_false_or_eq_true (numOk s 999999) with ho | ho
    · have Ho := Lib.hid ho
      rw [ho]
      clear ho
      go_wp2_with fail
      go_ret
      exact ⟨ret1 (vbool (by rw [← Hv.out, Ho.out]; rfl)), Hb.out⟩
    · have Ho := Lib.hid ho
      rw [ho]
      clear ho
      go_wp2_with fail
      go_ret
      exact ⟨ret1 (vbool (by rw [← Hv.out, Ho.out]; rfl)), Hb.out⟩
  · by_cases h2 : b = [116]
    · subst h2
      have Hp := Lib.hid (fun W => l3Text_any s W hs)
      have Hv := Lib.hid (standQ s)
      clear h1
      go_enter Tryd.func56, Tryd.ntmps56
      go_wp2_with fail
      refine (Hp.out _).mono ?_
      rintro e w' ⟨rfl, rfl⟩
      rcases Bool.eq_false_or_eq_true (quoteOk s) with ho | ho
      · have Ho := Lib.hid ho
        rw [ho]
        clear ho
        rcases Bool.eq_false_or_eq_true (s == [39, 39]) with hq | hq
        · have Hq := Lib.hid hq
          have hq2 : (s != [39, 39]) = false := by simp [bne, hq]
          go_wp2_with fail
          go_ret
          exact ⟨ret1 (vbool (by rw [Hv.out, Ho.out, Hq.out]; rfl)), Below.refl _ _⟩
        · have Hq := Lib.hid hq
          have hq2 : (s != [39, 39]) = true := by simp [bne, hq]
          go_wp2_with fail
          go_ret
          exact ⟨ret1 (vbool (by rw [Hv.out, Ho.out, Hq.out]; rfl)), Below.refl _ _⟩
      · have Ho := Lib.hid ho
        rw [ho]
        clear ho
        go_wp2_with fail
        go_ret
        exact ⟨ret1 (vbool (by rw [Hv.out, Ho.out]; rfl)), Below.refl _ _⟩
    · by_cases h3 : b = [102]
      · subst h3
        have Hv := Lib.hid (show standOk [102] s = (s == [121, 101, 115]) by show decide (s = [121, 101, 115]) = _; by_cases h : s = [121, 101, 115] <;> simp [h])
        clear h1 h2
        go_enter Tryd.func56, Tryd.ntmps56
        go_wp2_with fail
        go_ret
        exact ⟨ret1 (vbool Hv.out.symm), Below.refl _ _⟩
      · have Hv := Lib.hid (standOk_other (s := s) h1 h2 h3)
        have q1 : (b == [110]) = false := by simpa using h1
        have q2 : (b == [116]) = false := by simpa using h2
        have q3 : (b == [102]) = false := by simpa using h3
        clear h1 h2 h3
        go_enter Tryd.func56, Tryd.ntmps56
        go_wp2_with fail
        go_ret
        exact ⟨ret1 (vbool Hv.out.symm), Below.refl _ _⟩

def plainB (b : List UInt8) : List UInt8 := if b = [110] then [48] else if b = [116] then [39, 39] else [110, 111]
theorem l3Plain_any (b : List UInt8) (w : World) (hb : b = [110] ∨ b = [116] ∨ b = [102]) :
    Calls Tryd.prog 84 #[.string ⟨b.toArray⟩] w fun e w' => e = .returned (.string ⟨(plainB b).toArray⟩) ∧ w = w' := by
  rcases hb with rfl | rfl | rfl
  all_goals
    go_enter Tryd.func84, Tryd.ntmps84
    go_wp2_with fail
    go_ret
    exact ⟨rfl, rfl⟩
end Go.Proofs.YtcjfgbcdlcdeaaaDoor
/- Plain laws of types and schemas: what is read is what is told. No program in sight. -/
namespace Go.Proofs.YtcjfgbcdlcdeaaaDoor

structure Ty where
  sort : UInt8
  name : List UInt8
  fields : List Fd
deriving DecidableEq

/-- A field may stand behind others. -/
def fitsIn (fs : List Fd) (f : Fd) : Bool := fs.all fun g => decide (g.name ≠ f.name) && decide (g.tag < f.tag)
/-- The fields of parts, behind those that have been read: as the program reads them. -/
def fieldsI (st : UInt8) : List (List UInt8) → List Fd → Option (List Fd)
  | [], acc => some acc
  | p :: ps, acc => match fieldI st p with
    | none => none
    | some f => if acc.length = 8 ∨ fitsIn acc f = false then none else fieldsI st ps (acc ++ [f])
/-- .. as the reference reads them. -/
def fieldsS (st : UInt8) : List (List UInt8) → List Fd → Option (List Fd)
  | [], acc => some acc
  | p :: ps, acc => match fieldS st p with
    | none => none
    | some f => if fitsIn acc f = false then none else fieldsS st ps (acc ++ [f])
def Fds (st : UInt8) (fs : List Fd) : Prop := (∀ f ∈ fs, fdOk st f) ∧ fs.Pairwise fun g f => g.name ≠ f.name ∧ g.tag < f.tag

theorem fitsIn_iff {fs : List Fd} {f : Fd} : fitsIn fs f = true ↔ ∀ g ∈ fs, g.name ≠ f.name ∧ g.tag < f.tag := by simp [fitsIn]
theorem Fds_snoc {st : UInt8} {fs : List Fd} {f : Fd} : Fds st (fs ++ [f]) ↔ Fds st fs ∧ fdOk st f ∧ fitsIn fs f = true := by
  unfold Fds
  rw [fitsIn_iff, List.pairwise_append]
  constructor
  · rintro ⟨h1, h2, _, h3⟩
    exact ⟨⟨fun g hg => h1 g (by simp [hg]), h2⟩, h1 f (by simp), fun g hg => h3 g hg f (by simp)⟩
  · rintro ⟨⟨h1, h2⟩, h3, h4⟩
    refine ⟨fun g hg => ?_, h2, by simp, fun g hg f' hf' => ?_⟩
    · rcases List.mem_append.1 hg with hg | hg
      · exact h1 g hg
      · simp at hg; subst hg; exact h3
    · simp at hf'; subst hf'; exact h4 g hg

theorem fieldsS_some (st : UInt8) : ∀ (ps : List (List UInt8)) (acc r : List Fd), Fds st acc → (fieldsS st ps acc = some r ↔ Fds st r ∧ ∃ gs, r = acc ++ gs ∧ gs.map (fdB st) = ps)
  | [], acc, r, ha => by
    simp only [fieldsS, Option.some.injEq]
    constructor
    · rintro rfl; exact ⟨ha, [], by simp, rfl⟩
    · rintro ⟨_, gs, e, h⟩
      have : gs = [] := by simpa using h
      subst this; simpa using e.symm
  | p :: ps, acc, r, ha => by
    simp only [fieldsS]
    cases hf : fieldS st p with
    | none =>
      simp only [reduceCtorEq, false_iff]
      rintro ⟨hr, gs, rfl, h⟩
      cases gs with
      | nil => simp at h
      | cons g gs =>
        simp at h
        have := fieldS_some.2 ⟨hr.1 g (by simp), h.1⟩
        rw [this] at hf; cases hf
    | some f =>
      obtain ⟨ok, eb⟩ := fieldS_some.1 hf
      simp only
      by_cases hfit : fitsIn acc f = false
      · rw [if_pos hfit]
        simp only [reduceCtorEq, false_iff]
        rintro ⟨hr, gs, rfl, h⟩
        cases gs with
        | nil => simp at h
        | cons g gs =>
          simp at h
          have hg : g = f := fdB_inj (hr.1 g (by simp)) ok (h.1.trans eb.symm)
          subst hg
          have h2 : Fds st (acc ++ [g] ++ gs) := by simpa using hr
          have h3 : Fds st (acc ++ [g]) := ⟨fun x hx => h2.1 x (by simp at hx ⊢; rcases hx with hx | hx <;> simp [hx]), (List.pairwise_append.1 h2.2).1⟩
          rw [(Fds_snoc.1 h3).2.2] at hfit; cases hfit
      · rw [if_neg hfit]
        have hfit' : fitsIn acc f = true := by simpa using hfit
        rw [fieldsS_some st ps (acc ++ [f]) r (Fds_snoc.2 ⟨ha, ok, hfit'⟩)]
        constructor
        · rintro ⟨hr, gs, rfl, h⟩
          exact ⟨hr, f :: gs, by simp, by simp [eb, h]⟩
        · rintro ⟨hr, gs, rfl, h⟩
          cases gs with
          | nil => simp at h
          | cons g gs =>
            simp at h
            have hg : g = f := fdB_inj (hr.1 g (by simp)) ok (h.1.trans eb.symm)
            subst hg
            exact ⟨hr, gs, by simp, h.2⟩

theorem fieldsI_eq (st : UInt8) : ∀ (ps : List (List UInt8)) (acc : List Fd), acc.length ≤ 8 → fieldsI st ps acc = (match fieldsS st ps acc with | some r => if r.length ≤ 8 then some r else none | none => none)
  | [], acc, h => by simp [fieldsI, fieldsS, h]
  | p :: ps, acc, h => by
    simp only [fieldsI, fieldsS, fieldI_eq]
    cases hf : fieldS st p with
    | none => rfl
    | some f =>
      simp only
      by_cases hfit : fitsIn acc f = false
      · rw [if_pos (.inr hfit), if_pos hfit]
      · rw [if_neg hfit]
        by_cases h8 : acc.length = 8
        · rw [if_pos (.inl h8)]
          have key : ∀ (ps : List (List UInt8)) (a r : List Fd), fieldsS st ps a = some r → a.length ≤ r.length := by
            intro ps
            induction ps with
            | nil => intro a r h; simp [fieldsS] at h; rw [h]; exact Nat.le_refl _
            | cons q qs ih =>
              intro a r h
              simp only [fieldsS] at h
              split at h
              · cases h
              · split at h
                · cases h
                · have := ih _ _ h
                  simp at this; omega
          cases hr : fieldsS st ps (acc ++ [f]) with
          | none => rfl
          | some r =>
            have := key _ _ _ hr
            simp at this
            simp only
            rw [if_neg (by omega)]
        · rw [if_neg (by simp [h8, hfit])]
          exact fieldsI_eq st ps (acc ++ [f]) (by simp; omega)

/-- The letter of a type. -/
def sortOk (c : UInt8) : Prop := c = 82 ∨ c = 85 ∨ c = 69
instance (c : UInt8) : Decidable (sortOk c) := by unfold sortOk; infer_instance
def tyOk (t : Ty) : Prop := sortOk t.sort ∧ nameOk t.name = true ∧ Fds t.sort t.fields ∧ t.fields.length ≤ 8 ∧ (t.fields = [] → t.sort = 82)
def tyB (t : Ty) : List UInt8 := t.sort :: (t.name ++ 61 :: joinL 44 (t.fields.map (fdB t.sort)))

/-- What a line tells as a type: as the program reads it. -/
def typeI (s : List UInt8) : Option Ty :=
  match s with
  | [] => none
  | c :: r =>
    if ¬ sortOk c ∨ (cutL 61 r).2.2 = false ∨ nameOk (cutL 61 r).1 = false then none
    else if (cutL 61 r).2.1 = [] then (if c = 82 then some ⟨c, (cutL 61 r).1, []⟩ else none)
    else match fieldsI c (splitL 44 (cutL 61 r).2.1) [] with
      | some fs => some ⟨c, (cutL 61 r).1, fs⟩
      | none => none

theorem joinL_ne {c : UInt8} {ps : List (List UInt8)} (h : ps ≠ []) (h1 : ∀ p ∈ ps, p ≠ []) : joinL c ps ≠ [] := by
  cases ps with
  | nil => exact absurd rfl h
  | cons p ps =>
    have := h1 p (by simp)
    cases ps with
    | nil => exact this
    | cons q ps => rw [joinL_cons c p (by simp)]; simp

theorem Fds_nil (st : UInt8) : Fds st [] := ⟨by simp, List.Pairwise.nil⟩

theorem fieldsI_some {st : UInt8} {ps : List (List UInt8)} {r : List Fd} : fieldsI st ps [] = some r ↔ Fds st r ∧ r.length ≤ 8 ∧ r.map (fdB st) = ps := by
  rw [fieldsI_eq st ps [] (by simp)]
  constructor
  · intro h
    cases hs : fieldsS st ps [] with
    | none => rw [hs] at h; cases h
    | some x =>
      rw [hs] at h
      simp only at h
      split at h
      · rename_i h8
        injection h with h
        subst h
        obtain ⟨h1, gs, e, h2⟩ := (fieldsS_some st ps [] x (Fds_nil st)).1 hs
        simp at e; subst e
        exact ⟨h1, h8, h2⟩
      · cases h
  · rintro ⟨h1, h2, h3⟩
    rw [(fieldsS_some st ps [] r (Fds_nil st)).2 ⟨h1, r, by simp, h3⟩]
    simp [h2]

theorem sortOk_ne {c : UInt8} (h : sortOk c) : c ≠ 61 ∧ c ≠ 10 := by
  rcases h with rfl | rfl | rfl <;> exact ⟨by decide, by decide⟩

theorem typeI_some {s : List UInt8} {t : Ty} : typeI s = some t ↔ tyOk t ∧ tyB t = s := by
  obtain ⟨st, nm, fs⟩ := t
  constructor
  · intro h
    unfold typeI at h
    split at h
    · cases h
    · rename_i c r
      split at h
      · cases h
      · rename_i hc
        have hc1 : sortOk c := Decidable.byContradiction fun hh => hc (.inl hh)
        have hc2 : (cutL 61 r).2.2 = true := by
          cases hb : (cutL 61 r).2.2 with
          | true => rfl
          | false => exact absurd (.inr (.inl hb)) hc
        have hc3 : nameOk (cutL 61 r).1 = true := by
          cases hb : nameOk (cutL 61 r).1 with
          | true => rfl
          | false => exact absurd (.inr (.inr hb)) hc
        rcases cutL_cases 61 r with ⟨_, e⟩ | ⟨p, u, er, hp, e⟩
        · rw [e] at hc2; cases hc2
        · rw [e] at h hc3
          simp only at h hc3
          split at h
          · rename_i hu
            subst hu
            split at h
            · rename_i h82
              injection h with h
              injection h with e1 e2 e3
              subst e1; subst e2; subst e3
              exact ⟨⟨hc1, hc3, Fds_nil _, by simp, fun _ => h82⟩, by rw [er]; simp [tyB, joinL]⟩
            · cases h
          · rename_i hu
            cases hf : fieldsI c (splitL 44 u) [] with
            | none => rw [hf] at h; cases h
            | some x =>
              rw [hf] at h
              injection h with h
              injection h with e1 e2 e3
              subst e1; subst e2; subst e3
              obtain ⟨f1, f2, f3⟩ := fieldsI_some.1 hf
              obtain ⟨s1, _, s3⟩ := splitL_iff.1 f3.symm
              exact ⟨⟨hc1, hc3, f1, f2, fun hh => by simp only at hh; subst hh; exact absurd rfl s1⟩, by rw [er]; simp only [tyB]; rw [s3]⟩
  · rintro ⟨⟨h1, h2, h3, h4, h5⟩, rfl⟩
    simp only at h1 h2 h3 h4 h5
    have hno : 61 ∉ nm := (notin (plain_name h2)).2.2.2
    unfold typeI tyB
    simp only
    rw [cutL_app hno]
    simp only
    rw [if_neg (by simp [h1, h2])]
    by_cases hf : fs = []
    · subst hf
      rw [h5 rfl]
      simp [joinL]
    · have hn : joinL 44 (fs.map (fdB st)) ≠ [] := joinL_ne (by simpa using hf) (by
        intro p hp
        obtain ⟨f, hf', rfl⟩ := List.mem_map.1 hp
        exact (fdB_plain (h3.1 f hf')).2.2)
      have hs : splitL 44 (joinL 44 (fs.map (fdB st))) = fs.map (fdB st) := splitL_join 44 _ (by simpa using hf) (by
        intro p hp
        obtain ⟨f, hf', rfl⟩ := List.mem_map.1 hp
        exact (fdB_plain (h3.1 f hf')).2.1)
      rw [if_neg hn, hs, fieldsI_some.2 ⟨h3, h4, rfl⟩]

theorem tyB_plain {t : Ty} (h : tyOk t) : 10 ∉ tyB t ∧ tyB t ≠ [] := by
  refine ⟨?_, by unfold tyB; simp⟩
  obtain ⟨h1, h2, h3, _, _⟩ := h
  unfold tyB
  simp only [List.mem_append, List.mem_cons, not_or]
  refine ⟨fun e => (sortOk_ne h1).2 e.symm, (notin (plain_name h2)).1, by decide, ?_⟩
  have key : ∀ ps : List (List UInt8), (∀ p ∈ ps, (10 : UInt8) ∉ p) → (10 : UInt8) ∉ joinL 44 ps := by
    intro ps
    induction ps with
    | nil => intro _; simp [joinL]
    | cons p ps ih =>
      intro hp
      cases ps with
      | nil => exact hp p (by simp)
      | cons q ps =>
        rw [joinL_cons 44 p (by simp)]
        simp only [List.mem_append, List.mem_cons, not_or]
        refine ⟨hp p (by simp), by decide, ih (fun x hx => hp x (by simp [hx]))⟩
  apply key
  intro p hp
  obtain ⟨f, hf', rfl⟩ := List.mem_map.1 hp
  exact (fdB_plain (h3.1 f hf')).1
theorem tyB_inj {t u : Ty} (ht : tyOk t) (hu : tyOk u) (h : tyB t = tyB u) : t = u := by
  have h1 := typeI_some.2 ⟨ht, rfl⟩
  have h2 := typeI_some.2 ⟨hu, h.symm⟩
  rw [h1] at h2
  injection h2

/-! ### the lines of a schema -/
def scB (S : List Ty) : List UInt8 := S.flatMap fun t => tyB t ++ [10]
def linesOk (S : List Ty) : Prop := (∀ t ∈ S, tyOk t) ∧ S.length ≤ 8 ∧ S.Pairwise fun t u => t.name ≠ u.name
/-- The types of lines, behind those that have been read: as the program reads them. -/
def linesI : Nat → List UInt8 → List Ty → Option (List Ty)
  | 0, _, _ => none
  | n + 1, s, acc =>
    if s = [] then some acc
    else if (cutL 10 s).2.2 = false ∨ acc.length = 8 then none
    else match typeI (cutL 10 s).1 with
      | none => none
      | some t => if acc.any (fun u => decide (u.name = t.name)) = true then none else linesI n (cutL 10 s).2.1 (acc ++ [t])

theorem linesOk_snoc {S : List Ty} {t : Ty} : linesOk (S ++ [t]) ↔ linesOk S ∧ tyOk t ∧ S.length < 8 ∧ S.any (fun u => decide (u.name = t.name)) = false := by
  unfold linesOk
  rw [List.pairwise_append]
  constructor
  · rintro ⟨h1, h2, h3, _, h4⟩
    simp at h2
    refine ⟨⟨fun u hu => h1 u (by simp [hu]), by omega, h3⟩, h1 t (by simp), by omega, ?_⟩
    simp; intro u hu; exact h4 u hu t (by simp)
  · rintro ⟨⟨h1, h2, h3⟩, h4, h5, h6⟩
    simp at h6
    refine ⟨fun u hu => ?_, by simp; omega, h3, by simp, fun u hu v hv => ?_⟩
    · rcases List.mem_append.1 hu with hu | hu
      · exact h1 u hu
      · simp at hu; subst hu; exact h4
    · simp at hv; subst hv; exact h6 u hu

theorem scB_cons (t : Ty) (S : List Ty) : scB (t :: S) = tyB t ++ 10 :: scB S := by simp [scB]

theorem linesI_some : ∀ (n : Nat) (s : List UInt8) (acc r : List Ty), s.length < n → linesOk acc → (linesI n s acc = some r ↔ linesOk r ∧ ∃ U, r = acc ++ U ∧ scB U = s)
  | 0, s, acc, r, h, _ => absurd h (Nat.not_lt_zero _)
  | n + 1, s, acc, r, h, ha => by
    simp only [linesI]
    by_cases hs : s = []
    · subst hs
      rw [if_pos rfl]
      constructor
      · intro hh; injection hh with hh; subst hh; exact ⟨ha, [], by simp, rfl⟩
      · rintro ⟨_, U, rfl, e⟩
        cases U with
        | nil => simp
        | cons t U => rw [scB_cons] at e; simp at e
    · rw [if_neg hs]
      rcases cutL_cases 10 s with ⟨hn, e⟩ | ⟨p, u, es, hp, e⟩
      · rw [e, if_pos (.inl rfl)]
        simp only [reduceCtorEq, false_iff]
        rintro ⟨_, U, rfl, eU⟩
        cases U with
        | nil => exact hs eU.symm
        | cons t U => rw [scB_cons] at eU; rw [← eU] at hn; simp at hn
      · rw [e]
        simp only
        by_cases h8 : acc.length = 8
        · rw [if_pos (.inr h8)]
          simp only [reduceCtorEq, false_iff]
          rintro ⟨hr, U, rfl, eU⟩
          cases U with
          | nil => exact hs eU.symm
          | cons t U => have := hr.2.1; simp at this; omega
        · rw [if_neg (by simp [h8])]
          have hsplit : ∀ t U, tyOk t → scB (t :: U) = s → tyB t = p ∧ scB U = u := by
            intro t U ht eU
            rw [scB_cons, es] at eU
            have h1 := cutL_app (s := scB U) (tyB_plain ht).1
            rw [eU, cutL_app hp] at h1
            injection h1 with e1 e2
            injection e2 with e2 _
            exact ⟨e1.symm, e2.symm⟩
          cases ht : typeI p with
          | none =>
            simp only [reduceCtorEq, false_iff]
            rintro ⟨hr, U, rfl, eU⟩
            cases U with
            | nil => exact hs eU.symm
            | cons t U =>
              have ok : tyOk t := hr.1 t (by simp)
              rw [typeI_some.2 ⟨ok, (hsplit t U ok eU).1⟩] at ht
              cases ht
          | some t =>
            obtain ⟨ok, eb⟩ := typeI_some.1 ht
            simp only
            by_cases hd : acc.any (fun u => decide (u.name = t.name)) = true
            · rw [if_pos hd]
              simp only [reduceCtorEq, false_iff]
              rintro ⟨hr, U, rfl, eU⟩
              cases U with
              | nil => exact hs eU.symm
              | cons t' U =>
                have ok' : tyOk t' := hr.1 t' (by simp)
                have ett : t' = t := tyB_inj ok' ok ((hsplit t' U ok' eU).1.trans eb.symm)
                subst ett
                simp at hd
                obtain ⟨v, hv, hvn⟩ := hd
                exact (List.pairwise_append.1 hr.2.2).2.2 v hv t' (by simp) hvn
            · rw [if_neg hd]
              have hlen : u.length < n := by rw [es] at h; simp at h; omega
              rw [linesI_some n u (acc ++ [t]) r hlen (linesOk_snoc.2 ⟨ha, ok, by have := ha.2.1; omega, by simpa using hd⟩)]
              constructor
              · rintro ⟨hr, U, rfl, eU⟩
                exact ⟨hr, t :: U, by simp, by rw [scB_cons, eb, eU, es]⟩
              · rintro ⟨hr, U, rfl, eU⟩
                cases U with
                | nil => exact absurd eU.symm hs
                | cons t' U =>
                  have ok' : tyOk t' := hr.1 t' (by simp)
                  obtain ⟨e1, e2⟩ := hsplit t' U ok' eU
                  have ett : t' = t := tyB_inj ok' ok (e1.trans eb.symm)
                  subst ett
                  exact ⟨hr, U, by simp, e2⟩
end Go.Proofs.YtcjfgbcdlcdeaaaDoor
/- Plain laws of schemas: the reference reads the same types; unions that end; standing values. No program in sight. -/
namespace Go.Proofs.YtcjfgbcdlcdeaaaDoor

/-- What a line tells as a type, as the reference reads it. -/
def typeS (s : List UInt8) : Option Ty :=
  match cutL 61 s with
  | (c :: nm, u, true) =>
    if ¬ nameOk nm = true ∨ ¬ sortOk c then none
    else if u = [] then (if c = 82 then some ⟨c, nm, []⟩ else none)
    else match fieldsS c (splitL 44 u) [] with
      | some r => if r.length ≤ 8 then some ⟨c, nm, r⟩ else none
      | none => none
  | _ => none

theorem typeS_eq (s : List UInt8) : typeS s = typeI s := by
  cases s with
  | nil => rfl
  | cons c r =>
    unfold typeS typeI
    by_cases hc : c = 61
    · subst hc
      have e : cutL 61 (61 :: r) = ([], r, true) := cutL_app (p := []) (by simp)
      rw [e]
      simp only
      rw [if_pos (.inl (by decide))]
    · rcases cutL_cases 61 r with ⟨hn, e⟩ | ⟨p, u, er, hp, e⟩
      · have e2 : cutL 61 (c :: r) = (c :: r, [], false) := cutL_no (by simp; exact ⟨fun h => hc h.symm, hn⟩)
        rw [e2]
        simp [e]
      · have e2 : cutL 61 (c :: r) = (c :: p, u, true) := by
          rw [er]; exact cutL_app (p := c :: p) (by simp; exact ⟨fun h => hc h.symm, hp⟩)
        rw [e2]
        simp only [e]
        by_cases h1 : nameOk p = true
        · by_cases h2 : sortOk c
          · by_cases hu : u = []
            · subst hu
              simp [h1, h2]
            · have hx : ∀ (a b : Option Ty), (if ¬ nameOk p = true ∨ ¬ sortOk c then a else b) = b := fun a b => if_neg (by simp [h1, h2])
              have hy : ∀ (a b : Option Ty), (if ¬ sortOk c ∨ true = false ∨ nameOk p = false then a else b) = b := fun a b => if_neg (by simp [h1, h2])
              have hz : ∀ (a b : Option Ty), (if u = [] then a else b) = b := fun a b => if_neg hu
              rw [hx, hy, hz, hz, fieldsI_eq c _ [] (by simp)]
              cases fieldsS c (splitL 44 u) [] with
              | none => rfl
              | some r => simp only; split <;> rfl
          · rw [if_pos (.inr h2), if_pos (.inl h2)]
        · rw [if_pos (.inl h1), if_pos (.inr (.inr (by simpa using h1)))]

/-- The types of lines, each by itself. -/
def typesL : List (List UInt8) → Option (List Ty)
  | [] => some []
  | p :: ps => match typeI p with
    | none => none
    | some t => match typesL ps with
      | none => none
      | some ts => some (t :: ts)
theorem typesL_some : ∀ (ps : List (List UInt8)) (ts : List Ty), typesL ps = some ts ↔ (∀ t ∈ ts, tyOk t) ∧ ts.map tyB = ps
  | [], ts => by
    simp only [typesL, Option.some.injEq]
    constructor
    · rintro rfl; simp
    · rintro ⟨_, h⟩; simpa using h.symm
  | p :: ps, ts => by
    simp only [typesL]
    cases ht : typeI p with
    | none =>
      simp only [reduceCtorEq, false_iff]
      rintro ⟨h, e⟩
      cases ts with
      | nil => simp at e
      | cons t ts =>
        simp at e
        rw [typeI_some.2 ⟨h t (by simp), e.1⟩] at ht; cases ht
    | some t =>
      obtain ⟨ok, eb⟩ := typeI_some.1 ht
      simp only
      have ih := typesL_some ps
      constructor
      · intro h
        cases hr : typesL ps with
        | none => rw [hr] at h; cases h
        | some us =>
          rw [hr] at h
          injection h with h
          subst h
          obtain ⟨i1, i2⟩ := (ih us).1 hr
          exact ⟨by simpa using ⟨ok, i1⟩, by simp [eb, i2]⟩
      · rintro ⟨h, e⟩
        cases ts with
        | nil => simp at e
        | cons u us =>
          simp at e
          have : u = t := tyB_inj (h u (by simp)) ok (e.1.trans eb.symm)
          subst this
          rw [(ih us).2 ⟨fun x hx => h x (by simp [hx]), e.2⟩]

/-- The types of a text, as the reference reads them: not yet whether names are apart. -/
def linesS (s : List UInt8) : Option (List Ty) :=
  if 9 < (splitL 10 s).length ∨ (splitL 10 s).getLast? ≠ some [] then none else typesL (splitL 10 s).dropLast

theorem scB_join (S : List Ty) : joinL 10 (S.map tyB ++ [[]]) = scB S := by
  induction S with
  | nil => rfl
  | cons t S ih =>
    rw [List.map_cons, List.cons_append, joinL_cons 10 _ (by simp), ih, scB_cons]

theorem linesS_some {s : List UInt8} {S : List Ty} : linesS s = some S ↔ (∀ t ∈ S, tyOk t) ∧ S.length ≤ 8 ∧ scB S = s := by
  unfold linesS
  constructor
  · intro h
    split at h
    · cases h
    · rename_i hc
      have h9 : (splitL 10 s).length ≤ 9 := by
        rcases Nat.lt_or_ge 9 (splitL 10 s).length with hh | hh
        · exact absurd (.inl hh) hc
        · exact hh
      have hl : (splitL 10 s).getLast? = some [] := by
        refine Decidable.byContradiction fun hh => hc (.inr hh)
      obtain ⟨t1, t2⟩ := (typesL_some _ _).1 h
      have e : splitL 10 s = S.map tyB ++ [[]] := by
        rcases snoc_cases (splitL 10 s) with hh | ⟨t, c, hh⟩
        · exact absurd hh (splitL_ne 10 s)
        · rw [hh] at hl t2 ⊢
          simp at hl t2
          rw [t2, hl]
      have hs := joinL_split 10 s
      rw [e, scB_join] at hs
      rw [e] at h9
      simp at h9
      exact ⟨t1, h9, hs⟩
  · rintro ⟨h1, h2, rfl⟩
    have e : splitL 10 (scB S) = S.map tyB ++ [[]] := by
      rw [← scB_join]
      refine splitL_join 10 _ (by simp) ?_
      intro p hp
      rcases List.mem_append.1 hp with hp | hp
      · obtain ⟨t, ht, rfl⟩ := List.mem_map.1 hp
        exact (tyB_plain (h1 t ht)).1
      · simp at hp; subst hp; simp
    rw [e, if_neg (by simp; omega)]
    simp only [List.dropLast_concat]
    exact (typesL_some _ _).2 ⟨h1, rfl⟩

/-! ### names that are those of types -/
def findTy (S : List Ty) (n : List UInt8) : Option Ty := S.find? fun t => decide (t.name = n)
theorem findTy_some {S : List Ty} {n : List UInt8} {t : Ty} (h : findTy S n = some t) : t ∈ S ∧ t.name = n := by
  have h1 := List.mem_of_find?_eq_some h
  have h2 := List.find?_some h
  exact ⟨h1, by simpa using h2⟩
theorem findTy_none {S : List Ty} {n : List UInt8} (h : findTy S n = none) : ∀ t ∈ S, t.name ≠ n := by
  intro t ht
  have := List.find?_eq_none.1 h t ht
  simpa using this
theorem findTy_mem {S : List Ty} {t : Ty} (hp : S.Pairwise fun t u => t.name ≠ u.name) (ht : t ∈ S) : findTy S t.name = some t := by
  cases hf : findTy S t.name with
  | none => exact absurd rfl (findTy_none hf t ht)
  | some u =>
    obtain ⟨hu, hn⟩ := findTy_some hf
    have : u = t := by
      induction S with
      | nil => cases ht
      | cons x S ih =>
        rw [List.pairwise_cons] at hp
        rcases List.mem_cons.1 ht with hx | ht2
        · rcases List.mem_cons.1 hu with hy | hu2
          · rw [hx, hy]
          · exact absurd (by rw [← hx]; exact hn.symm) (hp.1 u hu2)
        · rcases List.mem_cons.1 hu with hy | hu2
          · exact absurd (by rw [← hy]; exact hn) (hp.1 t ht2)
          · have hxn : x.name ≠ t.name := hp.1 t ht2
            have hf' : findTy S t.name = some u := by
              unfold findTy at hf ⊢
              rw [List.find?_cons] at hf
              have : decide (x.name = t.name) = false := by simpa using hxn
              rw [this] at hf
              exact hf
            exact ih hp.2 ht2 hf' hu2
    rw [this]

/-- The name of a kind is that of a type. -/
def refOk (S : List Ty) (k : Kd) : Prop := k.base = [64] → (findTy S k.name).isSome = true
instance (S : List Ty) (k : Kd) : Decidable (refOk S k) := by unfold refOk; infer_instance
def kindsOk (S : List Ty) : Prop := ∀ t ∈ S, t.sort ≠ 69 → ∀ f ∈ t.fields, refOk S f.kind
instance (S : List Ty) : Decidable (kindsOk S) := by unfold kindsOk; infer_instance

/-- The type of the first field of a union, where going on goes there. -/
def nextTy (S : List Ty) (t : Ty) : Option Ty :=
  if t.sort = 85 then (match t.fields with
    | f :: _ => if f.kind.signs = [] ∧ f.kind.base = [64] then findTy S f.kind.name else none
    | [] => none) else none
/-- Going from union to union ends within n types. -/
def endsN (S : List Ty) : Nat → Ty → Bool
  | 0, _ => false
  | n + 1, t => match nextTy S t with
    | none => true
    | some u => endsN S n u

theorem nextTy_mem {S : List Ty} {t u : Ty} (h : nextTy S t = some u) : u ∈ S := by
  unfold nextTy at h
  split at h
  · split at h
    · split at h
      · exact (findTy_some h).1
      · cases h
    · cases h
  · cases h
theorem endsN_mono (S : List Ty) : ∀ (n : Nat) (t : Ty), endsN S n t = true → ∀ m, n ≤ m → endsN S m t = true
  | 0, t, h, _, _ => by simp [endsN] at h
  | n + 1, t, h, m, hm => by
    obtain ⟨k, rfl⟩ : ∃ k, m = k + 1 := ⟨m - 1, by omega⟩
    simp only [endsN] at h ⊢
    cases hn : nextTy S t with
    | none => rfl
    | some u =>
      rw [hn] at h
      exact endsN_mono S n u h k (by omega)

theorem length_le_of_subset : ∀ (l S : List Ty), l.Nodup → (∀ x ∈ l, x ∈ S) → l.length ≤ S.length
  | [], S, _, _ => Nat.zero_le _
  | x :: l, S, hn, hs => by
    obtain ⟨h1, h2⟩ := List.nodup_cons.1 hn
    have hx := hs x (by simp)
    have ih := length_le_of_subset l (S.erase x) h2 (fun y hy => by
      have hne : y ≠ x := by rintro rfl; exact h1 hy
      exact (List.mem_erase_of_ne hne).2 (hs y (by simp [hy])))
    have hl := List.length_erase_of_mem hx
    have hp : 0 < S.length := List.length_pos_iff.2 (by rintro rfl; cases hx)
    simp; omega

theorem ends_chain (S : List Ty) : ∀ (n : Nat) (t : Ty), t ∈ S → endsN S (n + 1) t = true → endsN S n t = false →
    ∃ l : List Ty, l.length = n + 1 ∧ (∀ u ∈ l, u ∈ S) ∧ l.Nodup ∧ ∀ u ∈ l, endsN S (n + 1) u = true
  | 0, t, ht, h1, _ => ⟨[t], rfl, by simpa using ht, by simp, by simpa using h1⟩
  | n + 1, t, ht, h1, h2 => by
    have hn : ∃ u, nextTy S t = some u := by
      cases hh : nextTy S t with
      | none => simp [endsN, hh] at h2
      | some u => exact ⟨u, rfl⟩
    obtain ⟨u, hu⟩ := hn
    have e1 : endsN S (n + 1) u = true := by simp only [endsN, hu] at h1; simpa [endsN] using h1
    have e2 : endsN S n u = false := by simp only [endsN, hu] at h2; exact h2
    obtain ⟨l, l1, l2, l3, l4⟩ := ends_chain S n u (nextTy_mem hu) e1 e2
    refine ⟨t :: l, by simp [l1], ?_, List.nodup_cons.2 ⟨fun hm => ?_, l3⟩, ?_⟩
    · intro x hx
      rcases List.mem_cons.1 hx with rfl | hx
      · exact ht
      · exact l2 x hx
    · rw [l4 t hm] at h2; cases h2
    · intro x hx
      rcases List.mem_cons.1 hx with rfl | hx
      · exact h1
      · exact endsN_mono S _ _ (l4 x hx) _ (by omega)

/-- As many steps as there are types are enough. -/
theorem ends_enough (S : List Ty) (t : Ty) (ht : t ∈ S) (n : Nat) : endsN S n t = true → endsN S S.length t = true := by
  induction n with
  | zero => intro h; simp [endsN] at h
  | succ n ih =>
    intro h
    by_cases h2 : endsN S n t = true
    · exact ih h2
    · have h2' : endsN S n t = false := by simpa using h2
      obtain ⟨l, l1, l2, l3, _⟩ := ends_chain S n t ht h h2'
      have := length_le_of_subset l S l3 l2
      exact endsN_mono S _ _ h _ (by omega)
theorem ends_same (S : List Ty) (t : Ty) (ht : t ∈ S) (m n : Nat) (hm : S.length ≤ m) (hn : S.length ≤ n) : endsN S m t = endsN S n t := by
  cases h1 : endsN S m t with
  | true => exact (endsN_mono S _ _ (ends_enough S t ht m h1) n hn).symm
  | false =>
    cases h2 : endsN S n t with
    | false => rfl
    | true => rw [endsN_mono S _ _ (ends_enough S t ht n h2) m hm] at h1; cases h1

/-! ### a schema -/
def scOk (S : List Ty) : Prop := linesOk S ∧ kindsOk S ∧ ∀ t ∈ S, endsN S 9 t = true
/-- What a text tells as a schema. -/
def schemaL (s : List UInt8) : Option (List Ty) :=
  if 400 < s.length then none
  else match linesI (s.length + 1) s [] with
    | none => none
    | some S => if kindsOk S ∧ (∀ t ∈ S, endsN S 9 t = true) then some S else none

theorem linesOk_nil : linesOk [] := ⟨by simp, by simp, List.Pairwise.nil⟩
theorem linesI_eq {s : List UInt8} {S : List Ty} : linesI (s.length + 1) s [] = some S ↔ linesOk S ∧ scB S = s := by
  rw [linesI_some (s.length + 1) s [] S (by omega) linesOk_nil]
  constructor
  · rintro ⟨h, U, e, h2⟩
    simp at e; subst e; exact ⟨h, h2⟩
  · rintro ⟨h, h2⟩; exact ⟨h, S, by simp, h2⟩
theorem schemaL_some {s : List UInt8} {S : List Ty} : schemaL s = some S ↔ scOk S ∧ s.length ≤ 400 ∧ scB S = s := by
  unfold schemaL
  constructor
  · intro h
    split at h
    · cases h
    · rename_i h4
      cases hl : linesI (s.length + 1) s [] with
      | none => rw [hl] at h; cases h
      | some T =>
        rw [hl] at h
        simp only at h
        split at h
        · rename_i hc
          injection h with h
          subst h
          obtain ⟨h1, h2⟩ := linesI_eq.1 hl
          exact ⟨⟨h1, hc.1, hc.2⟩, by omega, h2⟩
        · cases h
  · rintro ⟨⟨h1, h2, h3⟩, h4, h5⟩
    rw [if_neg (by omega), linesI_eq.2 ⟨h1, h5⟩]
    simp only
    rw [if_pos ⟨h2, h3⟩]
/-- .. by what the reference asks. -/
theorem schemaL_ref {s : List UInt8} {S : List Ty} : schemaL s = some S ↔ s.length ≤ 400 ∧ linesS s = some S ∧ (S.Pairwise fun t u => t.name ≠ u.name) ∧ kindsOk S ∧ ∀ t ∈ S, endsN S (S.length + 1) t = true := by
  rw [schemaL_some, linesS_some]
  constructor
  · rintro ⟨⟨⟨h1, h2, h3⟩, h4, h5⟩, h6, h7⟩
    exact ⟨h6, ⟨h1, h2, h7⟩, h3, h4, fun t ht => by rw [ends_same S t ht _ 9 (by omega) (by omega)]; exact h5 t ht⟩
  · rintro ⟨h6, ⟨h1, h2, h7⟩, h3, h4, h5⟩
    exact ⟨⟨⟨h1, h2, h3⟩, h4, fun t ht => by rw [← ends_same S t ht (S.length + 1) 9 (by omega) (by omega)]; exact h5 t ht⟩, h6, h7⟩

/-! ### standing values -/
/-- Standing values end: from a kind going on to types ends within n types. -/
def kdEnds (S : List Ty) (n : Nat) (k : Kd) : Prop := k.signs = [] → k.base = [64] → ∃ t, findTy S k.name = some t ∧ endsN S n t = true
/-- The standing value of a kind. -/
def standN (S : List Ty) : Nat → Kd → List UInt8
  | 0, _ => []
  | n + 1, k =>
    if k.signs.head? = some 91 then [91, 93]
    else if k.signs.head? = some 63 then [45]
    else if k.base = [110] then [48]
    else if k.base = [116] then [39, 39]
    else if k.base = [102] then [110, 111]
    else match findTy S k.name with
      | none => []
      | some t => if t.sort = 82 then [123, 125] else
        match t.fields with
        | [] => []
        | f :: _ => if t.sort = 69 then 35 :: decB f.tag else 60 :: (decB f.tag ++ 61 :: (standN S n f.kind ++ [62]))

/-- The type of a kind, of its first field: there going on ends within one type less. -/
theorem kdEnds_next {S : List Ty} {n : Nat} {k : Kd} {t : Ty} {f : Fd} {fs : List Fd} (h : kdEnds S (n + 1) k) (h1 : k.signs = []) (h2 : k.base = [64]) (hf : findTy S k.name = some t) (hs : t.sort = 85) (hfs : t.fields = f :: fs) (hr : refOk S f.kind) : kdEnds S n f.kind := by
  intro g1 g2
  obtain ⟨u, hu, he⟩ := h h1 h2
  rw [hf] at hu
  injection hu with hu
  subst hu
  have hn : nextTy S t = findTy S f.kind.name := by
    unfold nextTy
    rw [if_pos hs, hfs]
    simp only
    rw [if_pos ⟨g1, g2⟩]
  have hr' := hr g2
  cases hx : findTy S f.kind.name with
  | none => rw [hx] at hr'; cases hr'
  | some v =>
    simp only [endsN, hn, hx] at he
    exact ⟨v, rfl, he⟩

theorem standN_more (S : List Ty) (hS : kindsOk S) : ∀ (n : Nat) (k : Kd), kdEnds S n k → (∀ c, k.signs.head? = some c → c = 91 ∨ c = 63) → baseOk k → (∀ t ∈ S, tyOk t) → ∀ m, n ≤ m → standN S (m + 1) k = standN S (n + 1) k
  | n, k, h, hsg, hb, hT, m, hm => by
    rw [standN, standN]
    by_cases h1 : k.signs.head? = some 91
    · rw [if_pos h1, if_pos h1]
    · rw [if_neg h1, if_neg h1]
      by_cases h2 : k.signs.head? = some 63
      · rw [if_pos h2, if_pos h2]
      · rw [if_neg h2, if_neg h2]
        have hs0 : k.signs = [] := by
          cases hk : k.signs with
          | nil => rfl
          | cons c t =>
            rw [hk] at h1 h2 hsg
            rcases hsg c rfl with rfl | rfl
            · exact absurd rfl h1
            · exact absurd rfl h2
        by_cases h3 : k.base = [110]
        · rw [if_pos h3, if_pos h3]
        · rw [if_neg h3, if_neg h3]
          by_cases h4 : k.base = [116]
          · rw [if_pos h4, if_pos h4]
          · rw [if_neg h4, if_neg h4]
            by_cases h5 : k.base = [102]
            · rw [if_pos h5, if_pos h5]
            · rw [if_neg h5, if_neg h5]
              cases hf : findTy S k.name with
              | none => rfl
              | some t =>
                simp only
                by_cases h6 : t.sort = 82
                · rw [if_pos h6, if_pos h6]
                · rw [if_neg h6, if_neg h6]
                  cases hfs : t.fields with
                  | nil => rfl
                  | cons f fs =>
                    simp only
                    by_cases h7 : t.sort = 69
                    · rw [if_pos h7, if_pos h7]
                    · rw [if_neg h7, if_neg h7]
                      obtain ⟨htS, _⟩ := findTy_some hf
                      obtain ⟨o1, _, o3, _, _⟩ := hT t htS
                      have h85 : t.sort = 85 := by rcases o1 with o | o | o <;> first | exact o | exact absurd o h6 | exact absurd o h7
                      have hb64 : k.base = [64] := by
                        rcases hb with ⟨hb, _⟩ | ⟨hb | hb | hb, _⟩
                        · exact hb
                        · exact absurd hb h3
                        · exact absurd hb h4
                        · exact absurd hb h5
                      have hfk := (o3.1 f (by rw [hfs]; simp)).2.2.2.2 h7
                      cases n with
                      | zero =>
                        obtain ⟨u, _, he⟩ := h hs0 hb64
                        simp [endsN] at he
                      | succ n =>
                        obtain ⟨p, rfl⟩ : ∃ p, m = p + 1 := ⟨m - 1, by omega⟩
                        have hk2 := kdEnds_next h hs0 hb64 hf h85 hfs (hS t htS h7 f (by rw [hfs]; simp))
                        rw [standN_more S hS n f.kind hk2 (fun c hc => by
                          have := hfk.1.1
                          cases hh : f.kind.signs with
                          | nil => rw [hh] at hc; cases hc
                          | cons a l =>
                            rw [hh] at hc this
                            simp at hc; subst hc
                            simp only [List.all_cons, Bool.and_eq_true] at this
                            have := this.1
                            simpa [isSign] using this) hfk.1.2.1 hT p (by omega)]

/-- The standing value of a kind of a schema; of a field. -/
def standL (S : List Ty) (k : Kd) : List UInt8 := standN S 10 k
def ofL (S : List Ty) (f : Fd) : List UInt8 := if f.given = [] then standL S f.kind else f.given
end Go.Proofs.YtcjfgbcdlcdeaaaDoor
/- How the reference's fields, types and schemas lie in memory. -/
namespace Go.Proofs.YtcjfgbcdlcdeaaaDoor
open Go.RowKit
set_option linter.unusedVariables false

theorem flatMap_get {α : Type} {g : α → List Value} {k : Nat} (hk : ∀ x, (g x).length = k) : ∀ (l : List α) (i j : Nat), (hi : i < l.length) → j < k → (l.flatMap g)[i * k + j]? = (g l[i])[j]?
  | [], i, j, hi, _ => by simp at hi
  | x :: l, 0, j, _, hj => by
    simp only [Nat.zero_mul, Nat.zero_add, List.flatMap_cons, List.getElem_cons_zero]
    rw [List.getElem?_append_left (by rw [hk]; exact hj)]
  | x :: l, i + 1, j, hi, hj => by
    have ih := flatMap_get hk l i j (by simpa using hi) hj
    simp only [List.flatMap_cons, List.getElem_cons_succ]
    rw [List.getElem?_append_right (by rw [hk, Nat.add_mul]; omega), hk]
    rw [show (i + 1) * k + j - k = i * k + j by rw [Nat.add_mul]; omega]
    exact ih
theorem flatMap_len {α : Type} {g : α → List Value} {k : Nat} (hk : ∀ x, (g x).length = k) : ∀ l : List α, (l.flatMap g).length = l.length * k
  | [] => by simp
  | x :: l => by
    rw [List.flatMap_cons, List.length_append, hk, flatMap_len hk l, List.length_cons, Nat.add_mul]; omega

/-- A row that is read: one element's cells. -/
theorem RowAt.elem {w : World} {A : Option Addr} {α : Type} {g : α → List Value} {k : Nat} {l : List α} (hk : ∀ x, (g x).length = k) (hk0 : 0 < k) (h : RowAt w A (l.length * k) (l.flatMap g)) {i : Nat} (hi : i < l.length) :
    ∃ b off, A = some ⟨b, off, none⟩ ∧ b < w.heap.size ∧ ∀ j u, (g l[i])[j]? = some u → w.cell? ⟨b, off + (i * k + j), none⟩ = some u := by
  have hpos : 0 < l.length * k := Nat.mul_pos (by omega) hk0
  obtain ⟨b, off, e, hlt, hc⟩ := h.2.2 hpos
  refine ⟨b, off, e, hlt, fun j u hu => hc _ u ?_⟩
  have hj : j < k := by
    have := (List.getElem?_eq_some_iff.1 hu).1
    rwa [hk] at this
  rw [flatMap_get hk l i j hi hj]; exact hu

/-- The cells of a field of the reference. -/
def sfc (f : Fd) : List Value := [.int .i64 (f.tag : Int), .string ⟨f.name.toArray⟩, .string ⟨(kdB f.kind).toArray⟩, .string ⟨f.given.toArray⟩]
def sfV (f : Fd) : Value := .agg #[.int .i64 (f.tag : Int), .string ⟨f.name.toArray⟩, .string ⟨(kdB f.kind).toArray⟩, .string ⟨f.given.toArray⟩]
def sf0 : Value := .agg #[.int .i64 0, .string ⟨#[]⟩, .string ⟨#[]⟩, .string ⟨#[]⟩]
theorem sfc_len (f : Fd) : (sfc f).length = 4 := rfl
/-- A slice value that reads as fields. -/
def SFds (w : World) (v : Value) (fs : List Fd) : Prop := ∃ A c, v = .slice A fs.length c ∧ fs.length ≤ 1000 ∧ RowAt w A (fs.length * 4) (fs.flatMap sfc)
theorem SFds.below {w w' : World} {v : Value} {fs : List Fd} (h : SFds w v fs) (hb : Below w.heap.size w w') : SFds w' v fs := by
  obtain ⟨A, c, e, hl, hr⟩ := h
  exact ⟨A, c, e, hl, hr.below hb⟩
theorem SFds.at_ {w : World} {A : Option Addr} {fs : List Fd} (hr : RowAt w A (fs.length * 4) (fs.flatMap sfc)) {i : Nat} (hi : i < fs.length) :
    ∃ b off, A = some ⟨b, off, none⟩ ∧ b < w.heap.size ∧ w.cell? ⟨b, off + i * 4, none⟩ = some (.int .i64 (fs[i].tag : Int)) ∧ w.cell? ⟨b, off + i * 4 + 1, none⟩ = some (.string ⟨fs[i].name.toArray⟩) ∧
      w.cell? ⟨b, off + i * 4 + 2, none⟩ = some (.string ⟨(kdB fs[i].kind).toArray⟩) ∧ w.cell? ⟨b, off + i * 4 + 3, none⟩ = some (.string ⟨fs[i].given.toArray⟩) := by
  obtain ⟨b, off, e, hlt, hc⟩ := hr.elem sfc_len (by decide) hi
  refine ⟨b, off, e, hlt, ?_, ?_, ?_, ?_⟩
  · have := hc 0 _ rfl; simpa using this
  · have := hc 1 _ rfl; simpa [Nat.add_assoc] using this
  · have := hc 2 _ rfl; simpa [Nat.add_assoc] using this
  · have := hc 3 _ rfl; simpa [Nat.add_assoc] using this

/-- A type of the reference as a value: its fields lie in the slice fv. -/
def styV (t : Ty) (fv : Value) : Value := .agg #[.int .u8 (t.sort.toNat : Int), .string ⟨t.name.toArray⟩, fv]
def sty0 : Value := .agg #[.int .u8 0, .string ⟨#[]⟩, .slice none 0 0]
def stc (x : Ty × Value) : List Value := [.int .u8 (x.1.sort.toNat : Int), .string ⟨x.1.name.toArray⟩, x.2]
theorem stc_len (x : Ty × Value) : (stc x).length = 3 := rfl
/-- A slice value that reads as a schema: each type with the slice in which its fields lie. -/
def SSc (w : World) (v : Value) (xs : List (Ty × Value)) : Prop := ∃ A c, v = .slice A xs.length c ∧ xs.length ≤ 1000 ∧ RowAt w A (xs.length * 3) (xs.flatMap stc) ∧ ∀ x ∈ xs, SFds w x.2 x.1.fields
theorem SSc.below {w w' : World} {v : Value} {xs : List (Ty × Value)} (h : SSc w v xs) (hb : Below w.heap.size w w') : SSc w' v xs := by
  obtain ⟨A, c, e, hl, hr, hf⟩ := h
  exact ⟨A, c, e, hl, hr.below hb, fun x hx => (hf x hx).below hb⟩
def tysOf (xs : List (Ty × Value)) : List Ty := xs.map (·.1)
def findX (xs : List (Ty × Value)) (n : List UInt8) : Option (Ty × Value) := xs.find? fun x => decide (x.1.name = n)
theorem findX_ty (xs : List (Ty × Value)) (n : List UInt8) : findTy (tysOf xs) n = (findX xs n).map (·.1) := by
  unfold findTy tysOf findX; rw [List.find?_map]; rfl
theorem findX_mem {xs : List (Ty × Value)} {n : List UInt8} {x : Ty × Value} (h : findX xs n = some x) : x ∈ xs ∧ x.1.name = n ∧ findTy (tysOf xs) n = some x.1 := by
  refine ⟨List.mem_of_find?_eq_some h, ?_, by rw [findX_ty, h]; rfl⟩
  have := List.find?_some h
  simpa using this
theorem findX_none {xs : List (Ty × Value)} {n : List UInt8} (h : findX xs n = none) : findTy (tysOf xs) n = none := by rw [findX_ty, h]; rfl
/-- The type of a kind that begins with @. -/
def refX (xs : List (Ty × Value)) (k : Kd) : Option (Ty × Value) := if k.signs = [] ∧ k.base = [64] then findX xs k.name else none
theorem SSc.at_ {w : World} {A : Option Addr} {xs : List (Ty × Value)} (hr : RowAt w A (xs.length * 3) (xs.flatMap stc)) {i : Nat} (hi : i < xs.length) :
    ∃ b off, A = some ⟨b, off, none⟩ ∧ b < w.heap.size ∧ w.cell? ⟨b, off + i * 3, none⟩ = some (.int .u8 (xs[i].1.sort.toNat : Int)) ∧ w.cell? ⟨b, off + i * 3 + 1, none⟩ = some (.string ⟨xs[i].1.name.toArray⟩) ∧
      w.cell? ⟨b, off + i * 3 + 2, none⟩ = some xs[i].2 := by
  obtain ⟨b, off, e, hlt, hc⟩ := hr.elem stc_len (by decide) hi
  refine ⟨b, off, e, hlt, ?_, ?_, ?_⟩
  · have := hc 0 _ rfl; simpa using this
  · have := hc 1 _ rfl; simpa [Nat.add_assoc] using this
  · have := hc 2 _ rfl; simpa [Nat.add_assoc] using this

/-- The field of a tag. -/
def fieldT (fs : List Fd) (n : Nat) : Option Fd := fs.find? fun f => decide (f.tag = n)
theorem find_take {α : Type} {p : α → Bool} {l : List α} {k : Nat} (hk : k < l.length) (h : ∀ x ∈ l.take k, p x = false) : l.find? p = if p l[k] = true then some l[k] else (l.drop (k + 1)).find? p := by
  have e : l = l.take k ++ l[k] :: l.drop (k + 1) := by rw [← List.drop_eq_getElem_cons hk, List.take_append_drop]
  conv => lhs; rw [e]
  rw [List.find?_append]
  have h1 : (l.take k).find? p = none := List.find?_eq_none.2 (fun x hx => by simp [h x hx])
  rw [h1, Option.none_or, List.find?_cons]
  cases p l[k] <;> rfl
theorem find_all_none {α : Type} {p : α → Bool} {l : List α} (h : ∀ x ∈ l, p x = false) : l.find? p = none := List.find?_eq_none.2 (fun x hx => by simp [h x hx])
end Go.Proofs.YtcjfgbcdlcdeaaaDoor
