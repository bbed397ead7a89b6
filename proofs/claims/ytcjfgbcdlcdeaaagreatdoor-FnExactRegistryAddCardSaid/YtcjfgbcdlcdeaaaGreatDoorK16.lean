/- Texts joined: SAskT. Conditions: as each theorem names them. -/
import Derived.Test.YtcjfgbcdlcdeaaaGreatDoorK15
/- The reference's question of types. -/
namespace Go.Proofs.YtcjfgbcdlcdeaaaGreatDoor
open Go.RowKit
set_option maxRecDepth 100000
set_option linter.unusedVariables false
set_option linter.unusedSimpArgs false
attribute [local go_sem] ba_get ba_toList ba_extract take_drop_all ByteArray.mk_append_mk

theorem evF_step (S T : List Ty) (K : Kd → Kd → List Pair → Bool × List Pair) (t : Ty) (st : UInt8) (gs : List Fd) (j : Nat) (hj : j < gs.length) (m : List Pair) :
    evF S T K t st (gs.drop j) m = (match fieldT t.fields gs[j].tag with
      | none => if st = 82 then evF S T K t st (gs.drop (j + 1)) m else (false, m)
      | some f => if st = 69 then evF S T K t st (gs.drop (j + 1)) m else
        if (K f.kind gs[j].kind m).1 = false then (false, (K f.kind gs[j].kind m).2)
        else if st = 82 ∧ ofL S f ≠ ofL T gs[j] then (false, (K f.kind gs[j].kind m).2)
        else evF S T K t st (gs.drop (j + 1)) (K f.kind gs[j].kind m).2) := by
  rw [List.drop_eq_getElem_cons hj]; rfl
theorem evF_end (S T : List Ty) (K : Kd → Kd → List Pair → Bool × List Pair) (t : Ty) (st : UInt8) (gs : List Fd) (m : List Pair) : evF S T K t st (gs.drop gs.length) m = (true, m) := by rw [List.drop_length]; rfl
theorem fieldT_mem {fs : List Fd} {n : Nat} {f : Fd} (h : fieldT fs n = some f) : f ∈ fs := List.mem_of_find?_eq_some h
theorem given_len {st : UInt8} {f : Fd} (h : fdOk st f) : f.given.length ≤ 14 := by
  by_cases hs : st = 69
  · rw [(h.2.2.2.1 hs).2]; simp
  · by_cases hg : f.given = []
    · rw [hg]; simp
    · have := ((h.2.2.2.2 hs).2 hg).2.2
      unfold standOk at this
      split at this
      · split at this
        · rename_i n hd
          have := decL_some.1 hd
          rw [this.2]
          have := decB_len 5 n (by have e : 10 ^ (5 + 1) = 1000000 := rfl; omega)
          omega
        · cases this
      · split at this
        · simp only [Bool.and_eq_true, decide_eq_true_eq] at this
          have h4 := this.2
          unfold textOk at h4
          simp only [Bool.and_eq_true, decide_eq_true_eq, List.length_dropLast, List.length_drop] at h4
          omega
        · split at this
          · simp only [decide_eq_true_eq] at this; rw [this]; simp
          · cases this

set_option maxHeartbeats 4000000 in
theorem sAsk_types (w0 : World) (v1 v2 : Value) (xs ys : List (Ty × Value)) (hx : SSc w0 v1 xs) (hy : SSc w0 v2 ys) (hS : scOk (tysOf xs)) (hT : scOk (tysOf ys)) (n : Nat) (t u : Ty) (tv uv : Value) (htm : (t, tv) ∈ xs) (hum : (u, uv) ∈ ys)
    (ih : ∀ a b m W mv, kdOk a → kdOk b → refOk (tysOf xs) a → refOk (tysOf ys) b → Asks (tysOf xs) (tysOf ys) m → 64 < n + m.length → AskSt w0 v1 v2 W m mv →
      Calls Tryz.prog 123 #[.pointer (some ⟨w0.heap.size, 0, none⟩), .string ⟨(kdB a).toArray⟩, .string ⟨(kdB b).toArray⟩] W (AkPost w0 v1 v2 (evK (tysOf xs) (tysOf ys) n a b m) W mv))
    (m : List Pair) (hm : Asks (tysOf xs) (tysOf ys) m) (hn : 64 < n + m.length) (w : World) (mv : Value) (hst : AskSt w0 v1 v2 w m mv) :
    Calls Tryz.prog 160 #[.pointer (some ⟨w0.heap.size, 0, none⟩), styV t tv, styV u uv] w (AkPost w0 v1 v2 (evT (tysOf xs) (tysOf ys) (evK (tysOf xs) (tysOf ys) n) t u m) w mv) := by
  have HF := Lib.hid (show evT (tysOf xs) (tysOf ys) (evK (tysOf xs) (tysOf ys) n) t u m = if t.sort ≠ u.sort then (false, m) else evF (tysOf xs) (tysOf ys) (evK (tysOf xs) (tysOf ys) n) t u.sort u.fields m from rfl)
  have Hst := Lib.hid hst
  have Hx := Lib.hid hx
  have Hy := Lib.hid hy
  have Ih := Lib.hid ih
  have HS := Lib.hid hS
  have HT := Lib.hid hT
  have Hgr := Lib.hid (evK_grows (tysOf xs) (tysOf ys) n)
  have Hto := Lib.hid (hS.1.1 t (List.mem_map_of_mem (f := (·.1)) htm))
  have Huo := Lib.hid (hT.1.1 u (List.mem_map_of_mem (f := (·.1)) hum))
  have Htk := Lib.hid (hS.2.1 t (List.mem_map_of_mem (f := (·.1)) htm))
  have Huk := Lib.hid (hT.2.1 u (List.mem_map_of_mem (f := (·.1)) hum))
  have Hm := Lib.hid hm
  have htf : SFds w0 tv t.fields := by obtain ⟨_, _, _, _, _, hf⟩ := hx; exact hf _ htm
  have huf : SFds w0 uv u.fields := by obtain ⟨_, _, _, _, _, hf⟩ := hy; exact hf _ hum
  have Htf := Lib.hid htf
  obtain ⟨A1, c1, rfl, hxl, _⟩ := hx
  obtain ⟨A2, c2, rfl, hyl, _⟩ := hy
  obtain ⟨A3, n3, c3, rfl⟩ := own_slice hst.2.2.2.2.2.2
  obtain ⟨A4, c4, rfl, _, _⟩ := htf
  obtain ⟨A5, c5, rfl, _, hrow5⟩ := huf
  have Hrow5 := Lib.hid hrow5
  have hsz0 : w0.heap.size < w.heap.size := hst.size
  have Hfar := Lib.hid hst.far
  clear hst ih hS hT hm htm hum hrow5
  unfold styV
  go_enter Tryz.func160, Tryz.ntmps160
  by_cases hsu : t.sort = u.sort
  · have t1 : ((t.sort.toNat : Int) != (u.sort.toNat : Int)) = false := by simp [hsu]
    have t2 : ((t.sort.toNat : Int) == (u.sort.toNat : Int)) = true := by simp [hsu]
    have HF2 := Lib.hid (HF.out.trans (if_neg (by simp [hsu])))
    have Hsu := Lib.hid hsu
    clear hsu
    go_wp2_with fail
    obtain ⟨W2, hW2⟩ : ∃ W2, W2 = (w.alloc (.cells #[.int .u8 (t.sort.toNat : Int), .string ⟨t.name.toArray⟩, .slice A4 t.fields.length c4] 133)).alloc (.cells #[.int .u8 (u.sort.toNat : Int), .string ⟨u.name.toArray⟩, .slice A5 u.fields.length c5] 133) := ⟨_, rfl⟩
    rw [← hW2]
    have X4 := Lib.hid (show W2.rangeAt w.heap.size 0 [.int .u8 (t.sort.toNat : Int), .string ⟨t.name.toArray⟩, .slice A4 t.fields.length c4] from by rw [hW2]; exact rangeAt_below (rangeAt_new w [.int .u8 (t.sort.toNat : Int), .string ⟨t.name.toArray⟩, .slice A4 t.fields.length c4] _) (Nat.lt_succ_self _) ((Below.refl _ _).alloc (by simp) _))
    have X5 := Lib.hid (show W2.rangeAt (w.heap.size + 1) 0 [.int .u8 (u.sort.toNat : Int), .string ⟨u.name.toArray⟩, .slice A5 u.fields.length c5] from by rw [hW2]; have := rangeAt_new (w.alloc (.cells #[.int .u8 (t.sort.toNat : Int), .string ⟨t.name.toArray⟩, .slice A4 t.fields.length c4] 133)) [.int .u8 (u.sort.toNat : Int), .string ⟨u.name.toArray⟩, .slice A5 u.fields.length c5] 133; simpa using this)
    have hb2 : Below w.heap.size w W2 := by rw [hW2]; exact ((Below.refl _ _).alloc (Nat.le_refl _) _).alloc (by simp) _
    have Hst2 := Lib.hid (Hst.out.below hb2)
    have Hk2 := Lib.hid (Kept.of_below (ab := w0.heap.size) (mv := .slice A3 n3 c3) hb2)
    have hz2 : W2.heap.size = w.heap.size + 2 := by rw [hW2]; simp
    clear hW2 hb2
    go_loopw [7] (fun i wr => ∃ (j : Nat) (m' : List Pair) (mv' : Value), i = .int .i64 j ∧ j ≤ u.fields.length ∧ Hid (evT (tysOf xs) (tysOf ys) (evK (tysOf xs) (tysOf ys) n) t u m = evF (tysOf xs) (tysOf ys) (evK (tysOf xs) (tysOf ys) n) t u.sort (u.fields.drop j) m') ∧
      Hid (AskSt w0 (.slice A1 xs.length c1) (.slice A2 ys.length c2) wr m' mv') ∧ Hid (Kept w0.heap.size (.slice A3 n3 c3) W2 wr mv') ∧ Hid (Asks (tysOf xs) (tysOf ys) m') ∧ m.length ≤ m'.length) (fun i _ => u.fields.length - (intOf i).toNat)
    case atStart => exact ⟨0, m, _, rfl, Nat.zero_le _, HF2.out, Hst2.out, Kept.refl _ _ _, Hm.out, Nat.le_refl _⟩
    case round =>
      obtain ⟨j, m', mv', rfl, hj, heq, hst', hk', hm', hml⟩ := hrel
      have j1 : (0 : Int) ≤ (j : Int) := by omega
      obtain ⟨A3', n3', c3', rfl⟩ := own_slice hst'.out.2.2.2.2.2.2
      have Hmv := Lib.hid (show (Value.slice A3' n3' c3').ownBlock = (Value.slice A3 n3 c3).ownBlock ∨ ∃ k, (Value.slice A3' n3' c3').ownBlock = some k ∧ W2.heap.size ≤ k from hk'.out.own)
      have Hne4 := Lib.hid (show ∀ b, w.heap.size ≤ b → b < W2.heap.size → some b ≠ (Value.slice A3' n3' c3').ownBlock from fun b h1 h2 e => by
        rcases Hmv.out with h | ⟨k, h, hk⟩
        · rw [h] at e; exact Hfar.out b h1 e
        · rw [h] at e; injection e with e; omega)
      have x4 := Kept.range hk'.out X4.out (show w.heap.size < W2.heap.size by omega) (show w.heap.size ≠ w0.heap.size by omega) (Hfar.out _ (Nat.le_refl _))
      have x5 := Kept.range hk'.out X5.out (show w.heap.size + 1 < W2.heap.size by omega) (show w.heap.size + 1 ≠ w0.heap.size by omega) (Hfar.out _ (by omega))
      have x40 : wr.cell? ⟨w.heap.size, 0, none⟩ = some (.int .u8 (t.sort.toNat : Int)) := by simpa using rangeAt_cell x4 0 rfl
      have x41 : wr.cell? ⟨w.heap.size, 1, none⟩ = some (.string ⟨t.name.toArray⟩) := by simpa using rangeAt_cell x4 1 rfl
      have x42 : wr.cell? ⟨w.heap.size, 2, none⟩ = some (.slice A4 t.fields.length c4) := by simpa using rangeAt_cell x4 2 rfl
      have x52 : wr.cell? ⟨w.heap.size + 1, 2, none⟩ = some (.slice A5 u.fields.length c5) := by simpa using rangeAt_cell x5 2 rfl
      have hzr : W2.heap.size ≤ wr.heap.size := hk'.out.size
      clear x4 x5
      by_cases hlt : j < u.fields.length
      · have j2 : (j : Int) < (u.fields.length : Int) := by omega
        have Hstep := Lib.hid (heq.out.trans (evF_step _ _ _ t u.sort u.fields j hlt m'))
        obtain ⟨bb, off, rfl, hbb, g0, g1, g2, g3⟩ := SFds.at_ (Hrow5.out.below hst'.out.1) hlt
        have Hgm := Lib.hid (List.getElem_mem hlt)
        generalize u.fields[j] = g at g0 g1 g2 g3 Hstep Hgm
        have Hgo := Lib.hid (Huo.out.2.2.1.1 g Hgm.out)
        have hgt : g.tag ≤ 200 := Hgo.out.2.1
        have Hft := Lib.hid (fun W (h : Below w0.heap.size w0 W) => sField_any (.int .u8 (t.sort.toNat : Int)) (.string ⟨t.name.toArray⟩) (.slice A4 t.fields.length c4) t.fields g.tag W (Htf.out.below h) (by omega))
        have hbn : ¬ (bb = wr.heap.size) := by omega
        have hwn : ¬ (w.heap.size = wr.heap.size) := by omega
        have hwn1 : ¬ (w.heap.size + 1 = wr.heap.size) := by omega
        have hwl : w.heap.size < wr.heap.size := by omega
        have hwl1 : w.heap.size + 1 < wr.heap.size := by omega
        go_wp2_with fail
        have Hw5 := Lib.hid (show Below w0.heap.size w0 (wr.alloc (.cells #[.int .i64 (g.tag : Int), .string ⟨g.name.toArray⟩, .string ⟨(kdB g.kind).toArray⟩, .string ⟨g.given.toArray⟩] 135)) from hst'.out.1.alloc (by omega) _)
        refine (Hft.out _ Hw5.out).mono ?_
        rintro e w5 ⟨rfl, hb5⟩
        have Hb5 := Lib.hid (show Below wr.heap.size wr w5 from ((Below.refl _ _).alloc (Nat.le_refl _) _).trans (hb5.mono (by simp)))
        have X8 := Lib.hid (show w5.rangeAt wr.heap.size 0 [.int .i64 (g.tag : Int), .string ⟨g.name.toArray⟩, .string ⟨(kdB g.kind).toArray⟩, .string ⟨g.given.toArray⟩] from rangeAt_below (rangeAt_new wr [.int .i64 (g.tag : Int), .string ⟨g.name.toArray⟩, .string ⟨(kdB g.kind).toArray⟩, .string ⟨g.given.toArray⟩] _) (by simp) hb5)
        have hz5 : wr.heap.size < w5.heap.size := by have := hb5.size; simp at this; omega
        have y40 : w5.cell? ⟨w.heap.size, 0, none⟩ = some (.int .u8 (t.sort.toNat : Int)) := (Hb5.out.cell (p := ⟨w.heap.size, 0, none⟩) hwl).trans x40
        have hwl5 : w.heap.size < w5.heap.size := by omega
        have hwn5 : ¬ (w.heap.size = w5.heap.size) := by omega
        have Hst5 := Lib.hid (hst'.out.below Hb5.out)
        have Hk5 := Lib.hid (hk'.out.trans (Kept.of_below Hb5.out))
        have Hsu2 := Lib.hid (show u.sort = t.sort from Hsu.out.symm)
        rw [Hsu2.out] at Hstep
        clear hb5 x40 x41 x42 x52 g0 g1 g2 g3
        cases hfo : fieldT t.fields g.tag with
        | none =>
          unfold sfR sf0
          rw [hfo] at Hstep
          clear hfo
          by_cases h82 : t.sort = 82
          · have t82 : ((t.sort.toNat : Int) != 82) = false := by have := byte_eq (d := 82) h82; simpa using this
            have t82' : ((t.sort.toNat : Int) == 82) = true := byte_eq (d := 82) h82
            have Hs2 := Lib.hid (show evT (tysOf xs) (tysOf ys) (evK (tysOf xs) (tysOf ys) n) t u m = evF (tysOf xs) (tysOf ys) (evK (tysOf xs) (tysOf ys) n) t t.sort (u.fields.drop (j + 1)) m' from by rw [Hstep.out]; exact if_pos h82)
            clear h82
            go_wp2_with fail
            go_roundw
            case rel => exact ⟨j + 1, m', _, by go_num, by omega, by rw [Hsu2.out]; exact Hs2.out, Hst5.out.below ((Below.refl _ _).alloc (Nat.le_refl _) _), Hk5.out.trans (Kept.of_below ((Below.refl _ _).alloc (Nat.le_refl _) _)), hm'.out, hml⟩
            case measure => simp [intOf]; omega
          · have t82 : ((t.sort.toNat : Int) != 82) = true := by have := byte_ne (d := 82) h82; simpa using this
            have t82' : ((t.sort.toNat : Int) == 82) = false := byte_ne (d := 82) h82
            have Hs2 := Lib.hid (show evT (tysOf xs) (tysOf ys) (evK (tysOf xs) (tysOf ys) n) t u m = (false, m') from by rw [Hstep.out]; exact if_neg h82)
            clear h82
            go_wp2_with fail
            go_ret
            rw [Hs2.out]
            exact ⟨rfl, _, Hst5.out.below ((Below.refl _ _).alloc (Nat.le_refl _) _), (Hk2.out.trans Hk5.out).trans (Kept.of_below ((Below.refl _ _).alloc (Nat.le_refl _) _))⟩
        | some f =>
          have Hfm := Lib.hid (fieldT_mem hfo)
          unfold sfR sfV
          rw [hfo] at Hstep
          clear hfo
          by_cases h69 : t.sort = 69
          · have t69 : ((t.sort.toNat : Int) == 69) = true := byte_eq (d := 69) h69
            have t69' : ((t.sort.toNat : Int) != 69) = false := by have := byte_eq (d := 69) h69; simpa using this
            have Hs2 := Lib.hid (show evT (tysOf xs) (tysOf ys) (evK (tysOf xs) (tysOf ys) n) t u m = evF (tysOf xs) (tysOf ys) (evK (tysOf xs) (tysOf ys) n) t t.sort (u.fields.drop (j + 1)) m' from by rw [Hstep.out]; exact if_pos h69)
            clear h69
            go_wp2_with fail
            go_roundw
            case rel => exact ⟨j + 1, m', _, by go_num, by omega, by rw [Hsu2.out]; exact Hs2.out, Hst5.out.below ((Below.refl _ _).alloc (Nat.le_refl _) _), Hk5.out.trans (Kept.of_below ((Below.refl _ _).alloc (Nat.le_refl _) _)), hm'.out, hml⟩
            case measure => simp [intOf]; omega
          · have t69 : ((t.sort.toNat : Int) == 69) = false := byte_ne (d := 69) h69
            have t69' : ((t.sort.toNat : Int) != 69) = true := by have := byte_ne (d := 69) h69; simpa using this
            have Hs2 := Lib.hid (Hstep.out.trans (if_neg h69))
            have hfo := Hto.out.2.2.1.1 f Hfm.out
            have Hfk := Lib.hid (hfo.2.2.2.2 h69).1
            have Hgk := Lib.hid (Hgo.out.2.2.2.2 (by rw [Hsu2.out]; exact h69)).1
            have Hfr := Lib.hid (Htk.out h69 f Hfm.out)
            have Hgr2 := Lib.hid (Huk.out (by rw [Hsu2.out]; exact h69) g Hgm.out)
            have hfg := given_len hfo
            have hgg := given_len Hgo.out
            have Hcall := Lib.hid (fun W (h : AskSt w0 (.slice A1 xs.length c1) (.slice A2 ys.length c2) W m' (.slice A3' n3' c3')) => Ih.out f.kind g.kind m' W _ Hfk.out Hgk.out Hfr.out Hgr2.out hm'.out (by omega) h)
            have Hst1 := Lib.hid (fun W (h : Below w0.heap.size w0 W) => sStand_any _ xs HS.out f W (Hx.out.below h) Hfk.out Hfr.out (by omega))
            have Hst2' := Lib.hid (fun W (h : Below w0.heap.size w0 W) => sStand_any _ ys HT.out g W (Hy.out.below h) Hgk.out Hgr2.out (by omega))
            obtain ⟨hma, hmb⟩ := Hgr.out f.kind g.kind m' hm'.out
            have Hma := Lib.hid hma
            have Hmb := Lib.hid hmb
            go_wp2_with fail
            obtain ⟨W9, hW9⟩ : ∃ W9, W9 = w5.alloc (.cells #[.int .i64 (f.tag : Int), .string ⟨f.name.toArray⟩, .string ⟨(kdB f.kind).toArray⟩, .string ⟨f.given.toArray⟩] 135) := ⟨_, rfl⟩
            rw [← hW9]
            have X9 := Lib.hid (show W9.rangeAt w5.heap.size 0 [.int .i64 (f.tag : Int), .string ⟨f.name.toArray⟩, .string ⟨(kdB f.kind).toArray⟩, .string ⟨f.given.toArray⟩] from by rw [hW9]; exact rangeAt_new w5 [.int .i64 (f.tag : Int), .string ⟨f.name.toArray⟩, .string ⟨(kdB f.kind).toArray⟩, .string ⟨f.given.toArray⟩] _)
            have Hb9 := Lib.hid (show Below w5.heap.size w5 W9 from by rw [hW9]; exact (Below.refl _ _).alloc (Nat.le_refl _) _)
            have hz9 : W9.heap.size = w5.heap.size + 1 := by rw [hW9]; simp
            have Hst9 := Lib.hid (Hst5.out.below Hb9.out)
            have Hk9 := Lib.hid (Hk5.out.trans (Kept.of_below Hb9.out))
            have X8' := Lib.hid (rangeAt_below X8.out hz5 Hb9.out)
            have y40' : W9.cell? ⟨w.heap.size, 0, none⟩ = some (.int .u8 (t.sort.toNat : Int)) := (Hb9.out.cell (p := ⟨w.heap.size, 0, none⟩) hwl5).trans y40
            have q90 := Lib.hid (by simpa using rangeAt_cell X9.out 0 rfl : W9.cell? ⟨w5.heap.size, 0, none⟩ = some (.int .i64 (f.tag : Int)))
            have q91 := Lib.hid (by simpa using rangeAt_cell X9.out 1 rfl : W9.cell? ⟨w5.heap.size, 1, none⟩ = some (.string ⟨f.name.toArray⟩))
            have q92 := Lib.hid (by simpa using rangeAt_cell X9.out 2 rfl : W9.cell? ⟨w5.heap.size, 2, none⟩ = some (.string ⟨(kdB f.kind).toArray⟩))
            have q93 := Lib.hid (by simpa using rangeAt_cell X9.out 3 rfl : W9.cell? ⟨w5.heap.size, 3, none⟩ = some (.string ⟨f.given.toArray⟩))
            have q80 := Lib.hid (by simpa using rangeAt_cell X8'.out 0 rfl : W9.cell? ⟨wr.heap.size, 0, none⟩ = some (.int .i64 (g.tag : Int)))
            have q81 := Lib.hid (by simpa using rangeAt_cell X8'.out 1 rfl : W9.cell? ⟨wr.heap.size, 1, none⟩ = some (.string ⟨g.name.toArray⟩))
            have q82 := Lib.hid (by simpa using rangeAt_cell X8'.out 2 rfl : W9.cell? ⟨wr.heap.size, 2, none⟩ = some (.string ⟨(kdB g.kind).toArray⟩))
            have q83 := Lib.hid (by simpa using rangeAt_cell X8'.out 3 rfl : W9.cell? ⟨wr.heap.size, 3, none⟩ = some (.string ⟨g.given.toArray⟩))
            have q40 := Lib.hid y40'
            have b91 : w5.heap.size < W9.heap.size := by omega
            have b92 : w5.heap.size ≠ w0.heap.size := by omega
            have b93 : some w5.heap.size ≠ (Value.slice A3' n3' c3').ownBlock := hst'.out.far _ (by omega)
            have b81 : wr.heap.size < W9.heap.size := by omega
            have b82 : wr.heap.size ≠ w0.heap.size := by omega
            have b83 : some wr.heap.size ≠ (Value.slice A3' n3' c3').ownBlock := hst'.out.far _ (by omega)
            have b41 : w.heap.size < W9.heap.size := by omega
            have b42 : w.heap.size ≠ w0.heap.size := by omega
            have b43 : some w.heap.size ≠ (Value.slice A3' n3' c3').ownBlock := Hne4.out _ (Nat.le_refl _) (by omega)
            have B91 := Lib.hid b91
            have B92 := Lib.hid b92
            have B93 := Lib.hid b93
            have B81 := Lib.hid b81
            have B82 := Lib.hid b82
            have B83 := Lib.hid b83
            have B41 := Lib.hid b41
            have B42 := Lib.hid b42
            have B43 := Lib.hid b43
            clear hW9 y40 y40' hma hmb hfo hwn hwn1 hwn5 hbn b91 b92 b93 b81 b82 b83 b41 b42 b43
            generalize hr : evK (tysOf xs) (tysOf ys) n f.kind g.kind m' = r at *
            obtain ⟨r1', r2⟩ := r
            simp only [] at Hma Hmb
            cases r1' with
            | false =>
              have Hs3 := Lib.hid (show evT (tysOf xs) (tysOf ys) (evK (tysOf xs) (tysOf ys) n) t u m = (false, r2) from Hs2.out.trans (if_pos rfl))
              refine wp_region_slots3 [51, 52, 53, 54, 55, 56, 57, 58, 59, 60, 61, 62, 63, 64, 65, 66, 67, 68, 69, 70, 71, 72, 73, 74, 75, 76, 77] (by kernel_rfl) (by kernel_rfl) (by kernel_rfl) (fun u => by dsimp only [frameOf, setMany, List.set, Nat.zero_add, Nat.reduceAdd])
                (fun i v W => match i with | 0 => v = .pointer (some ⟨w0.heap.size, 0, none⟩) | 1 => v = .pointer (some ⟨w5.heap.size, 2, none⟩) | 2 => v = .string ⟨(kdB f.kind).toArray⟩ | 3 => v = .pointer (some ⟨wr.heap.size, 2, none⟩) | 4 => v = .string ⟨(kdB g.kind).toArray⟩ | 5 => v = .bool false | 6 => v = .bool true | 7 => v = .bool true | 8 => v = undef | 9 => v = undef | 10 => v = undef | 11 => v = undef | 12 => v = undef | 13 => v = undef | 14 => v = undef | 15 => v = undef | 16 => v = undef | 17 => v = undef | 18 => v = undef | 19 => v = undef | 20 => v = undef | 21 => v = undef | 22 => v = undef | 23 => v = undef | 24 => v = undef | 25 => v = undef | 26 => v = .bool true | _ => True)
                (fun L U W => ∃ mm mv9, AskSt w0 (.slice A1 xs.length c1) (.slice A2 ys.length c2) W mm mv9 ∧ Kept w0.heap.size (.slice A3' n3' c3') W9 W mv9 ∧ (L 5 = true → mm = r2) ∧ (L 5 = false → mm = m' ∧ mv9 = (.slice A3' n3' c3'))) (fun _ _ => True) (fun _ _ _ _ _ h => h) (⟨m', (.slice A3' n3' c3'), Hst9.out.below ((Below.refl _ _).drew), Kept.of_below ((Below.refl _ _).drew), fun h => Bool.noConfusion h, fun _ => ⟨rfl, rfl⟩⟩) ?_ ?_
              · repeat (first | exact Steps.nil | (refine Steps.cons ?_ ?_; rotate_left))
                all_goals
                  rintro L U W hL hpre hR hun hdep K hK
                  have HR := Lib.hid hR
                  obtain ⟨mm, mv9, ha9, hk9, r1, r5⟩ := HR.out
                  have a0 : W.cell? ⟨w0.heap.size, 0, none⟩ = some (.slice A1 xs.length c1) := ha9.2.2.1
                  have a1 : W.cell? ⟨w0.heap.size, 1, none⟩ = some (.slice A2 ys.length c2) := ha9.2.2.2.1
                  have f0 : W.cell? ⟨w5.heap.size, 0, none⟩ = some (.int .i64 (f.tag : Int)) := (hk9.cell B91.out B92.out B93.out).trans q90.out
                  have f1 : W.cell? ⟨w5.heap.size, 1, none⟩ = some (.string ⟨f.name.toArray⟩) := (hk9.cell B91.out B92.out B93.out).trans q91.out
                  have f2 : W.cell? ⟨w5.heap.size, 2, none⟩ = some (.string ⟨(kdB f.kind).toArray⟩) := (hk9.cell B91.out B92.out B93.out).trans q92.out
                  have f3 : W.cell? ⟨w5.heap.size, 3, none⟩ = some (.string ⟨f.given.toArray⟩) := (hk9.cell B91.out B92.out B93.out).trans q93.out
                  have g0 : W.cell? ⟨wr.heap.size, 0, none⟩ = some (.int .i64 (g.tag : Int)) := (hk9.cell B81.out B82.out B83.out).trans q80.out
                  have g1 : W.cell? ⟨wr.heap.size, 1, none⟩ = some (.string ⟨g.name.toArray⟩) := (hk9.cell B81.out B82.out B83.out).trans q81.out
                  have g2 : W.cell? ⟨wr.heap.size, 2, none⟩ = some (.string ⟨(kdB g.kind).toArray⟩) := (hk9.cell B81.out B82.out B83.out).trans q82.out
                  have g3 : W.cell? ⟨wr.heap.size, 3, none⟩ = some (.string ⟨g.given.toArray⟩) := (hk9.cell B81.out B82.out B83.out).trans q83.out
                  have s0 : W.cell? ⟨w.heap.size, 0, none⟩ = some (.int .u8 (t.sort.toNat : Int)) := (hk9.cell B41.out B42.out B43.out).trans q40.out
                  clear hun hdep hR
                  first | (simp [Region.binds] at hpre; done) | simp [Region.binds] at hpre | clear hpre
                iterate 5
                  · go_simp
                    first | exact hK _ _ _ rfl trivial HR.out rfl | exact hK _ _ _ rfl trivial HR.out (by simp [Act.put, hpre]) | exact hK undef _ _ trivial trivial HR.out (by simp [Act.put, hpre]) | exact hK _ _ _ trivial trivial HR.out rfl | exact hK _ _ _ trivial trivial HR.out (by simp [Act.put, hpre])
                · go_simp
                  obtain ⟨rfl, rfl⟩ := r5 hL
                  refine (Hcall.out W ha9).mono ?_
                  rintro e w5 ⟨rfl, mv5, ha5, hk5⟩
                  exact hK _ _ _ rfl trivial ⟨_, mv5, ha5, hk9.trans hk5, fun _ => rfl, fun h => by simp at h⟩ (by simp [Act.put, hpre])
                iterate 21
                  · go_simp
                    first | exact hK _ _ _ rfl trivial HR.out rfl | exact hK _ _ _ rfl trivial HR.out (by simp [Act.put, hpre]) | exact hK undef _ _ trivial trivial HR.out (by simp [Act.put, hpre]) | exact hK _ _ _ trivial trivial HR.out rfl | exact hK _ _ _ trivial trivial HR.out (by simp [Act.put, hpre])
              · rintro L U W hL hφ hR
                have e26 : U 26 = .bool true := hφ 26 (by decide)
                simp only [e26]
                clear hφ
                obtain ⟨mm, mv9, ha9, hk9, h1, _⟩ := hR
                obtain rfl := h1 (hL 5 (by decide))
                have Ha9 := Lib.hid ha9
                have Hka := Lib.hid ((Hk2.out.trans Hk9.out).trans hk9)
                clear hL ha9 hk9 h1
                go_wp2_with fail
                go_ret
                rw [Hs3.out]
                exact ⟨rfl, mv9, Ha9.out, Hka.out⟩
            | true =>
              have Hs3 := Lib.hid (Hs2.out.trans (if_neg (by simp)))
              by_cases h82 : t.sort = 82
              · have t82 : ((t.sort.toNat : Int) == 82) = true := byte_eq (d := 82) h82
                have H82 := Lib.hid h82
                clear h82
                obtain ⟨nb, hnb⟩ : ∃ nb, (!(ofL (tysOf xs) f == ofL (tysOf ys) g)) = nb := ⟨_, rfl⟩
                have Hnb := Lib.hid hnb
                refine wp_region_slots3 [51, 52, 53, 54, 55, 56, 57, 58, 59, 60, 61, 62, 63, 64, 65, 66, 67, 68, 69, 70, 71, 72, 73, 74, 75, 76, 77] (by kernel_rfl) (by kernel_rfl) (by kernel_rfl) (fun u => by dsimp only [frameOf, setMany, List.set, Nat.zero_add, Nat.reduceAdd])
                  (fun i v W => match i with | 0 => v = .pointer (some ⟨w0.heap.size, 0, none⟩) | 1 => v = .pointer (some ⟨w5.heap.size, 2, none⟩) | 2 => v = .string ⟨(kdB f.kind).toArray⟩ | 3 => v = .pointer (some ⟨wr.heap.size, 2, none⟩) | 4 => v = .string ⟨(kdB g.kind).toArray⟩ | 5 => v = .bool true | 6 => v = .bool false | 7 => v = .bool false | 8 => v = .pointer (some ⟨w.heap.size, 0, none⟩) | 9 => v = .int .u8 (t.sort.toNat : Int) | 10 => v = .bool true | 11 => v = .bool true | 12 => v = .pointer (some ⟨w0.heap.size, 0, none⟩) | 13 => v = .pointer (some ⟨w0.heap.size, 0, none⟩) | 14 => v = .pointer (some ⟨w0.heap.size, 0, none⟩) | 15 => v = .slice A1 xs.length c1 | 16 => v = .agg #[.int .i64 (f.tag : Int), .string ⟨f.name.toArray⟩, .string ⟨(kdB f.kind).toArray⟩, .string ⟨f.given.toArray⟩] | 17 => v = .string ⟨(ofL (tysOf xs) f).toArray⟩ | 18 => v = .pointer (some ⟨w0.heap.size, 0, none⟩) | 19 => v = .pointer (some ⟨w0.heap.size, 0, none⟩) | 20 => v = .pointer (some ⟨w0.heap.size, 1, none⟩) | 21 => v = .slice A2 ys.length c2 | 22 => v = .agg #[.int .i64 (g.tag : Int), .string ⟨g.name.toArray⟩, .string ⟨(kdB g.kind).toArray⟩, .string ⟨g.given.toArray⟩] | 23 => v = .string ⟨(ofL (tysOf ys) g).toArray⟩ | 24 => v = .bool nb | 25 => v = .bool nb | 26 => v = .bool nb | _ => True)
                  (fun L U W => ∃ mm mv9, AskSt w0 (.slice A1 xs.length c1) (.slice A2 ys.length c2) W mm mv9 ∧ Kept w0.heap.size (.slice A3' n3' c3') W9 W mv9 ∧ (L 5 = true → mm = r2) ∧ (L 5 = false → mm = m' ∧ mv9 = (.slice A3' n3' c3'))) (fun _ _ => True) (fun _ _ _ _ _ h => h) (⟨m', (.slice A3' n3' c3'), Hst9.out.below ((Below.refl _ _).drew), Kept.of_below ((Below.refl _ _).drew), fun h => Bool.noConfusion h, fun _ => ⟨rfl, rfl⟩⟩) ?_ ?_
                · repeat (first | exact Steps.nil | (refine Steps.cons ?_ ?_; rotate_left))
                  all_goals
                    rintro L U W hL hpre hR hun hdep K hK
                    have HR := Lib.hid hR
                    obtain ⟨mm, mv9, ha9, hk9, r1, r5⟩ := HR.out
                    have a0 : W.cell? ⟨w0.heap.size, 0, none⟩ = some (.slice A1 xs.length c1) := ha9.2.2.1
                    have a1 : W.cell? ⟨w0.heap.size, 1, none⟩ = some (.slice A2 ys.length c2) := ha9.2.2.2.1
                    have f0 : W.cell? ⟨w5.heap.size, 0, none⟩ = some (.int .i64 (f.tag : Int)) := (hk9.cell B91.out B92.out B93.out).trans q90.out
                    have f1 : W.cell? ⟨w5.heap.size, 1, none⟩ = some (.string ⟨f.name.toArray⟩) := (hk9.cell B91.out B92.out B93.out).trans q91.out
                    have f2 : W.cell? ⟨w5.heap.size, 2, none⟩ = some (.string ⟨(kdB f.kind).toArray⟩) := (hk9.cell B91.out B92.out B93.out).trans q92.out
                    have f3 : W.cell? ⟨w5.heap.size, 3, none⟩ = some (.string ⟨f.given.toArray⟩) := (hk9.cell B91.out B92.out B93.out).trans q93.out
                    have g0 : W.cell? ⟨wr.heap.size, 0, none⟩ = some (.int .i64 (g.tag : Int)) := (hk9.cell B81.out B82.out B83.out).trans q80.out
                    have g1 : W.cell? ⟨wr.heap.size, 1, none⟩ = some (.string ⟨g.name.toArray⟩) := (hk9.cell B81.out B82.out B83.out).trans q81.out
                    have g2 : W.cell? ⟨wr.heap.size, 2, none⟩ = some (.string ⟨(kdB g.kind).toArray⟩) := (hk9.cell B81.out B82.out B83.out).trans q82.out
                    have g3 : W.cell? ⟨wr.heap.size, 3, none⟩ = some (.string ⟨g.given.toArray⟩) := (hk9.cell B81.out B82.out B83.out).trans q83.out
                    have s0 : W.cell? ⟨w.heap.size, 0, none⟩ = some (.int .u8 (t.sort.toNat : Int)) := (hk9.cell B41.out B42.out B43.out).trans q40.out
                    clear hun hdep hR
                    first | (simp [Region.binds] at hpre; done) | simp [Region.binds] at hpre | clear hpre
                  iterate 5
                    · go_simp
                      first | exact hK _ _ _ rfl trivial HR.out rfl | exact hK _ _ _ rfl trivial HR.out (by simp [Act.put, hpre, hnb]) | exact hK undef _ _ trivial trivial HR.out (by simp [Act.put, hpre, hnb]) | exact hK _ _ _ trivial trivial HR.out rfl | exact hK _ _ _ trivial trivial HR.out (by simp [Act.put, hpre, hnb])
                  · go_simp
                    obtain ⟨rfl, rfl⟩ := r5 hL
                    refine (Hcall.out W ha9).mono ?_
                    rintro e w5 ⟨rfl, mv5, ha5, hk5⟩
                    exact hK _ _ _ rfl trivial ⟨_, mv5, ha5, hk9.trans hk5, fun _ => rfl, fun h => by simp at h⟩ (by simp [Act.put, hpre])
                  iterate 11
                    · go_simp
                      first | exact hK _ _ _ rfl trivial HR.out rfl | exact hK _ _ _ rfl trivial HR.out (by simp [Act.put, hpre, hnb]) | exact hK undef _ _ trivial trivial HR.out (by simp [Act.put, hpre, hnb]) | exact hK _ _ _ trivial trivial HR.out rfl | exact hK _ _ _ trivial trivial HR.out (by simp [Act.put, hpre, hnb])
                  · go_simp
                    refine (Hst1.out W ha9.1).mono ?_
                    rintro e w5 ⟨rfl, hb5⟩
                    exact hK _ _ _ rfl trivial ⟨mm, mv9, ha9.below hb5, hk9.trans (Kept.of_below hb5), r1, r5⟩ (by simp [Act.put, hpre])
                  iterate 5
                    · go_simp
                      first | exact hK _ _ _ rfl trivial HR.out rfl | exact hK _ _ _ rfl trivial HR.out (by simp [Act.put, hpre, hnb]) | exact hK undef _ _ trivial trivial HR.out (by simp [Act.put, hpre, hnb]) | exact hK _ _ _ trivial trivial HR.out rfl | exact hK _ _ _ trivial trivial HR.out (by simp [Act.put, hpre, hnb])
                  · go_simp
                    refine (Hst2'.out W ha9.1).mono ?_
                    rintro e w5 ⟨rfl, hb5⟩
                    exact hK _ _ _ rfl trivial ⟨mm, mv9, ha9.below hb5, hk9.trans (Kept.of_below hb5), r1, r5⟩ (by simp [Act.put, hpre])
                  iterate 3
                    · go_simp
                      first | exact hK _ _ _ rfl trivial HR.out rfl | exact hK _ _ _ rfl trivial HR.out (by simp [Act.put, hpre, hnb]) | exact hK undef _ _ trivial trivial HR.out (by simp [Act.put, hpre, hnb]) | exact hK _ _ _ trivial trivial HR.out rfl | exact hK _ _ _ trivial trivial HR.out (by simp [Act.put, hpre, hnb])
                · rintro L U W hL hφ hR
                  have e26 : U 26 = .bool nb := hφ 26 (by decide)
                  simp only [e26]
                  clear hφ
                  clear hnb
                  obtain ⟨mm, mv9, ha9, hk9, h1, _⟩ := hR
                  obtain rfl := h1 (hL 5 (by decide))
                  have Ha9 := Lib.hid ha9
                  have Hka := Lib.hid (Hk9.out.trans hk9)
                  clear hL ha9 hk9 h1
                  cases nb with
                  | true =>
                    have Hs4 := Lib.hid (Hs3.out.trans (if_pos ⟨H82.out, by have := Hnb.out; simpa using this⟩))
                    go_wp2_with fail
                    go_ret
                    rw [Hs4.out]
                    exact ⟨rfl, mv9, Ha9.out, Hk2.out.trans Hka.out⟩
                  | false =>
                    have Hs4 := Lib.hid (Hs3.out.trans (if_neg (fun h => h.2 (by have := Hnb.out; simpa using this))))
                    go_wp2_with fail
                    go_roundw
                    case rel => exact ⟨j + 1, mm, mv9, by go_num, by omega, by rw [Hsu2.out]; exact Hs4.out, Ha9.out, Hka.out, Hma.out, by obtain ⟨l, hl⟩ := Hmb.out; rw [hl, List.length_append]; omega⟩
                    case measure => simp [intOf]; omega
              · have t82 : ((t.sort.toNat : Int) == 82) = false := byte_ne (d := 82) h82
                have Hs4 := Lib.hid (Hs3.out.trans (if_neg (fun h => h82 h.1)))
                clear h82
                refine wp_region_slots3 [51, 52, 53, 54, 55, 56, 57, 58, 59, 60, 61, 62, 63, 64, 65, 66, 67, 68, 69, 70, 71, 72, 73, 74, 75, 76, 77] (by kernel_rfl) (by kernel_rfl) (by kernel_rfl) (fun u => by dsimp only [frameOf, setMany, List.set, Nat.zero_add, Nat.reduceAdd])
                  (fun i v W => match i with | 0 => v = .pointer (some ⟨w0.heap.size, 0, none⟩) | 1 => v = .pointer (some ⟨w5.heap.size, 2, none⟩) | 2 => v = .string ⟨(kdB f.kind).toArray⟩ | 3 => v = .pointer (some ⟨wr.heap.size, 2, none⟩) | 4 => v = .string ⟨(kdB g.kind).toArray⟩ | 5 => v = .bool true | 6 => v = .bool false | 7 => v = .bool false | 8 => v = .pointer (some ⟨w.heap.size, 0, none⟩) | 9 => v = .int .u8 (t.sort.toNat : Int) | 10 => v = .bool false | 11 => v = .bool false | 12 => v = undef | 13 => v = undef | 14 => v = undef | 15 => v = undef | 16 => v = undef | 17 => v = undef | 18 => v = undef | 19 => v = undef | 20 => v = undef | 21 => v = undef | 22 => v = undef | 23 => v = undef | 24 => v = undef | 25 => v = .bool false | 26 => v = .bool false | _ => True)
                  (fun L U W => ∃ mm mv9, AskSt w0 (.slice A1 xs.length c1) (.slice A2 ys.length c2) W mm mv9 ∧ Kept w0.heap.size (.slice A3' n3' c3') W9 W mv9 ∧ (L 5 = true → mm = r2) ∧ (L 5 = false → mm = m' ∧ mv9 = (.slice A3' n3' c3'))) (fun _ _ => True) (fun _ _ _ _ _ h => h) (⟨m', (.slice A3' n3' c3'), Hst9.out.below ((Below.refl _ _).drew), Kept.of_below ((Below.refl _ _).drew), fun h => Bool.noConfusion h, fun _ => ⟨rfl, rfl⟩⟩) ?_ ?_
                · repeat (first | exact Steps.nil | (refine Steps.cons ?_ ?_; rotate_left))
                  all_goals
                    rintro L U W hL hpre hR hun hdep K hK
                    have HR := Lib.hid hR
                    obtain ⟨mm, mv9, ha9, hk9, r1, r5⟩ := HR.out
                    have a0 : W.cell? ⟨w0.heap.size, 0, none⟩ = some (.slice A1 xs.length c1) := ha9.2.2.1
                    have a1 : W.cell? ⟨w0.heap.size, 1, none⟩ = some (.slice A2 ys.length c2) := ha9.2.2.2.1
                    have f0 : W.cell? ⟨w5.heap.size, 0, none⟩ = some (.int .i64 (f.tag : Int)) := (hk9.cell B91.out B92.out B93.out).trans q90.out
                    have f1 : W.cell? ⟨w5.heap.size, 1, none⟩ = some (.string ⟨f.name.toArray⟩) := (hk9.cell B91.out B92.out B93.out).trans q91.out
                    have f2 : W.cell? ⟨w5.heap.size, 2, none⟩ = some (.string ⟨(kdB f.kind).toArray⟩) := (hk9.cell B91.out B92.out B93.out).trans q92.out
                    have f3 : W.cell? ⟨w5.heap.size, 3, none⟩ = some (.string ⟨f.given.toArray⟩) := (hk9.cell B91.out B92.out B93.out).trans q93.out
                    have g0 : W.cell? ⟨wr.heap.size, 0, none⟩ = some (.int .i64 (g.tag : Int)) := (hk9.cell B81.out B82.out B83.out).trans q80.out
                    have g1 : W.cell? ⟨wr.heap.size, 1, none⟩ = some (.string ⟨g.name.toArray⟩) := (hk9.cell B81.out B82.out B83.out).trans q81.out
                    have g2 : W.cell? ⟨wr.heap.size, 2, none⟩ = some (.string ⟨(kdB g.kind).toArray⟩) := (hk9.cell B81.out B82.out B83.out).trans q82.out
                    have g3 : W.cell? ⟨wr.heap.size, 3, none⟩ = some (.string ⟨g.given.toArray⟩) := (hk9.cell B81.out B82.out B83.out).trans q83.out
                    have s0 : W.cell? ⟨w.heap.size, 0, none⟩ = some (.int .u8 (t.sort.toNat : Int)) := (hk9.cell B41.out B42.out B43.out).trans q40.out
                    clear hun hdep hR
                    first | (simp [Region.binds] at hpre; done) | simp [Region.binds] at hpre | clear hpre
                  iterate 5
                    · go_simp
                      first | exact hK _ _ _ rfl trivial HR.out rfl | exact hK _ _ _ rfl trivial HR.out (by simp [Act.put, hpre]) | exact hK undef _ _ trivial trivial HR.out (by simp [Act.put, hpre]) | exact hK _ _ _ trivial trivial HR.out rfl | exact hK _ _ _ trivial trivial HR.out (by simp [Act.put, hpre])
                  · go_simp
                    obtain ⟨rfl, rfl⟩ := r5 hL
                    refine (Hcall.out W ha9).mono ?_
                    rintro e w5 ⟨rfl, mv5, ha5, hk5⟩
                    exact hK _ _ _ rfl trivial ⟨_, mv5, ha5, hk9.trans hk5, fun _ => rfl, fun h => by simp at h⟩ (by simp [Act.put, hpre])
                  iterate 21
                    · go_simp
                      first | exact hK _ _ _ rfl trivial HR.out rfl | exact hK _ _ _ rfl trivial HR.out (by simp [Act.put, hpre]) | exact hK undef _ _ trivial trivial HR.out (by simp [Act.put, hpre]) | exact hK _ _ _ trivial trivial HR.out rfl | exact hK _ _ _ trivial trivial HR.out (by simp [Act.put, hpre])
                · rintro L U W hL hφ hR
                  have e26 : U 26 = .bool false := hφ 26 (by decide)
                  simp only [e26]
                  clear hφ
                  obtain ⟨mm, mv9, ha9, hk9, h1, _⟩ := hR
                  obtain rfl := h1 (hL 5 (by decide))
                  have Ha9 := Lib.hid ha9
                  have Hka := Lib.hid (Hk9.out.trans hk9)
                  clear hL ha9 hk9 h1
                  go_wp2_with fail
                  go_roundw
                  case rel => exact ⟨j + 1, mm, mv9, by go_num, by omega, by rw [Hsu2.out]; exact Hs4.out, Ha9.out, Hka.out, Hma.out, by obtain ⟨l, hl⟩ := Hmb.out; rw [hl, List.length_append]; omega⟩
                  case measure => simp [intOf]; omega
      · obtain rfl : j = u.fields.length := by omega
        have Hend := Lib.hid (heq.out.trans (evF_end _ _ _ t u.sort u.fields m'))
        go_wp2_with fail
        go_ret
        rw [Hend.out]
        exact ⟨rfl, _, hst'.out, Hk2.out.trans hk'.out⟩
  · have t1 : ((t.sort.toNat : Int) != (u.sort.toNat : Int)) = true := by simp; intro h; exact hsu (UInt8.toNat_inj.1 (by omega))
    have t2 : ((t.sort.toNat : Int) == (u.sort.toNat : Int)) = false := by simpa using t1
    have HF2 := Lib.hid (HF.out.trans (if_pos hsu))
    clear hsu
    go_wp2_with fail
    go_ret
    rw [HF2.out]
    exact ⟨rfl, _, Hst.out.below (((Below.refl _ _).alloc (Nat.le_refl _) _).alloc (by simp) _), Kept.of_below (((Below.refl _ _).alloc (Nat.le_refl _) _).alloc (by simp) _)⟩
end Go.Proofs.YtcjfgbcdlcdeaaaGreatDoor
