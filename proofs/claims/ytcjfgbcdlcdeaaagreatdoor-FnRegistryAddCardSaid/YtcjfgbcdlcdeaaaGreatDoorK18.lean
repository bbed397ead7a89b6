/- Texts joined: Reg2, DReg, DrawR, DrawRA, App, IType2, IHas. Conditions: as each theorem names them. -/
import Derived.Laws.AppendOwnNone
import Derived.Test.YtcjfgbcdlcdeaaaGreatDoorK01
import Derived.Test.YtcjfgbcdlcdeaaaGreatDoorK07
import Derived.Test.YtcjfgbcdlcdeaaaGreatDoorK11
import Derived.Test.YtcjfgbcdlcdeaaaGreatDoorK14
import Derived.Test.YtcjfgbcdlcdeaaaGreatDoorK17
/- Registries: the same; the reference's RegistryOk. -/
namespace Go.Proofs.YtcjfgbcdlcdeaaaGreatDoor
open Go.RowKit
set_option maxRecDepth 100000
set_option linter.unusedVariables false
set_option linter.unusedSimpArgs false
attribute [local go_sem] ba_get ba_toList ba_extract take_drop_all ByteArray.mk_append_mk

set_option maxHeartbeats 1000000 in
theorem eqVersionS_any (v1 v2 : Value) (vs : List Ver) (w : World) (h1 : VRow w v1 vs) (h2 : VRow w v2 vs) :
    Calls Tryz.prog 49 #[v1, v2] w fun e w' => e = .returned (.bool true) ∧ Below w.heap.size w w' := by
  obtain ⟨A1, c1, rfl, hcap1, hvm, hr1⟩ := h1
  obtain ⟨A2, c2, rfl, hcap2, _, hr2⟩ := h2
  have Hr1 := Lib.hid hr1
  have Hr2 := Lib.hid hr2
  have hlen := hvm
  unfold maxLen at hlen
  have t0 : ((vs.length : Int) != (vs.length : Int)) = false := by simp
  clear hr1 hr2
  go_enter Tryz.func49, Tryz.ntmps49
  go_wp2_with fail
  go_loopw [5] (fun i wr => ∃ k : Nat, i = .int .i64 k ∧ k ≤ vs.length ∧ Hid (Below w.heap.size w wr)) (fun i _ => vs.length - (intOf i).toNat)
  case atStart => exact ⟨0, rfl, Nat.zero_le _, Below.refl _ _⟩
  case round =>
    obtain ⟨k, rfl, hk, hb⟩ := hrel
    have k1 : (0 : Int) ≤ (k : Int) := by omega
    by_cases hlt : k < vs.length
    · have k2 : (k : Int) < (vs.length : Int) := by omega
      obtain ⟨b1, o1, rfl, hbl1, x0, x1⟩ := VRow.at_ (Hr1.out.below hb.out) hlt
      obtain ⟨b2, o2, rfl, hbl2, y0, y1⟩ := VRow.at_ (Hr2.out.below hb.out) hlt
      generalize vs[k] = x at x0 x1 y0 y1
      have C0 := Lib.hid x0
      have C1 := Lib.hid x1
      have D0 := Lib.hid y0
      have D1 := Lib.hid y1
      have L1 := Lib.hid hbl1
      have L2 := Lib.hid hbl2
      clear x0 x1 y0 y1 hbl1 hbl2
      go_wp2_with fail
      refine wp_region_slots3 [17, 18, 19, 20, 21, 22, 23, 24, 25, 26] (by kernel_rfl) (by kernel_rfl) (by kernel_rfl) (fun u => by dsimp only [frameOf, setMany, List.set, Nat.zero_add, Nat.reduceAdd])
        (fun ix v W => match ix with | 0 => v = .slice (some ⟨b1, o1, none⟩) vs.length c1 | 1 => v = .int .i64 k | 2 => v = .pointer (some ⟨b1, o1 + k * 2, none⟩) | 3 => v = .agg #[.string ⟨x.1.toArray⟩, .string ⟨x.2.toArray⟩] | 4 => v = .slice (some ⟨b2, o2, none⟩) vs.length c2 | 5 => v = .int .i64 k | 6 => v = .pointer (some ⟨b2, o2 + k * 2, none⟩) | 7 => v = .agg #[.string ⟨x.1.toArray⟩, .string ⟨x.2.toArray⟩] | 8 => v = .bool true | 9 => v = .bool false | _ => True)
        (fun L U W => Below wr.heap.size wr W) (fun _ _ => True) (fun _ _ _ _ _ h => h) ((Below.refl _ _).drew) ?_ ?_
      · repeat (first | exact Steps.nil | (refine Steps.cons ?_ ?_; rotate_left))
        all_goals
          rintro L U W hL hpre hR hun hdep K hK
          have HR := Lib.hid hR
          have hB := HR.out
          have a0 : W.cell? ⟨b1, o1 + k * 2, none⟩ = some (.string ⟨x.1.toArray⟩) := (hB.cell (p := ⟨b1, o1 + k * 2, none⟩) L1.out).trans C0.out
          have a1 : W.cell? ⟨b1, o1 + k * 2 + 1, none⟩ = some (.string ⟨x.2.toArray⟩) := (hB.cell (p := ⟨b1, o1 + k * 2 + 1, none⟩) L1.out).trans C1.out
          have d0 : W.cell? ⟨b2, o2 + k * 2, none⟩ = some (.string ⟨x.1.toArray⟩) := (hB.cell (p := ⟨b2, o2 + k * 2, none⟩) L2.out).trans D0.out
          have d1 : W.cell? ⟨b2, o2 + k * 2 + 1, none⟩ = some (.string ⟨x.2.toArray⟩) := (hB.cell (p := ⟨b2, o2 + k * 2 + 1, none⟩) L2.out).trans D1.out
          clear hun hdep hR
          first | (simp [Region.binds] at hpre; done) | simp [Region.binds] at hpre | clear hpre
        iterate 8
          · go_simp
            first | exact hK _ _ _ rfl trivial HR.out rfl | exact hK _ _ _ rfl trivial HR.out (by simp [Act.put, hpre]) | exact hK undef _ _ trivial trivial HR.out (by simp [Act.put, hpre]) | exact hK _ _ _ trivial trivial HR.out rfl | exact hK _ _ _ trivial trivial HR.out (by simp [Act.put, hpre])
        · go_simp
          refine (eqVersion_any x.1 x.2 W).mono ?_
          rintro e w5 ⟨rfl, hb5⟩
          exact hK _ _ _ rfl trivial (hB.trans (hb5.mono hB.size)) (by simp [Act.put, hpre])
        · go_simp
          first | exact hK _ _ _ rfl trivial HR.out rfl | exact hK _ _ _ rfl trivial HR.out (by simp [Act.put, hpre]) | exact hK undef _ _ trivial trivial HR.out (by simp [Act.put, hpre]) | exact hK _ _ _ trivial trivial HR.out rfl | exact hK _ _ _ trivial trivial HR.out (by simp [Act.put, hpre])
      · rintro L U W hL hφ hR
        have e9 : U 9 = .bool false := hφ 9 (by decide)
        simp only [e9]
        clear hφ
        have Hbw := Lib.hid (hb.out.trans (hR.mono hb.out.size))
        clear hL hR
        go_wp2_with fail
        go_roundw
        case rel => exact ⟨k + 1, by go_num, by omega, Hbw.out⟩
        case measure => simp [intOf]; omega
    · obtain rfl : k = vs.length := by omega
      go_wp2_with fail
      go_ret
      exact ⟨rfl, hb.out⟩
set_option maxHeartbeats 1000000 in
theorem eqRegistry_any (v1 v2 : Value) (vs : List Ver) (w : World) (h1 : VRow w v1 vs) (h2 : VRow w v2 vs) :
    Calls Tryz.prog 19 #[.agg #[v1], .agg #[v2]] w fun e w' => e = .returned (.bool true) ∧ Below w.heap.size w w' := by
  have H1 := Lib.hid h1
  have H2 := Lib.hid h2
  obtain ⟨A1, c1, rfl, _⟩ := h1
  obtain ⟨A2, c2, rfl, _⟩ := h2
  go_enter Tryz.func19, Tryz.ntmps19
  go_wp2_with fail
  refine (eqVersionS_any _ _ vs _ (H1.out.below (((Below.refl _ _).alloc (Nat.le_refl _) _).alloc (by simp) _)) (H2.out.below (((Below.refl _ _).alloc (Nat.le_refl _) _).alloc (by simp) _))).mono ?_
  rintro e w1 ⟨rfl, hb1⟩
  have Hb1 := Lib.hid ((((Below.refl w.heap.size w).alloc (Nat.le_refl _) _).alloc (by simp) _).trans (hb1.mono (by simp; omega)))
  clear hb1
  go_wp2_with fail
  go_ret
  exact ⟨rfl, Hb1.out⟩

/-! ### valid registries -/
/-- A version reads another one. -/
def rdV (v u : Ver) : Bool := evolveL (bothL v.1 v.2) (bothL u.1 u.2)
def verAt (vs : List Ver) (i : Nat) : Ver := vs.getD i ([], [])
theorem verAt_lt {vs : List Ver} {i : Nat} (h : i < vs.length) : verAt vs i = vs[i] := by simp [verAt, h]
def regOk (vs : List Ver) : Bool := decide (vs.length ≤ 5) && (List.range vs.length).all fun i => (List.range (i + 1)).all fun k => rdV (verAt vs i) (verAt vs k)
theorem regOk_iff {vs : List Ver} : regOk vs = true ↔ vs.length ≤ 5 ∧ ∀ i, i < vs.length → ∀ k, k ≤ i → rdV (verAt vs i) (verAt vs k) = true := by
  unfold regOk
  simp only [Bool.and_eq_true, decide_eq_true_eq, List.all_eq_true, List.mem_range]
  exact ⟨fun ⟨h1, h2⟩ => ⟨h1, fun i hi k hk => h2 i hi k (by omega)⟩, fun ⟨h1, h2⟩ => ⟨h1, fun i hi k hk => h2 i hi k (by omega)⟩⟩
theorem regOk_no {vs : List Ver} {i k : Nat} (hi : i < vs.length) (hk : k ≤ i) (h : rdV (verAt vs i) (verAt vs k) = false) : regOk vs = false := by
  rw [Bool.eq_false_iff]
  intro h2
  rw [(regOk_iff.1 h2).2 i hi k hk] at h
  cases h
theorem rdV_self {v : Ver} (h : (bothL v.1 v.2).isSome = true) : rdV v v = true := by
  unfold rdV
  cases hb : bothL v.1 v.2 with
  | none => rw [hb] at h; cases h
  | some x =>
    obtain ⟨S, k⟩ := x
    obtain ⟨h1, _, _, _, _, h2⟩ := bothL_good hb
    exact readsK_self h1 h2
theorem rdV_no {v : Ver} (u : Ver) (h : (bothL v.1 v.2).isSome = false) : rdV v u = false := by
  unfold rdV
  cases hb : bothL v.1 v.2 with
  | none => rfl
  | some x => rw [hb] at h; cases h

set_option maxHeartbeats 1000000 in
theorem l10Reads_any (v u : Ver) (w : World) (h1 : v.1.length ≤ 4000000) (h2 : v.2.length ≤ 4000000) (h3 : u.1.length ≤ 4000000) (h4 : u.2.length ≤ 4000000) :
    Calls Tryz.prog 80 #[.agg #[.string ⟨v.1.toArray⟩, .string ⟨v.2.toArray⟩], .agg #[.string ⟨u.1.toArray⟩, .string ⟨u.2.toArray⟩]] w fun e w' => e = .returned (.bool (rdV v u)) ∧ Below w.heap.size w w' := by
  have He := Lib.hid (fun W => sEvolve_any v.1 v.2 u.1 u.2 W h1 h2 h3 h4)
  have Hrd : Hid (rdV v u = evolveL (bothL v.1 v.2) (bothL u.1 u.2)) := rfl
  generalize evolveL (bothL v.1 v.2) (bothL u.1 u.2) = r at *
  go_enter Tryz.func80, Tryz.ntmps80
  go_wp2_with fail
  refine (He.out _).mono ?_
  rintro e w1 ⟨rfl, hb1⟩
  go_wp2_with fail
  go_ret
  exact ⟨by rw [Hrd.out]; rfl, (((Below.refl w.heap.size w).alloc (Nat.le_refl _) _).alloc (by simp) _).trans (hb1.mono (by simp; omega))⟩

set_option maxHeartbeats 2000000 in
theorem sRegOk_any (v : Value) (vs : List Ver) (w : World) (h : VRow w v vs) (hn : vs.length ≤ 1048576) (hl : ∀ x ∈ vs, x.1.length ≤ 4000000 ∧ x.2.length ≤ 4000000) :
    Calls Tryz.prog 46 #[.agg #[v]] w fun e w' => e = .returned (.bool (regOk vs)) ∧ Below w.heap.size w w' := by
  obtain ⟨A, c, rfl, hcap, hvm, hr⟩ := h
  have Hr := Lib.hid hr
  have Hl := Lib.hid hl
  clear hr hl
  go_enter Tryz.func46, Tryz.ntmps46
  go_wp2_with fail
  go_loopw [3] (fun i wr => ∃ k : Nat, i = .int .i64 k ∧ k ≤ vs.length ∧ Hid (∀ i', i' < k → ∀ k', k' ≤ i' → rdV (verAt vs i') (verAt vs k') = true) ∧ Hid (Below w.heap.size w wr) ∧ w.heap.size < wr.heap.size ∧ wr.cell? ⟨w.heap.size, 0, none⟩ = some (.slice A vs.length c)) (fun i _ => vs.length - (intOf i).toNat)
  case atStart => exact ⟨0, rfl, Nat.zero_le _, fun i' hi' => by omega, (Below.refl _ _).alloc (Nat.le_refl _) _, by simp, by simp⟩
  case round =>
    obtain ⟨i, rfl, hi, hin, hb, hsz, hc0⟩ := hrel
    have i1 : (0 : Int) ≤ (i : Int) := by omega
    by_cases hlt : i < vs.length
    · have i2 : (i : Int) < (vs.length : Int) := by omega
      obtain ⟨wo, hwo⟩ : ∃ wo : World, wo = wr := ⟨_, rfl⟩
      have Hsz := Lib.hid hsz
      have Hc0 := Lib.hid hc0
      go_wp2_with fail
      subst hwo
      go_loopw [4] (fun q wr => ∃ k : Nat, q = .int .i64 k ∧ k ≤ i + 1 ∧ Hid (∀ k', k' < k → rdV (verAt vs i) (verAt vs k') = true) ∧ Hid (Below w.heap.size w wr) ∧ w.heap.size < wr.heap.size ∧ wr.cell? ⟨w.heap.size, 0, none⟩ = some (.slice A vs.length c)) (fun q _ => i + 1 - (intOf q).toNat)
      case atStart => exact ⟨0, rfl, Nat.zero_le _, fun k' hk' => by omega, hb.out, Hsz.out, Hc0.out⟩
      case round =>
        clear hc0 hsz
        obtain ⟨k, rfl, hk, hkin, hb', hsz', hc0'⟩ := hrel
        have k1 : (0 : Int) ≤ (k : Int) := by omega
        by_cases hkl : k ≤ i
        · have k2 : (k : Int) ≤ (i : Int) := by omega
          have k3 : (k : Int) < (vs.length : Int) := by omega
          obtain ⟨b1, o1, rfl, hbl1, x0, x1⟩ := VRow.at_ (Hr.out.below hb'.out) hlt
          obtain ⟨b1', o1', e1, _, y0, y1⟩ := VRow.at_ (Hr.out.below hb'.out) (show k < vs.length by omega)
          obtain ⟨rfl, rfl⟩ : b1 = b1' ∧ o1 = o1' := by injection e1 with e1; injection e1 with e1 e2; exact ⟨e1, e2⟩
          have hxl := Hl.out _ (List.getElem_mem hlt)
          have hyl := Hl.out _ (List.getElem_mem (show k < vs.length by omega))
          have hrd : rdV (verAt vs i) (verAt vs k) = rdV vs[i] (vs[k]'(by omega)) := by rw [verAt_lt hlt, verAt_lt (by omega)]
          generalize vs[i] = x at x0 x1 hxl hrd
          generalize vs[k]'(show k < vs.length by omega) = y at y0 y1 hyl hrd
          have Hrd := Lib.hid (fun W => l10Reads_any x y W hxl.1 hxl.2 hyl.1 hyl.2)
          have Hrx := Lib.hid hrd
          generalize rdV x y = r at Hrd Hrx
          have C0 := Lib.hid x0
          have C1 := Lib.hid x1
          have D0 := Lib.hid y0
          have D1 := Lib.hid y1
          have L1 := Lib.hid hbl1
          have Lw := Lib.hid hsz'
          have T0 := Lib.hid hc0'
          clear x0 x1 y0 y1 hbl1 hxl hyl hrd e1 hc0'
          go_wp2_with fail
          refine wp_region_slots3 [17, 18, 19, 20, 21, 22, 23, 24, 25, 26, 27, 28] (by kernel_rfl) (by kernel_rfl) (by kernel_rfl) (fun u => by dsimp only [frameOf, setMany, List.set, Nat.zero_add, Nat.reduceAdd])
            (fun ix v W => match ix with | 0 => v = .pointer (some ⟨w.heap.size, 0, none⟩) | 1 => v = .slice (some ⟨b1, o1, none⟩) vs.length c | 2 => v = .int .i64 i | 3 => v = .pointer (some ⟨b1, o1 + i * 2, none⟩) | 4 => v = .agg #[.string ⟨x.1.toArray⟩, .string ⟨x.2.toArray⟩] | 5 => v = .pointer (some ⟨w.heap.size, 0, none⟩) | 6 => v = .slice (some ⟨b1, o1, none⟩) vs.length c | 7 => v = .int .i64 k | 8 => v = .pointer (some ⟨b1, o1 + k * 2, none⟩) | 9 => v = .agg #[.string ⟨y.1.toArray⟩, .string ⟨y.2.toArray⟩] | 10 => v = .bool r | 11 => v = .bool (!r) | _ => True)
            (fun L U W => Below wr.heap.size wr W) (fun _ _ => True) (fun _ _ _ _ _ h => h) ((Below.refl _ _).drew) ?_ ?_
          · repeat (first | exact Steps.nil | (refine Steps.cons ?_ ?_; rotate_left))
            all_goals
              rintro L U W hL hpre hR hun hdep K hK
              have HR := Lib.hid hR
              have hB := HR.out
              have t0 : W.cell? ⟨w.heap.size, 0, none⟩ = some (.slice (some ⟨b1, o1, none⟩) vs.length c) := (hB.cell (p := ⟨w.heap.size, 0, none⟩) Lw.out).trans T0.out
              have a0 : W.cell? ⟨b1, o1 + i * 2, none⟩ = some (.string ⟨x.1.toArray⟩) := (hB.cell (p := ⟨b1, o1 + i * 2, none⟩) L1.out).trans C0.out
              have a1 : W.cell? ⟨b1, o1 + i * 2 + 1, none⟩ = some (.string ⟨x.2.toArray⟩) := (hB.cell (p := ⟨b1, o1 + i * 2 + 1, none⟩) L1.out).trans C1.out
              have d0 : W.cell? ⟨b1, o1 + k * 2, none⟩ = some (.string ⟨y.1.toArray⟩) := (hB.cell (p := ⟨b1, o1 + k * 2, none⟩) L1.out).trans D0.out
              have d1 : W.cell? ⟨b1, o1 + k * 2 + 1, none⟩ = some (.string ⟨y.2.toArray⟩) := (hB.cell (p := ⟨b1, o1 + k * 2 + 1, none⟩) L1.out).trans D1.out
              clear hun hdep hR
              first | (simp [Region.binds] at hpre; done) | simp [Region.binds] at hpre | clear hpre
            iterate 10
              · go_simp
                first | exact hK _ _ _ rfl trivial HR.out rfl | exact hK _ _ _ rfl trivial HR.out (by simp [Act.put, hpre]) | exact hK undef _ _ trivial trivial HR.out (by simp [Act.put, hpre]) | exact hK _ _ _ trivial trivial HR.out rfl | exact hK _ _ _ trivial trivial HR.out (by simp [Act.put, hpre])
            · go_simp
              refine (Hrd.out W).mono ?_
              rintro e w5 ⟨rfl, hb5⟩
              exact hK _ _ _ rfl trivial (hB.trans (hb5.mono hB.size)) (by simp [Act.put, hpre])
            · go_simp
              first | exact hK _ _ _ rfl trivial HR.out rfl | exact hK _ _ _ rfl trivial HR.out (by simp [Act.put, hpre]) | exact hK undef _ _ trivial trivial HR.out (by simp [Act.put, hpre]) | exact hK _ _ _ trivial trivial HR.out rfl | exact hK _ _ _ trivial trivial HR.out (by simp [Act.put, hpre])
          · rintro L U W hL hφ hR
            have e11 : U 11 = .bool (!r) := hφ 11 (by decide)
            simp only [e11]
            clear hφ
            have Hbw := Lib.hid (hb'.out.trans (hR.mono hb'.out.size))
            have hz2 : w.heap.size < W.heap.size := Nat.lt_of_lt_of_le hsz' hR.size
            have T2 := Lib.hid ((hR.cell (p := ⟨w.heap.size, 0, none⟩) Lw.out).trans T0.out)
            clear hL hR
            cases r with
            | false =>
              have Hno := Lib.hid (regOk_no hlt hkl Hrx.out)
              go_wp2_with fail
              go_ret
              exact ⟨by rw [Hno.out]; rfl, Hbw.out⟩
            | true =>
              have Hall := Lib.hid (show ∀ k', k' < k + 1 → rdV (verAt vs i) (verAt vs k') = true from fun k' hk' => by
                rcases Nat.lt_or_ge k' k with h | h
                · exact hkin.out k' h
                · obtain rfl : k' = k := by omega
                  exact Hrx.out)
              go_wp2_with fail
              go_roundw
              case rel => exact ⟨k + 1, by go_num, by omega, Hall.out, Hbw.out, hz2, T2.out⟩
              case measure => simp [intOf]; omega
        · have k2 : ¬ (k : Int) ≤ (i : Int) := by omega
          have Hall := Lib.hid (show ∀ i', i' < i + 1 → ∀ k', k' ≤ i' → rdV (verAt vs i') (verAt vs k') = true from fun i' hi' k' hk' => by
            rcases Nat.lt_or_ge i' i with h | h
            · exact hin.out i' h k' hk'
            · obtain rfl : i' = i := by omega
              exact hkin.out k' (by omega))
          have Hc' := Lib.hid hc0'
          clear hc0'
          go_wp2_with fail
          go_roundw
          case rel => exact ⟨i + 1, by go_num, by omega, Hall.out, hb'.out, hsz', Hc'.out⟩
          case measure => simp [intOf]; omega
    · obtain rfl : i = vs.length := by omega
      have Hfin := Lib.hid (show regOk vs = decide (vs.length ≤ 5) from by
        by_cases h5 : vs.length ≤ 5
        · rw [decide_eq_true h5]; exact regOk_iff.2 ⟨h5, hin.out⟩
        · rw [decide_eq_false h5, Bool.eq_false_iff]; exact fun h => h5 (regOk_iff.1 h).1)
      by_cases h5 : vs.length ≤ 5
      · have h5i : (vs.length : Int) ≤ 5 := by omega
        have Hf2 := Lib.hid (Hfin.out.trans (decide_eq_true h5))
        go_wp2_with fail
        go_ret
        exact ⟨by rw [Hf2.out]; rfl, hb.out⟩
      · have h5i : ¬ (vs.length : Int) ≤ 5 := by omega
        have Hf2 := Lib.hid (Hfin.out.trans (decide_eq_false h5))
        go_wp2_with fail
        go_ret
        exact ⟨by rw [Hf2.out]; rfl, hb.out⟩
end Go.Proofs.YtcjfgbcdlcdeaaaGreatDoor
/- The drawn registry: a row of up to three versions of bounded length. -/
namespace Go.Proofs.YtcjfgbcdlcdeaaaGreatDoor
open Go.RowKit
set_option maxRecDepth 100000
set_option linter.unusedVariables false
set_option linter.unusedSimpArgs false
attribute [local go_sem] ba_get ba_toList ba_extract take_drop_all ByteArray.mk_append_mk

/-- The registry under way: the reader, the result's cell, the registry's cell and its row of versions. -/
structure RgSt (g Br Bg : Nat) (W0 W : World) (vs : List Ver) (v r : Value) (q : Nat) : Prop where
  rdr : Rdr W g q
  grown : W0.grownBy W (some g)
  res : W.cell? ⟨Br, 0, none⟩ = some (.slice none 0 0)
  resf : W.frozen? ⟨Br, 0, none⟩ = false
  reg : W.cell? ⟨Bg, 0, none⟩ = some r
  regf : W.frozen? ⟨Bg, 0, none⟩ = false
  row : W.ownsRow (Br + 1) 35 2 v vs.length (vs.flatMap verc)
  off : v.ownBlock ≠ some Bg
  lt : g < Br ∧ Br < Bg ∧ Bg < W.heap.size ∧ W0.heap.size ≤ Br
theorem cell_gr {W W' : World} {b o : Nat} {r : Option Nat} (hb : b < W.heap.size) (hg : W.grownBy W' r) (hne : some b ≠ r) : W'.cell? ⟨b, o, none⟩ = W.cell? ⟨b, o, none⟩ ∧ W'.frozen? ⟨b, o, none⟩ = W.frozen? ⟨b, o, none⟩ :=
  ⟨World.cell?_of_block (a := ⟨b, o, none⟩) (hg.block b hb hne), World.frozen?_of_block (a := ⟨b, o, none⟩) (hg.block b hb hne)⟩
theorem RgSt.turn {g Br Bg : Nat} {W0 W W' : World} {vs : List Ver} {v r : Value} {q q' : Nat} (h : RgSt g Br Bg W0 W vs v r q) (hg : W.grownBy W' (some g)) (hR : Rdr W' g q') : RgSt g Br Bg W0 W' vs v r q' := by
  obtain ⟨l1, l2, l3, l4⟩ := h.lt
  have hz := hg.size
  obtain ⟨a1, a2⟩ := cell_gr (b := Br) (o := 0) (by omega) hg (fun e => by injection e with e; omega)
  obtain ⟨b1, b2⟩ := cell_gr (b := Bg) (o := 0) (by omega) hg (fun e => by injection e with e; omega)
  exact ⟨hR, dgrown_trans h.grown hg, a1.trans h.res, a2.trans h.resf, b1.trans h.reg, b2.trans h.regf, h.row.kept hg (.inr fun e => by have := (h.row.lt _ e).1; omega), h.off, ⟨l1, l2, by omega, l4⟩⟩
theorem RgSt.below {g Br Bg : Nat} {W0 W W' : World} {vs : List Ver} {v r : Value} {q : Nat} (h : RgSt g Br Bg W0 W vs v r q) (hb : Below W.heap.size W W') : RgSt g Br Bg W0 W' vs v r q :=
  h.turn (dgrown_below hb _) (h.rdr.below hb)
theorem RgSt.app {g Br Bg : Nat} {W0 W7 w5 : World} {vs : List Ver} {v v5 r : Value} {q : Nat} {x : Ver} (h : RgSt g Br Bg W0 W7 vs v r q)
    (hown : w5.ownsRow (Br + 1) 35 2 v5 (vs.length + 1) (vs.flatMap verc ++ verc x)) (hg : W7.grownBy w5 v.ownBlock) (hw : v5.ownBlock = v.ownBlock ∨ ∃ k, v5.ownBlock = some k ∧ W7.heap.size ≤ k) : RgSt g Br Bg W0 w5 (vs ++ [x]) v5 r q := by
  obtain ⟨l1, l2, l3, l4⟩ := h.lt
  have hz := hg.size
  have hv : ∀ k, v.ownBlock = some k → Br + 1 ≤ k ∧ k ≠ Bg := fun k hk => ⟨(h.row.lt k hk).1, fun e => h.off (by rw [hk, e])⟩
  have hgb : Below (Br + 1) W7 w5 := (Below.refl _ _).grown hg (by omega) (fun k hk => (hv k hk).1)
  obtain ⟨a1, a2⟩ := cell_gr (b := Br) (o := 0) (by omega) hg (fun e => by have := (hv Br e.symm).1; omega)
  obtain ⟨b1, b2⟩ := cell_gr (b := Bg) (o := 0) (by omega) hg (fun e => (hv Bg e.symm).2 rfl)
  refine ⟨h.rdr.belowg (hgb.mono (by omega)) hz, ⟨hg.os.trans h.grown.os, hg.tape.trans h.grown.tape, hg.output.trans h.grown.output, Nat.le_trans h.grown.size hz, fun i hi hne => (hg.block i (Nat.lt_of_lt_of_le hi h.grown.size) (fun e => by have := (hv i e.symm).1; omega)).trans (h.grown.block i hi hne)⟩, a1.trans h.res, a2.trans h.resf, b1.trans h.reg, b2.trans h.regf, ?_, ?_, ⟨l1, l2, by omega, l4⟩⟩
  · rw [List.length_append, List.flatMap_append]
    have e : [x].flatMap verc = verc x := by simp
    rw [e]
    exact hown
  · rcases hw with hw | ⟨k, hk, hk2⟩
    · rw [hw]; exact h.off
    · rw [hk]; intro e; injection e with e; omega
theorem RgSt.store {g Br Bg : Nat} {W0 W : World} {vs : List Ver} {v r : Value} {q : Nat} (h : RgSt g Br Bg W0 W vs v r q) : RgSt g Br Bg W0 (W.setCell ⟨Bg, 0, none⟩ v) vs v v q := by
  obtain ⟨l1, l2, l3, l4⟩ := h.lt
  have hg := grown_set W ⟨Bg, 0, none⟩ v
  obtain ⟨a1, a2⟩ := cell_gr (b := Br) (o := 0) (by omega) hg (fun e => by injection e with e; simp at e; omega)
  refine ⟨h.rdr.belowg (((Below.refl _ _).setCell (show g + 1 ≤ Bg by omega) _)) (by simp), ⟨h.grown.os, h.grown.tape, h.grown.output, by simp; exact h.grown.size, fun i hi hne => (hg.block i (Nat.lt_of_lt_of_le hi h.grown.size) (fun e => by injection e with e; simp at e; omega)).trans (h.grown.block i hi hne)⟩, a1.trans h.res, a2.trans h.resf, ?_, ?_, h.row.kept hg (.inr h.off), h.off, ⟨l1, l2, by simpa using l3, l4⟩⟩
  · exact World.cell?_setCell_same _ _ _ (by rw [h.reg])
  · simpa using h.regf
theorem vrow_own {base : Nat} {W : World} {vs : List Ver} {v : Value} (hrow : W.ownsRow base 35 2 v vs.length (vs.flatMap verc)) (hn : vs.length ≤ 1000) : VRow W v vs := by
  rcases hrow.2 with ⟨rfl, h0⟩ | ⟨b, cap, cur, rfl, hb, hh, hnc, hcm, hsz, ht⟩
  · rw [List.eq_nil_of_length_eq_zero h0]
    exact ⟨none, 0, rfl, Nat.le_refl _, Nat.zero_le _, fun h => by simp at h⟩
  · refine ⟨_, cap, rfl, hnc, by unfold maxLen; omega, fun _ => ⟨b, 0, rfl, (hrow.lt b rfl).2, fun j u hu => ?_⟩⟩
    have := hrow.cells (g := b) rfl j u hu
    rw [addr0] at this
    simpa using this
theorem own_some {base k n : Nat} {e : TypeId} {W : World} {v : Value} {xs : List Value} (h : W.ownsRow base e k v n xs) (hn : 0 < n) : ∃ b c, v = .slice (some ⟨b, 0, none⟩) n c := by
  rcases h.2 with ⟨_, h0⟩ | ⟨b, cap, cur, rfl, _⟩
  · omega
  · exact ⟨b, cap, rfl⟩
theorem RgSt.vrow {g Br Bg : Nat} {W0 W : World} {vs : List Ver} {v r : Value} {q : Nat} (h : RgSt g Br Bg W0 W vs v r q) (hn : vs.length ≤ 1000) : VRow W v vs := vrow_own h.row hn
theorem RgSt.fin {g Br Bg : Nat} {W0 W : World} {vs : List Ver} {v r : Value} {q : Nat} (h : RgSt g Br Bg W0 W vs v r q) (hn : vs.length ≤ 1000) (u : Value) : VRow (W.setCell ⟨Br, 0, none⟩ u) v vs ∧ Rdr (W.setCell ⟨Br, 0, none⟩ u) g q ∧ W0.grownBy (W.setCell ⟨Br, 0, none⟩ u) (some g) := by
  obtain ⟨l1, l2, l3, l4⟩ := h.lt
  have hg := grown_set W ⟨Br, 0, none⟩ u
  refine ⟨vrow_own (h.row.kept hg (.inr fun e => by have := (h.row.lt _ e).1; simp at this; omega)) hn, h.rdr.belowg (((Below.refl _ _).setCell (show g + 1 ≤ Br by omega) _)) (by simp), ⟨h.grown.os, h.grown.tape, h.grown.output, by simp; exact h.grown.size, fun i hi hne => (hg.block i (Nat.lt_of_lt_of_le hi h.grown.size) (fun e => by injection e with e; simp at e; omega)).trans (h.grown.block i hi hne)⟩⟩
theorem RgSt.drop {g Br Bg : Nat} {W0 W : World} {vs : List Ver} {A : Option Addr} {n c : Nat} {r : Value} {q : Nat} (h : RgSt g Br Bg W0 W vs (.slice A n c) r q) (hp : 0 < vs.length) : RgSt g Br Bg W0 W vs.dropLast (.slice A (vs.length - 1) c) r q := by
  obtain ⟨h1, h2, h3, h4, h5, h6, h7, h8, h9⟩ := h
  have hb : (Value.slice A (vs.length - 1) c).ownBlock = (Value.slice A n c).ownBlock := by cases A <;> rfl
  refine ⟨h1, h2, h3, h4, h5, h6, ?_, by rw [hb]; exact h8, h9⟩
  obtain ⟨e0, ⟨e1, e2⟩ | ⟨b, cap, cur, e1, e2, e3, e4, e5, e6, e7⟩⟩ := h7
  · omega
  · injection e1 with e8 e9 e10
    subst e8 e9 e10
    refine ⟨by simp [flatMap_len verc_len], .inr ⟨b, c, cur, by simp, e2, e3, by simp; omega, e5, e6, ?_⟩⟩
    have : cur.toList.take (vs.dropLast.length * 2) = (vs.flatMap verc).take (vs.dropLast.length * 2) := by
      rw [← e7, List.take_take]
      congr 1
      simp
    rw [this]
    obtain ⟨us, x, rfl⟩ : ∃ us x, vs = us ++ [x] := ⟨vs.dropLast, vs.getLast (by intro e; rw [e] at hp; simp at hp), (List.dropLast_concat_getLast _).symm⟩
    rw [List.dropLast_concat, List.flatMap_append, List.take_append_of_le_length (by simp [flatMap_len verc_len])]
    exact List.take_of_length_le (by rw [flatMap_len verc_len]; omega)
theorem RgSt.get {g Br Bg : Nat} {W0 W : World} {vs : List Ver} {A : Option Addr} {n c : Nat} {r : Value} {q : Nat} (h : RgSt g Br Bg W0 W vs (.slice A n c) r q) (hn : vs.length ≤ 1000) {i : Nat} (hi : i < vs.length) :
    ∃ b, A = some ⟨b, 0, none⟩ ∧ n = vs.length ∧ b < W.heap.size ∧ W.cell? ⟨b, i * 2, none⟩ = some (.string ⟨vs[i].1.toArray⟩) ∧ W.cell? ⟨b, i * 2 + 1, none⟩ = some (.string ⟨vs[i].2.toArray⟩) := by
  have hrow := h.row
  rcases hrow.2 with ⟨e, h0⟩ | ⟨b, cap, cur, e, _⟩
  · omega
  · obtain ⟨A2, c2, e2, _, _, hc⟩ := h.vrow hn
    injection e with e3 e4 e5
    subst e3 e4 e5
    injection e2 with e6 e7 e8
    obtain ⟨b', o', e9, hb, x0, x1⟩ := VRow.at_ (e6 ▸ hc) hi
    injection e9 with e9
    injection e9 with e10 e11
    subst e10 e11
    exact ⟨b, rfl, rfl, hb, by simpa using x0, by simpa using x1⟩

theorem ShortV.drop {vs : List Ver} (h : ∀ x ∈ vs, x.1.length ≤ 100000 ∧ x.2.length ≤ 15) : ∀ x ∈ vs.dropLast, x.1.length ≤ 100000 ∧ x.2.length ≤ 15 := fun x hx => h x (List.dropLast_subset _ hx)
def ShortV (vs : List Ver) : Prop := ∀ x ∈ vs, x.1.length ≤ 100000 ∧ x.2.length ≤ 15
def RegPost (w : World) (g p : Nat) (e : Ending) (w' : World) : Prop := ∃ (vs : List Ver) (v : Value) (q : Nat), e = .returned (.agg #[v]) ∧ VRow w' v vs ∧ (∃ gb cc, v = .slice (some ⟨gb, 0, none⟩) vs.length cc ∧ w.heap.size < gb) ∧ ShortV vs ∧ 1 ≤ vs.length ∧ vs.length ≤ 3 ∧ q ≤ p + 3010 ∧ Rdr w' g q ∧ w.grownBy w' (some g)
set_option maxHeartbeats 4000000 in
theorem l91Registry_any (g p : Nat) (w : World) (h : Rdr w g p) (hp : p ≤ 50000) :
    Calls Tryz.prog 54 #[.pointer (some ⟨g, 0, none⟩)] w (RegPost w g p) := by
  have hgl := h.lt
  have HR := Lib.hid h
  clear h
  go_enter Tryz.func54, Tryz.ntmps54
  go_wp2_with fail
  refine (l91Older_any g p _ (HR.out.below ((Below.refl _ _).alloc (Nat.le_refl _) _)) (by omega)).mono ?_
  rintro e w1 ⟨a, b, c', d, q1, rfl, ha, hb, hc', hd, hq1, hR1, hg1⟩
  have hz1 : w.heap.size < w1.heap.size := by have := hg1.size; simp at this; omega
  have hS0 : RgSt g w.heap.size (w1.heap.size + 1) w ((w1.alloc (.cells #[.string ⟨c'.toArray⟩, .string ⟨d.toArray⟩] 35)).alloc (.cells #[.slice (some ⟨w1.heap.size, 0, none⟩) 1 1] 31)) [(c', d)] (.slice (some ⟨w1.heap.size, 0, none⟩) 1 1) (.slice (some ⟨w1.heap.size, 0, none⟩) 1 1) q1 := by
    have hba : Below w1.heap.size w1 ((w1.alloc (.cells #[.string ⟨c'.toArray⟩, .string ⟨d.toArray⟩] 35)).alloc (.cells #[.slice (some ⟨w1.heap.size, 0, none⟩) 1 1] 31)) := ((Below.refl _ _).alloc (Nat.le_refl _) _).alloc (by simp) _
    obtain ⟨a1, a2⟩ := cell_gr (b := w.heap.size) (o := 0) (by simp) hg1 (fun e => by injection e with e; omega)
    obtain ⟨hc, hf, _⟩ := bcell hba
    refine ⟨hR1.below hba, dgrown_trans (dgrown_trans (dgrown_below ((Below.refl _ _).alloc (Nat.le_refl _) _) _) hg1) (dgrown_below hba _), ?_, ?_, ?_, ?_, ?_, ?_, ⟨hgl, by omega, by simp, Nat.le_refl _⟩⟩
    · rw [hc _ _ hz1, a1]; simp [go_sem]
    · rw [hf _ _ hz1, a2]; simp [go_sem]
    · have e := World.cell?_alloc_new (w := w1.alloc (.cells #[.string ⟨c'.toArray⟩, .string ⟨d.toArray⟩] 35)) #[.slice (some ⟨w1.heap.size, 0, none⟩) 1 1] 31 0
      rw [World.size_alloc] at e
      exact e.trans rfl
    · have e := World.frozen?_alloc_new (w := w1.alloc (.cells #[.string ⟨c'.toArray⟩, .string ⟨d.toArray⟩] 35)) #[.slice (some ⟨w1.heap.size, 0, none⟩) 1 1] 31 0
      rw [World.size_alloc] at e
      exact e
    · refine ⟨by simp [verc], .inr ⟨w1.heap.size, 1, #[.string ⟨c'.toArray⟩, .string ⟨d.toArray⟩], rfl, by omega, ?_, by simp, by unfold maxLen; omega, rfl, by simp [verc]⟩⟩
      exact (((Below.refl (w1.alloc (.cells #[.string ⟨c'.toArray⟩, .string ⟨d.toArray⟩] 35)).heap.size _).alloc (Nat.le_refl _) _).block w1.heap.size (by simp)).trans Array.getElem?_push_size
    · simp [Value.ownBlock]
  have HS0 := Lib.hid hS0
  have hgl1 := hR1.lt
  clear hR1 hg1 HR hS0
  go_wp2_with fail
  refine (pick_any g q1 3 _ HS0.out.rdr (by omega) (by omega) (by omega)).mono ?_
  rintro e w4 ⟨x4, rfl, hx1, _, hR4, hg4⟩
  have HS4 := Lib.hid (HS0.out.turn hg4 hR4)
  have r4 : w4.cell? ⟨w1.heap.size + 1, 0, none⟩ = some (.slice (some ⟨w1.heap.size, 0, none⟩) 1 1) := HS4.out.reg
  have l4 : w1.heap.size + 1 < w4.heap.size := HS4.out.lt.2.2.1
  clear hR4 hg4 hx1 HS0
  go_upto_if 22 with fail
  generalize decide (0 < x4) = bb
  go_cut [] from 23 to 30 (fun wx => ∃ (vs : List Ver) (gb nn cc q6 : Nat), Hid (nn = vs.length) ∧ 1 ≤ nn ∧ nn ≤ 2 ∧ q6 ≤ p + 3001 ∧ Hid (ShortV vs) ∧ Hid (RgSt g w.heap.size (w1.heap.size + 1) w wx vs (.slice (some ⟨gb, 0, none⟩) nn cc) (.slice (some ⟨gb, 0, none⟩) nn cc) q6))
  case first =>
    cases bb with
    | false =>
      go_wp2_with fail
      go_meet
      exact ⟨[(c', d)], w1.heap.size, 1, 1, q1 + 1, rfl, by omega, by omega, by omega, fun x hx => by simp at hx; subst hx; exact ⟨by show c'.length ≤ 100000; omega, hd⟩, HS4.out⟩
    | true =>
      go_wp2_with (at_builtin; go_loud (refine wpList_appKW w4 rfl (.tmp 24) (.tmp 28) 29 rfl (w.heap.size + 1) 35 (.agg #[.string ⟨#[]⟩, .string ⟨#[]⟩]) 2 32 Tryz.underlying29 Tryz.infoVer rfl (by decide) [.string ⟨a.toArray⟩, .string ⟨b.toArray⟩] rfl (by intro y hy; simp at hy; rcases hy with rfl | rfl <;> rfl) (.slice (some ⟨w1.heap.size, 0, none⟩) 1 1) 1 (verc (c', d)) rfl rfl HS4.out.row (by unfold maxLen; omega) (by omega) (by have := HS4.out.lt; omega) ?_); intro v5 w5 hown5 hg5 hwh5; obtain ⟨gb5, c5, e5⟩ := own_some hown5 (by omega); subst e5; have HA := Lib.hid (RgSt.app (x := (a, b)) HS4.out hown5 hg5 hwh5); have f5 : w5.frozen? ⟨w1.heap.size + 1, 0, none⟩ = false := HA.out.regf; have p5 : w5.cell? ⟨w1.heap.size + 1, 0, none⟩ = some (.slice (some ⟨w1.heap.size, 0, none⟩) 1 1) := HA.out.reg; clear hown5 hg5 hwh5)
      go_meet
      exact ⟨[(c', d), (a, b)], gb5, 2, c5, q1 + 1, rfl, by omega, by omega, by omega, fun x hx => by simp at hx; rcases hx with rfl | rfl; exact ⟨by show c'.length ≤ 100000; omega, hd⟩; exact ⟨ha, hb⟩, HA.out.store⟩
  case rest =>
    obtain ⟨w6, rfl⟩ : ∃ w6 : World, w6 = wc := ⟨_, rfl⟩
    obtain ⟨vs, gb, nn, cc, q6, hnn, hn1, hn2, hq6, Hsv, HS6⟩ := hcut
    clear HS4 r4 l4
    go_wp2_with fail
    refine (pick_any g q6 3 _ HS6.out.rdr (by omega) (by omega) (by omega)).mono ?_
    rintro e w7 ⟨x7, rfl, hx1, _, hR7, hg7⟩
    have HS := Lib.hid (HS6.out.turn hg7 hR7)
    clear hR7 hg7 hx1 HS6
    obtain ⟨q7, hq7⟩ : ∃ q7, q7 = q6 + 1 := ⟨_, rfl⟩
    rw [← hq7] at HS
    go_upto_if 33 with fail
    generalize ((x7 : Int) == 0) = b7
    go_cut [] from 34 to 46 (fun wx => ∃ (vs : List Ver) (gb nn cc : Nat), Hid (nn = vs.length) ∧ 1 ≤ nn ∧ nn ≤ 3 ∧ Hid (ShortV vs) ∧ Hid (RgSt g w.heap.size (w1.heap.size + 1) w wx vs (.slice (some ⟨gb, 0, none⟩) nn cc) (.slice (some ⟨gb, 0, none⟩) nn cc) q7))
    case first =>
      cases b7 with
      | false =>
        go_wp2_with fail
        go_meet
        exact ⟨vs, gb, nn, cc, hnn, hn1, by omega, Hsv.out, HS.out⟩
      | true =>
        go_upto_region 6 with fail
        obtain ⟨x, hx⟩ : ∃ x : Ver, vs[nn - 1]'(by have := hnn.out; omega) = x := ⟨_, rfl⟩
        have hxm : x ∈ vs := by rw [← hx]; exact List.getElem_mem _
        have Hxs := Lib.hid (Hsv.out x hxm)
        have hx := Lib.hid hx
        clear hxm
        refine wp_region_slots3 [34, 35, 36, 37, 38, 39, 40, 41, 42, 43, 44, 45, 46, 999] (by kernel_rfl) (by kernel_rfl) (by kernel_rfl) (fun u => by dsimp only [frameOf, setMany, List.set, Nat.zero_add, Nat.reduceAdd])
          (fun ix v W => match ix with | 0 => v = .pointer (some ⟨w1.heap.size + 1, 0, none⟩) | 1 => v = .slice (some ⟨gb, 0, none⟩) nn cc | 2 => v = .pointer (some ⟨w1.heap.size + 1, 0, none⟩) | 3 => v = .slice (some ⟨gb, 0, none⟩) nn cc | 4 => v = .pointer (some ⟨w1.heap.size + 1, 0, none⟩) | 5 => v = .slice (some ⟨gb, 0, none⟩) nn cc | 6 => v = .int .i64 (nn : Int) | 7 => v = .int .i64 ((nn : Int) - 1) | 8 => v = .pointer (some ⟨gb, (nn - 1) * 2, none⟩) | 9 => v = .agg #[.string ⟨x.1.toArray⟩, .string ⟨x.2.toArray⟩] | 10 => ∃ b, v = .slice (some ⟨b, 0, none⟩) 1 1 | 11 => ∃ A n c, v = .slice A n c | 12 => v = .pointer (some ⟨w1.heap.size + 1, 0, none⟩) | 13 => v = undef | _ => True)
          (fun L U W => (L 13 = false → W.cell? ⟨w1.heap.size + 1, 0, none⟩ = some (.slice (some ⟨gb, 0, none⟩) nn cc)) ∧ (L 10 = false → RgSt g w.heap.size (w1.heap.size + 1) w W vs (.slice (some ⟨gb, 0, none⟩) nn cc) (.slice (some ⟨gb, 0, none⟩) nn cc) q7) ∧ (L 10 = true → L 11 = false → ∃ W7, W = W7.alloc (.cells (verc x).toArray 35) ∧ U 10 = .slice (some ⟨W7.heap.size, 0, none⟩) 1 1 ∧ RgSt g w.heap.size (w1.heap.size + 1) w W7 vs (.slice (some ⟨gb, 0, none⟩) nn cc) (.slice (some ⟨gb, 0, none⟩) nn cc) q7) ∧ (L 11 = true → L 13 = false → L 10 = true ∧ RgSt g w.heap.size (w1.heap.size + 1) w W (vs ++ [x]) (U 11) (.slice (some ⟨gb, 0, none⟩) nn cc) q7) ∧ (L 13 = true → ∃ v2, RgSt g w.heap.size (w1.heap.size + 1) w W (vs ++ [x]) v2 v2 q7)) (fun _ _ => True) (fun _ _ _ _ _ h => h) (⟨fun _ => HS.out.reg, fun _ => HS.out.below (Below.refl _ _).drew, fun h => Bool.noConfusion h, fun h => Bool.noConfusion h, fun h => Bool.noConfusion h⟩) ?_ ?_
        · repeat (first | exact Steps.nil | (refine Steps.cons ?_ ?_; rotate_left))
          all_goals
            rintro L U W hL hpre hR hun hdep K hK
            have HR := Lib.hid hR
            obtain ⟨R0, R1, R2, R3, R4⟩ := HR.out
            have Hdep := Lib.hid hdep
            clear hun hdep hR
            first | (simp [Region.binds] at hpre; done) | simp [Region.binds] at hpre | clear hpre
          · go_simp
            first | exact hK _ _ _ rfl trivial HR.out rfl | exact hK _ _ _ rfl trivial HR.out (by simp [Act.put, hpre]) | exact hK undef _ _ trivial trivial HR.out (by simp [Act.put, hpre]) | exact hK _ _ _ trivial trivial HR.out rfl | exact hK _ _ _ trivial trivial HR.out (by simp [Act.put, hpre])
          · have h11 : L 11 = false := Hdep.out 11 _ rfl { on := 1, ground := Ground.data } (by simp) (by rfl) hL
            have h13 : L 13 = false := Hdep.out 13 _ rfl { on := 11, ground := Ground.data } (by simp) (by rfl) h11
            have a13 := R0 h13
            go_simp
            first | exact hK _ _ _ rfl trivial HR.out rfl | exact hK _ _ _ rfl trivial HR.out (by simp [Act.put, hpre])
          · go_simp
            first | exact hK _ _ _ rfl trivial HR.out rfl | exact hK _ _ _ rfl trivial HR.out (by simp [Act.put, hpre]) | exact hK undef _ _ trivial trivial HR.out (by simp [Act.put, hpre]) | exact hK _ _ _ trivial trivial HR.out rfl | exact hK _ _ _ trivial trivial HR.out (by simp [Act.put, hpre])
          · have h8 : L 8 = false := Hdep.out 8 _ rfl { on := 3, ground := Ground.data } (by simp) (by rfl) hL
            have h9 : L 9 = false := Hdep.out 9 _ rfl { on := 8, ground := Ground.data } (by simp) (by rfl) h8
            have h10 : L 10 = false := Hdep.out 10 _ rfl { on := 9, ground := Ground.data } (by simp) (by rfl) h9
            have h11 : L 11 = false := Hdep.out 11 _ rfl { on := 10, ground := Ground.data } (by simp) (by rfl) h10
            have h13 : L 13 = false := Hdep.out 13 _ rfl { on := 11, ground := Ground.data } (by simp) (by rfl) h11
            have a13 := R0 h13
            go_simp
            first | exact hK _ _ _ rfl trivial HR.out rfl | exact hK _ _ _ rfl trivial HR.out (by simp [Act.put, hpre])
          · go_simp
            first | exact hK _ _ _ rfl trivial HR.out rfl | exact hK _ _ _ rfl trivial HR.out (by simp [Act.put, hpre]) | exact hK undef _ _ trivial trivial HR.out (by simp [Act.put, hpre]) | exact hK _ _ _ trivial trivial HR.out rfl | exact hK _ _ _ trivial trivial HR.out (by simp [Act.put, hpre])
          · have h6 : L 6 = false := Hdep.out 6 _ rfl { on := 5, ground := Ground.data } (by simp) (by rfl) hL
            have h7 : L 7 = false := Hdep.out 7 _ rfl { on := 6, ground := Ground.data } (by simp) (by rfl) h6
            have h8 : L 8 = false := Hdep.out 8 _ rfl { on := 7, ground := Ground.data } (by simp) (by rfl) h7
            have h9 : L 9 = false := Hdep.out 9 _ rfl { on := 8, ground := Ground.data } (by simp) (by rfl) h8
            have h10 : L 10 = false := Hdep.out 10 _ rfl { on := 9, ground := Ground.data } (by simp) (by rfl) h9
            have h11 : L 11 = false := Hdep.out 11 _ rfl { on := 10, ground := Ground.data } (by simp) (by rfl) h10
            have h13 : L 13 = false := Hdep.out 13 _ rfl { on := 11, ground := Ground.data } (by simp) (by rfl) h11
            have a13 := R0 h13
            go_simp
            first | exact hK _ _ _ rfl trivial HR.out rfl | exact hK _ _ _ rfl trivial HR.out (by simp [Act.put, hpre])
          · go_simp
            first | exact hK _ _ _ rfl trivial HR.out rfl | exact hK _ _ _ rfl trivial HR.out (by simp [Act.put, hpre]) | exact hK undef _ _ trivial trivial HR.out (by simp [Act.put, hpre]) | exact hK _ _ _ trivial trivial HR.out rfl | exact hK _ _ _ trivial trivial HR.out (by simp [Act.put, hpre])
          · have wn : IntKind.i64.wrap ((nn : Int) - 1) = (nn : Int) - 1 := IntWalk.i64_in _ (by omega)
            go_simp
            exact hK (.int .i64 ((nn : Int) - 1)) _ _ rfl trivial HR.out (by simp [Act.put, hpre, wn])
          · have u3 : U 3 = .slice (some ⟨gb, 0, none⟩) nn cc := by
              first | exact hpre.1.2 | exact hpre.2.2 | exact hpre.2.1.2
            have u7 : U 7 = .int .i64 ((nn : Int) - 1) := by
              first | exact hpre.2.2 | exact hpre.1.2 | exact hpre.2.1.2 | exact hpre.2
            have t1 : ((nn : Int) - 1) = ((nn - 1 : Nat) : Int) := by omega
            rw [t1] at u7
            have t2 : ((nn - 1 : Nat) : Int) < (nn : Int) := by omega
            have t3 : (0 : Int) ≤ ((nn - 1 : Nat) : Int) := by omega
            go_simp
            exact hK (.pointer (some ⟨gb, (nn - 1) * 2, none⟩)) _ _ rfl trivial HR.out (by simp [Act.put, u3, u7])
          · have h10 : L 10 = false := Hdep.out 10 _ rfl { on := 9, ground := Ground.data } (by simp) (by rfl) hL
            have hS := R1 h10
            obtain ⟨b9, e9, e8, _, c0, c1⟩ := hS.get (by have := hnn.out; omega) (show nn - 1 < vs.length by have := hnn.out; omega)
            injection e9 with e9
            injection e9 with e9
            subst e9
            rw [hx.out] at c0 c1
            clear e8 hS
            go_simp
            first | exact hK _ _ _ rfl trivial HR.out rfl | exact hK _ _ _ rfl trivial HR.out (by simp [Act.put, hpre])
          · have h11 : L 11 = false := Hdep.out 11 _ rfl { on := 10, ground := Ground.data } (by simp) (by rfl) hL
            have h13 : L 13 = false := Hdep.out 13 _ rfl { on := 11, ground := Ground.data } (by simp) (by rfl) h11
            have hS := R1 hL
            have u9 : U 9 = .agg #[.string ⟨x.1.toArray⟩, .string ⟨x.2.toArray⟩] := by
              first | exact hpre.2 | exact hpre.1.2 | exact hpre.2.2
            have hba : Below W.heap.size W (W.alloc (.cells (verc x).toArray 35)) := (Below.refl _ _).alloc (Nat.le_refl _) _
            go_simp
            exact hK _ _ _ ⟨W.heap.size, rfl⟩ trivial ⟨fun h => (hS.below hba).reg, fun h => by simp at h, fun _ _ => ⟨W, rfl, rfl, hS⟩, fun h => absurd (h11.symm.trans (by simpa using h)) (by decide), fun h => absurd (h13.symm.trans (by simpa using h)) (by decide)⟩ (by simp [Act.put, u9])
          · obtain ⟨lv, uv⟩ : L 1 = true ∧ U 1 = .slice (some ⟨gb, 0, none⟩) nn cc := by
              first | exact hpre.1 | exact hpre.2.1 | exact hpre.2.2 | exact hpre.2.2.1
            obtain ⟨ls, bs, us⟩ : L 10 = true ∧ ∃ b, U 10 = .slice (some ⟨b, 0, none⟩) 1 1 := by
              first | exact hpre.2 | exact hpre.2.1 | exact hpre.1 | exact hpre.2.2 | exact hpre.2.2.1
            have h13 : L 13 = false := Hdep.out 13 _ rfl { on := 11, ground := Ground.data } (by simp) (by rfl) hL
            obtain ⟨W7, rfl, u7, o5⟩ := R2 ls hL
            rw [if_pos (by rfl)]
            refine wp_appKW W7 (.tmp 35) (.tmp 44) 29 rfl (w.heap.size + 1) 35 (.agg #[.string ⟨#[]⟩, .string ⟨#[]⟩]) 2 32 Tryz.underlying29 Tryz.infoVer rfl (by decide) (verc x) rfl (fun y hy => verc_one [x] y (by simpa using hy)) (.slice (some ⟨gb, 0, none⟩) nn cc) vs.length (vs.flatMap verc) uv u7 o5.row (by have := hnn.out; unfold maxLen; omega) (by have := hnn.out; omega) (by have := o5.lt; omega) ?_
            intro v' w' hown hg hwh
            obtain ⟨A5', n5', c5', rfl⟩ := own_slice hown
            have oa := o5.app (x := x) hown hg hwh
            exact hK _ _ _ ⟨A5', n5', c5', rfl⟩ trivial ⟨fun _ => oa.reg, fun h => absurd (ls.symm.trans (by simpa using h)) (by decide), fun _ h => by simp at h, fun _ _ => ⟨by simpa using ls, oa⟩, fun h => absurd (h13.symm.trans (by simpa using h)) (by decide)⟩ rfl
          · go_simp
            first | exact hK _ _ _ rfl trivial HR.out rfl | exact hK _ _ _ rfl trivial HR.out (by simp [Act.put, hpre]) | exact hK undef _ _ trivial trivial HR.out (by simp [Act.put, hpre]) | exact hK _ _ _ trivial trivial HR.out rfl | exact hK _ _ _ trivial trivial HR.out (by simp [Act.put, hpre])
          · obtain ⟨la, A5', n5', c5', ua⟩ : L 11 = true ∧ ∃ A n c, U 11 = .slice A n c := by
              first | exact ⟨hpre.1.1, hpre.1.2⟩ | exact ⟨hpre.2.1.1, hpre.2.1.2⟩ | exact ⟨hpre.2.1, hpre.2.2⟩
            obtain ⟨ls, oa⟩ := R3 la hL
            have up : U 12 = .pointer (some ⟨w1.heap.size + 1, 0, none⟩) := by
              first | exact hpre.1.2 | exact hpre.2.1.2 | exact hpre.2.2
            rw [ua] at oa
            have hcell := oa.reg
            have hfz := oa.regf
            have os := oa.store
            go_simp
            exact hK undef _ _ rfl trivial ⟨fun h => by simp at h, fun h => absurd (ls.symm.trans (by simpa using h)) (by decide), fun _ h => absurd (la.symm.trans (by simpa using h)) (by decide), fun _ h => by simp at h, fun _ => ⟨_, os⟩⟩ (by simp [Act.put, hpre, up, ua])
        · rintro L U W hL hφ hR
          clear hφ
          have h13 := hL 13 (by decide)
          obtain ⟨_, _, _, _, R4⟩ := hR
          obtain ⟨v2, os⟩ := R4 h13
          obtain ⟨gb2, c2, rfl⟩ := own_some os.row (by simp)
          clear hL R4 HS
          go_wp2_with fail
          go_meet
          exact ⟨vs ++ [x], gb2, _, c2, rfl, by simp, (by have := hnn.out; simp; omega), fun y hy => by rcases List.mem_append.1 hy with h | h; exact Hsv.out y h; simp at h; subst h; exact Hxs.out, os⟩
    case rest =>
      obtain ⟨w8, rfl⟩ : ∃ w8 : World, w8 = wc := ⟨_, rfl⟩
      obtain ⟨vs1, gb1, n1, c1, hn1', hp1, hle1, Hsv1, HS8⟩ := hcut
      clear HS Hsv hnn hn1 hn2
      go_wp2_with fail
      go_loopw [] (fun wr => ∃ (vs : List Ver) (gb nn cc q : Nat), Hid (nn = vs.length) ∧ 1 ≤ nn ∧ nn ≤ 3 ∧ q + nn ≤ q7 + 3 ∧ wr.cell? ⟨w1.heap.size + 1, 0, none⟩ = some (.slice (some ⟨gb, 0, none⟩) nn cc) ∧ Hid (ShortV vs) ∧ Hid (RgSt g w.heap.size (w1.heap.size + 1) w wr vs (.slice (some ⟨gb, 0, none⟩) nn cc) (.slice (some ⟨gb, 0, none⟩) nn cc) q)) (fun wr => match wr.cell? ⟨w1.heap.size + 1, 0, none⟩ with | some (.slice _ n _) => n | _ => 0)
      case atStart => exact ⟨vs1, gb1, n1, c1, q7, hn1', hp1, hle1, by omega, HS8.out.reg, Hsv1.out, HS8.out⟩
      case round =>
        clear HS8 Hsv1 hn1' hp1 hle1
        obtain ⟨vs, gb, nn, cc, q, hnn, hp, hle, hq, r1, Hsv, HS⟩ := hrel
        have Hr := Lib.hid (sRegOk_any _ vs wr (HS.out.vrow (by have := hnn.out; omega)) (by have := hnn.out; omega) (fun x hx => by have := Hsv.out x hx; omega))
        have hcc : nn ≤ cc := by
          obtain ⟨A2, c2, e2, h2, _⟩ := HS.out.vrow (by have := hnn.out; omega)
          injection e2 with _ _ e2
          have := hnn.out; omega
        generalize regOk vs = ro at Hr
        go_wp2_with fail
        refine Hr.out.mono ?_
        rintro e w9 ⟨rfl, hb9⟩
        have HS9 := Lib.hid (HS.out.below hb9)
        have R1 := Lib.hid r1
        have r9 : w9.cell? ⟨w1.heap.size + 1, 0, none⟩ = some (.slice (some ⟨gb, 0, none⟩) nn cc) := HS9.out.reg
        clear hb9 HS Hr r1
        cases ro with
        | true =>
          have z1 := HS9.out.res
          have z2 := HS9.out.resf
          have z3 := HS9.out.reg
          have hfin := Lib.hid (HS9.out.fin (by have := hnn.out; omega) (.slice (some ⟨gb, 0, none⟩) nn cc))
          go_wp2_with fail
          refine bodyPost_ret (v := .agg #[.slice (some ⟨gb, 0, none⟩) nn cc]) (by simp [results, Tryz.results54, go_sem, z1, z2]) rfl ?_
          exact ⟨vs, _, q, rfl, hfin.out.1, ⟨gb, cc, by rw [hnn.out], by first | (have := (HS9.out.row.lt gb rfl).1; omega) | (have := (HS10.out.row.lt gb rfl).1; omega)⟩, Hsv.out, by have := hnn.out; omega, by have := hnn.out; omega, by omega, hfin.out.2.1, hfin.out.2.2⟩
        | false =>
          by_cases hl1 : 1 < nn
          · have t1 : (1 : Int) < (nn : Int) := by omega
            go_wp2_with fail
            refine (pick_any g q 6 _ HS9.out.rdr (by omega) (by omega) (by omega)).mono ?_
            rintro e w10 ⟨x10, rfl, hx1, _, hR10, hg10⟩
            have HS10 := Lib.hid (HS9.out.turn hg10 hR10)
            have r10 : w10.cell? ⟨w1.heap.size + 1, 0, none⟩ = some (.slice (some ⟨gb, 0, none⟩) nn cc) := HS10.out.reg
            clear hR10 hg10 hx1 HS9 r9
            by_cases hx0 : x10 = 0
            · subst hx0
              have z1 := HS10.out.res
              have z2 := HS10.out.resf
              have z3 := HS10.out.reg
              have hfin := Lib.hid (HS10.out.fin (by have := hnn.out; omega) (.slice (some ⟨gb, 0, none⟩) nn cc))
              go_wp2_with fail
              refine bodyPost_ret (v := .agg #[.slice (some ⟨gb, 0, none⟩) nn cc]) (by simp [results, Tryz.results54, go_sem, z1, z2]) rfl ?_
              exact ⟨vs, _, (q + 1), rfl, hfin.out.1, ⟨gb, cc, by rw [hnn.out], by first | (have := (HS9.out.row.lt gb rfl).1; omega) | (have := (HS10.out.row.lt gb rfl).1; omega)⟩, Hsv.out, by have := hnn.out; omega, by have := hnn.out; omega, by omega, hfin.out.2.1, hfin.out.2.2⟩
            · have tx : 0 < x10 := by omega
              have f10 := HS10.out.regf
              have wn : IntKind.i64.wrap ((nn : Int) - 1) = ((nn - 1 : Nat) : Int) := by rw [IntWalk.i64_in _ (by omega)]; omega
              have n0 : (0 : Int) ≤ ((nn - 1 : Nat) : Int) := by omega
              have n1 : ((nn - 1 : Nat) : Int) ≤ (cc : Int) := by omega
              have hst := (HS10.out.drop (by have := hnn.out; omega)).store
              rw [← hnn.out] at hst
              have Hst := Lib.hid hst
              clear hst
              go_wp2_with fail
              go_roundw
              case rel => exact ⟨vs.dropLast, gb, nn - 1, cc, q + 1, (by have := hnn.out; show nn - 1 = _; simp; omega), by omega, by omega, by omega, Hst.out.reg, ShortV.drop Hsv.out, Hst.out⟩
              case measure => rw [R1.out, Hst.out.reg]; show nn - 1 < nn; omega
          · have t1 : ¬ ((1 : Int) < (nn : Int)) := by omega
            have z1 := HS9.out.res
            have z2 := HS9.out.resf
            have z3 := HS9.out.reg
            have hfin := Lib.hid (HS9.out.fin (by have := hnn.out; omega) (.slice (some ⟨gb, 0, none⟩) nn cc))
            go_wp2_with fail
            refine bodyPost_ret (v := .agg #[.slice (some ⟨gb, 0, none⟩) nn cc]) (by simp [results, Tryz.results54, go_sem, z1, z2]) rfl ?_
            exact ⟨vs, _, q, rfl, hfin.out.1, ⟨gb, cc, by rw [hnn.out], by first | (have := (HS9.out.row.lt gb rfl).1; omega) | (have := (HS10.out.row.lt gb rfl).1; omega)⟩, Hsv.out, by have := hnn.out; omega, by have := hnn.out; omega, by omega, hfin.out.2.1, hfin.out.2.2⟩
end Go.Proofs.YtcjfgbcdlcdeaaaGreatDoor
/- The drawing functions of the laws on registries. -/
namespace Go.Proofs.YtcjfgbcdlcdeaaaGreatDoor
open Go.RowKit
set_option maxRecDepth 100000
set_option linter.unusedVariables false
set_option linter.unusedSimpArgs false
attribute [local go_sem] ba_get ba_toList ba_extract take_drop_all ByteArray.mk_append_mk

theorem vrow_set {W : World} {gb n c B o : Nat} {vs : List Ver} (h : VRow W (.slice (some ⟨gb, 0, none⟩) n c) vs) (hne : gb ≠ B) (u : Value) : VRow (W.setCell ⟨B, o, none⟩ u) (.slice (some ⟨gb, 0, none⟩) n c) vs := by
  obtain ⟨A, c2, e, h1, h2, h3⟩ := h
  injection e with e1 e2 e3
  subst e1 e2 e3
  refine ⟨_, _, rfl, h1, h2, fun hp => ?_⟩
  obtain ⟨b, off, e, hb, hc⟩ := h3 hp
  injection e with e
  injection e with e4 e5
  subst e4 e5
  exact ⟨gb, 0, rfl, by simpa using hb, fun j x hx => by rw [World.cell?_setCell_other _ _ _ _ (by intro e; injection e with e; exact hne e.symm)]; exact hc j x hx⟩
theorem vrow_drop {W : World} {A : Option Addr} {n c : Nat} {vs : List Ver} (h : VRow W (.slice A n c) vs) : VRow W (.slice A (vs.length - 1) c) vs.dropLast := by
  obtain ⟨A2, c2, e, h1, h2, h3⟩ := h
  injection e with e1 e2 e3
  subst e1 e2 e3
  refine ⟨A, c, by simp, by simp; omega, by simp; omega, fun hp => ?_⟩
  have hv : 0 < vs.length := by
    rcases Nat.eq_zero_or_pos vs.length with h0 | h0
    · rw [List.eq_nil_of_length_eq_zero h0] at hp; simp at hp
    · exact h0
  obtain ⟨us, x, rfl⟩ : ∃ us x, vs = us ++ [x] := ⟨vs.dropLast, vs.getLast (by intro e; rw [e] at hv; simp at hv), (List.dropLast_concat_getLast _).symm⟩
  rw [List.dropLast_concat] at hp ⊢
  obtain ⟨b, off, e, hb, hc⟩ := h3 (by rw [flatMap_len verc_len]; simp)
  refine ⟨b, off, e, hb, fun j u hu => hc j u ?_⟩
  rw [List.flatMap_append, List.getElem?_append_left (List.getElem?_eq_some_iff.1 hu).1]
  exact hu
theorem regOk_drop {vs : List Ver} (h : regOk vs = true) : regOk vs.dropLast = true := by
  obtain ⟨h1, h2⟩ := regOk_iff.1 h
  have e : ∀ i, i < vs.dropLast.length → verAt vs.dropLast i = verAt vs i := fun i hi => by
    have hi2 : i < vs.length := by simp at hi; omega
    rw [verAt_lt hi, verAt_lt hi2]
    simp
  refine regOk_iff.2 ⟨by simp; omega, fun i hi k hk => ?_⟩
  rw [e i hi, e k (by omega)]
  exact h2 i (by simp at hi; omega) k hk
def RegDr (w : World) (e : Ending) (w' : World) : Prop := ∃ (vs : List Ver) (v : Value), e = .returned (.agg #[v]) ∧ VRow w' v vs ∧ ShortV vs ∧ 1 ≤ vs.length ∧ vs.length ≤ 3 ∧ Below w.heap.size w w'
end Go.Proofs.YtcjfgbcdlcdeaaaGreatDoor
/- The drawing function of the law on RegistryAdd. -/
namespace Go.Proofs.YtcjfgbcdlcdeaaaGreatDoor
open Go.RowKit
set_option maxRecDepth 100000
set_option linter.unusedVariables false
set_option linter.unusedSimpArgs false
attribute [local go_sem] ba_get ba_toList ba_extract take_drop_all ByteArray.mk_append_mk

def RegAddDr (w : World) (e : Ending) (w' : World) : Prop := ∃ (vs : List Ver) (x : Ver) (gb cc : Nat), e = .returned (.tuple #[.agg #[.slice (some ⟨gb, 0, none⟩) vs.length cc], .agg #[.string ⟨x.1.toArray⟩, .string ⟨x.2.toArray⟩]]) ∧ VRow w' (.slice (some ⟨gb, 0, none⟩) vs.length cc) vs ∧ ShortV (vs ++ [x]) ∧ vs.length ≤ 3 ∧ Below w.heap.size w w'
/-- The two results' cells. -/
structure RdSt (Br B9 g gb cc n : Nat) (W0 W : World) (vs : List Ver) : Prop where
  bel : Below Br W0 W
  row : VRow W (.slice (some ⟨gb, 0, none⟩) n cc) vs
  reg : W.cell? ⟨B9, 0, none⟩ = some (.slice (some ⟨gb, 0, none⟩) n cc)
  rf : W.frozen? ⟨Br, 0, none⟩ = false
  rc : ∃ u, W.cell? ⟨Br, 0, none⟩ = some u
  vth : W.there (Br + 1) 0 2
  lt : Br + 1 < B9 ∧ B9 < W.heap.size ∧ Br + 1 < gb
theorem RdSt.below {Br B9 g gb cc n : Nat} {W0 W W' : World} {vs : List Ver} (h : RdSt Br B9 g gb cc n W0 W vs) (hb : Below W.heap.size W W') : RdSt Br B9 g gb cc n W0 W' vs := by
  obtain ⟨l1, l2, l3⟩ := h.lt
  obtain ⟨hc, hf, hz⟩ := bcell hb
  refine ⟨h.bel.trans (hb.mono (by omega)), h.row.below hb, (hc _ _ l2).trans h.reg, (hf _ _ (by omega)).trans h.rf, ?_, there_below h.vth (by omega) hb, ⟨l1, hz _ l2, l3⟩⟩
  obtain ⟨u, hu⟩ := h.rc
  exact ⟨u, (hc _ _ (by omega)).trans hu⟩
theorem RdSt.setR {Br B9 g gb cc n : Nat} {W0 W : World} {vs : List Ver} (h : RdSt Br B9 g gb cc n W0 W vs) (u : Value) : RdSt Br B9 g gb cc n W0 (W.setCell ⟨Br, 0, none⟩ u) vs := by
  obtain ⟨l1, l2, l3⟩ := h.lt
  obtain ⟨u0, hu⟩ := h.rc
  refine ⟨h.bel.setCell (Nat.le_refl _) _, vrow_set h.row (by omega) u, ?_, by simpa using h.rf, ⟨u, World.cell?_setCell_same _ _ _ (by rw [hu])⟩, World.there_setCells h.vth Br 0 [u], ⟨l1, by simpa using l2, l3⟩⟩
  rw [World.cell?_setCell_other _ _ _ _ (by intro e; injection e with e; omega)]
  exact h.reg
theorem RdSt.setV {Br B9 g gb cc n : Nat} {W0 W : World} {vs : List Ver} (h : RdSt Br B9 g gb cc n W0 W vs) (o : Nat) (u : Value) : RdSt Br B9 g gb cc n W0 (W.setCell ⟨Br + 1, o, none⟩ u) vs := by
  obtain ⟨l1, l2, l3⟩ := h.lt
  obtain ⟨u0, hu⟩ := h.rc
  refine ⟨h.bel.setCell (by show Br ≤ Br + 1; omega) _, vrow_set h.row (by omega) u, ?_, by simpa using h.rf, ⟨u0, ?_⟩, World.there_setCells h.vth (Br + 1) o [u], ⟨l1, by simpa using l2, l3⟩⟩
  · rw [World.cell?_setCell_other _ _ _ _ (by intro e; injection e with e; omega)]
    exact h.reg
  · rw [World.cell?_setCell_other _ _ _ _ (by intro e; injection e with e; omega)]
    exact hu
theorem vrow_turn {W W' : World} {gb n c g : Nat} {vs : List Ver} (h : VRow W (.slice (some ⟨gb, 0, none⟩) n c) vs) (hg : W.grownBy W' (some g)) (hne : gb ≠ g) : VRow W' (.slice (some ⟨gb, 0, none⟩) n c) vs := by
  obtain ⟨A, c2, e, h1, h2, h3⟩ := h
  injection e with e1 e2 e3
  subst e1 e2 e3
  refine ⟨_, _, rfl, h1, h2, fun hp => ?_⟩
  obtain ⟨b, off, e, hb, hc⟩ := h3 hp
  injection e with e
  injection e with e4 e5
  subst e4 e5
  exact ⟨gb, 0, rfl, Nat.lt_of_lt_of_le hb hg.size, fun j x hx => (World.cell?_of_block (a := ⟨gb, 0 + j, none⟩) (hg.block gb hb (fun e => by injection e with e; exact hne e))).trans (hc j x hx)⟩
theorem RdSt.turn {Br B9 g gb cc n : Nat} {W0 W W' : World} {vs : List Ver} (h : RdSt Br B9 g gb cc n W0 W vs) (hg : W.grownBy W' (some g)) (h1 : Br + 1 < g) (h2 : g < B9) (h3 : g ≠ gb) : RdSt Br B9 g gb cc n W0 W' vs := by
  obtain ⟨l1, l2, l3⟩ := h.lt
  have hz := hg.size
  obtain ⟨a1, a2⟩ := cell_gr (b := Br) (o := 0) (by omega) hg (fun e => by injection e with e; omega)
  obtain ⟨b1, _⟩ := cell_gr (b := B9) (o := 0) l2 hg (fun e => by injection e with e; omega)
  obtain ⟨u, hu⟩ := h.rc
  exact ⟨h.bel.grown hg (by omega) (fun k hk => by injection hk with hk; omega), vrow_turn h.row hg (fun e => h3 e.symm), b1.trans h.reg, a2.trans h.rf, ⟨u, a1.trans hu⟩, there_grown h.vth hg (by omega) (fun e => by injection e with e; omega), ⟨l1, by omega, l3⟩⟩

set_option maxHeartbeats 2000000 in
theorem DrawRegistryAdd_any (A : Option Addr) (n c : Nat) (l : List UInt8) (w : World) (h : RowAt w A n (bcells l)) (hc : n ≤ c) (hcm : c ≤ maxLen) :
    Calls Tryz.prog 22 #[.slice A n c] w (RegAddDr w) := by
  go_enter Tryz.func22, Tryz.ntmps22
  go_wp2_with fail
  refine (l6Open_any A n c l _ ((h.alloc _).alloc _) hc hcm).mono ?_
  rintro e w0 ⟨g, rfl, hR, hgb, hb0⟩
  have HR := Lib.hid hR
  have hz0 : w.heap.size + 1 < w0.heap.size := by have := hb0.size; simp at this; omega
  have hgb' : w.heap.size + 2 ≤ g := by simpa using hgb
  have Hb0 := Lib.hid ((((Below.refl w.heap.size w).alloc (Nat.le_refl _) (.cells #[.slice none 0 0] 31)).alloc (by simp) (.cells #[.string ⟨#[]⟩, .string ⟨#[]⟩] 35)).trans (hb0.mono (by simp; omega)))
  have r0 : w0.cell? ⟨w.heap.size, 0, none⟩ = some (.slice none 0 0) := (hb0.cell (p := ⟨w.heap.size, 0, none⟩) (by simp; omega)).trans (by simp [go_sem])
  have r1 : w0.frozen? ⟨w.heap.size, 0, none⟩ = false := ((bcell hb0).2.1 w.heap.size 0 (by simp; omega)).trans (by simp [go_sem])
  have r2 : w0.there (w.heap.size + 1) 0 2 := by
    have h1 := there_new (w.alloc (.cells #[.slice none 0 0] 31)) [.string ⟨#[]⟩, .string ⟨#[]⟩] 35
    rw [World.size_alloc] at h1
    exact there_below h1 (by simp) hb0
  have Rr := Lib.hid (And.intro r0 (And.intro r1 r2))
  clear hR h hb0 r0 r1 r2 hgb
  go_wp2_with fail
  refine (l91Older_any g 0 _ HR.out (by omega)).mono ?_
  rintro e w1 ⟨a, b, c', d, q1, rfl, ha, hb, hc', hd, hq1, hR1, hg1⟩
  have HR1 := Lib.hid hR1
  have Hg1 := Lib.hid hg1
  clear hR1 hg1
  go_wp2_with fail
  refine (l91Registry_any g q1 _ HR1.out (by omega)).mono ?_
  rintro e w2 ⟨vs, v, q, rfl, hv, ⟨gb, cc, rfl, hgb2⟩, hsv, hp, hle, hq, hR2, hg2⟩
  have hG := dgrown_trans Hg1.out hg2
  have hst : RdSt w.heap.size w2.heap.size g gb cc vs.length w (w2.alloc (.cells #[.slice (some ⟨gb, 0, none⟩) vs.length cc] 31)) vs := by
    obtain ⟨r0, r1, r2⟩ := Rr.out
    have hzz := hG.size
    obtain ⟨a1, a2⟩ := cell_gr (b := w.heap.size) (o := 0) (by omega) hG (fun e => by injection e with e; omega)
    have hba : Below w2.heap.size w2 (w2.alloc (.cells #[.slice (some ⟨gb, 0, none⟩) vs.length cc] 31)) := (Below.refl _ _).alloc (Nat.le_refl _) _
    obtain ⟨hcc, hff, _⟩ := bcell hba
    refine ⟨(Hb0.out.grown hG Hb0.out.size (fun k hk => by injection hk with hk; omega)).trans (hba.mono (by omega)), hv.below hba, by simp, (hff _ _ (by omega)).trans (a2.trans r1), ⟨_, (hcc _ _ (by omega)).trans (a1.trans r0)⟩, there_below (there_grown r2 hG (by omega) (fun e => by injection e with e; omega)) (by omega) hba, ⟨by omega, by simp, by have := Hg1.out.size; omega⟩⟩
  have HSt := Lib.hid hst
  have HR3 := Lib.hid (hR2.below ((Below.refl _ _).alloc (Nat.le_refl _) (.cells #[.slice (some ⟨gb, 0, none⟩) vs.length cc] 31)))
  have Hsv := Lib.hid hsv
  have hg9 : g < w2.heap.size := hR2.lt
  have hgne : g ≠ gb := by have := HR1.out.lt; omega
  clear hst hR2 hg2 hv hG HR HR1 Hg1 Hb0 Rr hsv
  obtain ⟨nv, hnv⟩ : ∃ nv, nv = vs.length := ⟨_, rfl⟩
  rw [← hnv] at HSt HR3
  have hp1 : (0 : Int) < (nv : Int) := by omega
  have Hnv := Lib.hid hnv
  rw [← hnv] at hp hle ⊢
  clear hnv
  go_wp2_with fail
  have g9 : g < w2.heap.size := hg9
  have Hg9 : g ≠ gb ∧ w.heap.size + 1 < g := ⟨hgne, by omega⟩
  refine (pick_any g q 2 _ HR3.out (by omega) (by omega) (by omega)).mono ?_
  rintro e w4 ⟨x, rfl, hx1, _, hR4, hg4⟩
  have HS := Lib.hid (HSt.out.turn hg4 Hg9.2 g9 Hg9.1)
  clear hR4 hg4 hx1 HSt HR3
  have z0 : w4.cell? ⟨w2.heap.size, 0, none⟩ = some (.slice (some ⟨gb, 0, none⟩) nv cc) := HS.out.reg
  by_cases hx0 : x = 0
  · subst hx0
    go_upto_region 5 with fail
    obtain ⟨x, hx⟩ : ∃ x : Ver, vs[nv - 1]'(by have := Hnv.out; omega) = x := ⟨_, rfl⟩
    have hxm : x ∈ vs := by rw [← hx]; exact List.getElem_mem _
    have Hxs := Lib.hid (Hsv.out x hxm)
    have Hx := Lib.hid hx
    clear hxm hx
    refine wp_region_slots3 [30, 31, 32, 33, 34, 35, 36, 37, 38, 999, 998] (by kernel_rfl) (by kernel_rfl) (by kernel_rfl) (fun u => by dsimp only [frameOf, setMany, List.set, Nat.zero_add, Nat.reduceAdd])
      (fun ix v W => match ix with | 0 => v = .agg #[.slice (some ⟨gb, 0, none⟩) nv cc] | 1 => v = .pointer (some ⟨w2.heap.size, 0, none⟩) | 2 => v = .slice (some ⟨gb, 0, none⟩) nv cc | 3 => v = .pointer (some ⟨w2.heap.size, 0, none⟩) | 4 => v = .slice (some ⟨gb, 0, none⟩) nv cc | 5 => v = .int .i64 (nv : Int) | 6 => v = .int .i64 ((nv : Int) - 1) | 7 => v = .pointer (some ⟨gb, (nv - 1) * 2, none⟩) | 8 => v = .agg #[.string ⟨x.1.toArray⟩, .string ⟨x.2.toArray⟩] | 9 => v = undef | 10 => v = undef | _ => True)
      (fun L U W => RdSt w.heap.size w2.heap.size g gb cc nv w W vs ∧ (L 9 = true → W.cell? ⟨w.heap.size, 0, none⟩ = some (.slice (some ⟨gb, 0, none⟩) nv cc)) ∧ (L 10 = true → W.rangeAt (w.heap.size + 1) 0 (verc x))) (fun _ _ => True) (fun _ _ _ _ _ h => h) (⟨HS.out.below (Below.refl _ _).drew, fun h => Bool.noConfusion h, fun h => Bool.noConfusion h⟩) ?_ ?_
    · repeat (first | exact Steps.nil | (refine Steps.cons ?_ ?_; rotate_left))
      all_goals
        rintro L U W hL hpre hR hun hdep K hK
        have HR := Lib.hid hR
        obtain ⟨hst, h9, h10⟩ := HR.out
        have a9 : W.cell? ⟨w2.heap.size, 0, none⟩ = some (.slice (some ⟨gb, 0, none⟩) nv cc) := hst.reg
        clear hun hdep hR
        first | (simp [Region.binds] at hpre; done) | simp [Region.binds] at hpre | clear hpre
      iterate 6
        · go_simp
          first | exact hK _ _ _ rfl trivial HR.out rfl | exact hK _ _ _ rfl trivial HR.out (by simp [Act.put, hpre])
      · have wn : IntKind.i64.wrap ((nv : Int) - 1) = (nv : Int) - 1 := IntWalk.i64_in _ (by omega)
        go_simp
        exact hK (.int .i64 ((nv : Int) - 1)) _ _ rfl trivial HR.out (by simp [Act.put, hpre, wn])
      · have u2 : U 2 = .slice (some ⟨gb, 0, none⟩) nv cc := by
          first | exact hpre.1.2 | exact hpre.2.2 | exact hpre.2.1.2
        have u6 : U 6 = .int .i64 ((nv : Int) - 1) := by
          first | exact hpre.2.2 | exact hpre.1.2 | exact hpre.2.1.2 | exact hpre.2
        have t1 : ((nv : Int) - 1) = ((nv - 1 : Nat) : Int) := by omega
        rw [t1] at u6
        have t2 : ((nv - 1 : Nat) : Int) < (nv : Int) := by omega
        have t3 : (0 : Int) ≤ ((nv - 1 : Nat) : Int) := by omega
        go_simp
        exact hK (.pointer (some ⟨gb, (nv - 1) * 2, none⟩)) _ _ rfl trivial HR.out (by simp [Act.put, u2, u6])
      · obtain ⟨A2, c2, e2, _, _, hcc⟩ := hst.row
        injection e2 with e3 e4 e5
        obtain ⟨b', o', e9, _, c0, c1⟩ := VRow.at_ (e3 ▸ hcc) (show nv - 1 < vs.length by have := Hnv.out; omega)
        injection e9 with e9
        injection e9 with e10 e11
        subst e10 e11
        rw [Hx.out] at c0 c1
        simp only [Nat.zero_add] at c0 c1
        clear e3 e4 e5 hcc
        go_simp
        first | exact hK _ _ _ rfl trivial HR.out rfl | exact hK _ _ _ rfl trivial HR.out (by simp [Act.put, hpre])
      · have u0 : U 0 = .agg #[.slice (some ⟨gb, 0, none⟩) nv cc] := by
          first | exact hpre.2 | exact hpre.1.2 | exact hpre.2.1.2 | exact hpre.2.2
        obtain ⟨u, hu⟩ := hst.rc
        have hf := hst.rf
        have hq := hst.setR (.slice (some ⟨gb, 0, none⟩) nv cc)
        have hc9 : (W.setCell ⟨w.heap.size, 0, none⟩ (.slice (some ⟨gb, 0, none⟩) nv cc)).cell? ⟨w.heap.size, 0, none⟩ = some (.slice (some ⟨gb, 0, none⟩) nv cc) := World.cell?_setCell_same _ _ _ (by rw [hu])
        go_simp
        exact hK undef _ _ rfl trivial ⟨hq, fun _ => hc9, fun h => rangeAt_grown (h10 (by simpa using h)) (grown_set W ⟨w.heap.size, 0, none⟩ (.slice (some ⟨gb, 0, none⟩) nv cc)) (fun e => by injection e with e; simp at e)⟩ (by simp [Act.put, hpre, u0])
      · have u8 : U 8 = .agg #[.string ⟨x.1.toArray⟩, .string ⟨x.2.toArray⟩] := by
          first | exact hpre.2 | exact hpre.1.2 | exact hpre.2.1.2 | exact hpre.2.2
        have p0 := hst.vth 0 (by decide)
        have p1 := hst.vth 1 (by decide)
        simp only [Nat.zero_add, Nat.add_zero] at p0 p1
        obtain ⟨y0, hy0⟩ := Option.isSome_iff_exists.1 p0.1
        obtain ⟨y1, hy1⟩ := Option.isSome_iff_exists.1 p1.1
        have pf0 := p0.2
        have pf1 := p1.2
        have hq := (hst.setV 0 (.string ⟨x.1.toArray⟩)).setV 1 (.string ⟨x.2.toArray⟩)
        have hr : ((W.setCell ⟨w.heap.size + 1, 0, none⟩ (.string ⟨x.1.toArray⟩)).setCell ⟨w.heap.size + 1, 1, none⟩ (.string ⟨x.2.toArray⟩)).rangeAt (w.heap.size + 1) 0 (verc x) := by
          have e0 : ((W.setCell ⟨w.heap.size + 1, 0, none⟩ (.string ⟨x.1.toArray⟩)).setCell ⟨w.heap.size + 1, 1, none⟩ (.string ⟨x.2.toArray⟩)).cell? ⟨w.heap.size + 1, 0, none⟩ = some (.string ⟨x.1.toArray⟩) := by
            rw [World.cell?_setCell_other _ _ _ _ (by intro e; injection e with _ e; omega)]
            exact World.cell?_setCell_same _ _ _ (by rw [hy0])
          have e1 : ((W.setCell ⟨w.heap.size + 1, 0, none⟩ (.string ⟨x.1.toArray⟩)).setCell ⟨w.heap.size + 1, 1, none⟩ (.string ⟨x.2.toArray⟩)).cell? ⟨w.heap.size + 1, 1, none⟩ = some (.string ⟨x.2.toArray⟩) := by
            have hq1 : (W.setCell ⟨w.heap.size + 1, 0, none⟩ (.string ⟨x.1.toArray⟩)).cell? ⟨w.heap.size + 1, 1, none⟩ = some y1 := by
              rw [World.cell?_setCell_other _ _ _ _ (by intro e; injection e with _ e; omega), hy1]
            exact World.cell?_setCell_same _ _ _ hq1
          intro j u hu
          match j, hu with
          | 0, hu => simp [verc] at hu; subst hu; simpa using e0
          | 1, hu => simp [verc] at hu; subst hu; simpa using e1
          | j + 2, hu => simp [verc] at hu
        have hk9 : ∀ h : L 9 = true, ((W.setCell ⟨w.heap.size + 1, 0, none⟩ (.string ⟨x.1.toArray⟩)).setCell ⟨w.heap.size + 1, 1, none⟩ (.string ⟨x.2.toArray⟩)).cell? ⟨w.heap.size, 0, none⟩ = some (.slice (some ⟨gb, 0, none⟩) nv cc) := fun h => by
          rw [World.cell?_setCell_other _ _ _ _ (by intro e; injection e with e; omega), World.cell?_setCell_other _ _ _ _ (by intro e; injection e with e; omega)]
          exact h9 h
        clear p0 p1
        go_simp
        exact hK undef _ _ rfl trivial ⟨hq, fun h => hk9 (by simpa using h), fun _ => hr⟩ (by simp [Act.put, hpre, u8])
    · rintro L U W hL hφ hR
      clear hφ
      obtain ⟨hst, h9, h10⟩ := hR
      have k9 := h9 (hL 9 (by decide))
      have k10 := h10 (hL 10 (by decide))
      have v0 := rangeAt_cell k10 0 rfl
      have v1 := rangeAt_cell k10 1 rfl
      simp at v0 v1
      have Hst := Lib.hid hst
      clear hL hst h9 h10 k10
      go_wp2_with fail
      refine bodyPost_ret (v := .tuple #[.agg #[.slice (some ⟨gb, 0, none⟩) nv cc], .agg #[.string ⟨x.1.toArray⟩, .string ⟨x.2.toArray⟩]]) (by simp [results, Tryz.results22, go_sem, k9, v0, v1]) rfl ?_
      exact ⟨vs, x, gb, cc, by rw [Hnv.out], (by have := Hst.out.row; rwa [Hnv.out] at this), fun y hy => by rcases List.mem_append.1 hy with h | h; exact Hsv.out y h; simp at h; subst h; exact Hxs.out, by have := Hnv.out; omega, Hst.out.bel⟩
  · have tx : ((x : Int) == 0) = false := by simp; omega
    clear hx0
    obtain ⟨u, hu⟩ := HS.out.rc
    have hf := HS.out.rf
    have p0 := HS.out.vth 0 (by decide)
    have p1 := HS.out.vth 1 (by decide)
    have hfin := Lib.hid (((HS.out.setR (.slice (some ⟨gb, 0, none⟩) nv cc)).setV 0 (.string ⟨a.toArray⟩)).setV 1 (.string ⟨b.toArray⟩))
    simp only [Nat.zero_add, Nat.add_zero] at p0 p1
    obtain ⟨u0, hu0⟩ := Option.isSome_iff_exists.1 p0.1
    obtain ⟨u1, hu1⟩ := Option.isSome_iff_exists.1 p1.1
    have pf0 := p0.2
    have pf1 := p1.2
    clear p0 p1
    go_wp2_with fail
    refine bodyPost_ret (v := .tuple #[.agg #[.slice (some ⟨gb, 0, none⟩) nv cc], .agg #[.string ⟨a.toArray⟩, .string ⟨b.toArray⟩]]) (by simp [results, Tryz.results22, go_sem, hu, hf, hu0, hu1, pf0, pf1]) rfl ?_
    exact ⟨vs, (a, b), gb, cc, by rw [Hnv.out], (by have := hfin.out.row; rw [Hnv.out] at this ⊢; exact this), fun y hy => by rcases List.mem_append.1 hy with h | h; exact Hsv.out y h; simp at h; subst h; exact ⟨ha, hb⟩, by have := Hnv.out; omega, hfin.out.bel⟩
end Go.Proofs.YtcjfgbcdlcdeaaaGreatDoor
/- 'append(v, u...)' of a row of the call's own behind a row of the call's own; the operation may be guarded. -/
namespace Go.Proofs.YtcjfgbcdlcdeaaaGreatDoor
open Go.RowKit

section
variable {P : Program}
theorem wpList_want {ops : Array Oper} {rest : List Oper} {o : Oper} {a : Act} {Q : Exit → Act → World → Prop} {w : World} (hw : Region.wanted o (yielded ops a.tmps) = true)
    (h : o.wp P a w (wpList P ops Q rest) Q) : wpList P ops Q (o :: rest) a w := by
  unfold wpList
  rw [if_pos hw]
  exact .inl h

theorem wpList_appN (w : World) {ops : Array Oper} {rest : List Oper} {o : Oper} {a : Act} {Q : Exit → Act → World → Prop} (hwant : Region.wanted o (yielded ops a.tmps) = true) (s x : Operand) (t : TypeId)
    (ho : o.op = .call { callee := .builtin .append, args := #[s, x], argTypes := #[t, t] })
    (base b2 : Nat) (e : TypeId) (z : Value) (bytes : Nat) (ht : P.underlying t = some (.slice e)) (hinfo : (P.info? e).map (fun i => (i.zero, i.size, i.bytes)) = some (some z, 1, bytes))
    (hzs : z.cells.size = 1) (v : Value) (n : Nat) (xs : List Value) (hs : a.eval s = v) (hown : w.ownsRow base e 1 v n xs)
    (u : Value) (m : Nat) (ys : List Value) (hx : a.eval x = u) (hrow : w.ownsRow b2 e 1 u m ys) (h1 : ∀ y ∈ ys, y.oneCell' = true)
    (h63 : n + m ≤ maxLen) (hbytes : (n + m) * bytes ≤ 140737488355328) (hbase : base ≤ w.heap.size)
    (h : ∀ v' w', w'.ownsRow base e 1 v' (n + m) (xs ++ ys) → Below base w w' → w.grownBy w' v.ownBlock → wpList P ops Q rest (a.put o.dst v') w') : wpList P ops Q (o :: rest) a w := by
  obtain ⟨i0, hi, hz0, hz1, hz2⟩ := info_parts hinfo
  refine wpList_want hwant ?_
  rcases hrow.2 with ⟨rfl, rfl⟩ | ⟨g, cap, cur, rfl, hb, hh, hnc, hcm, hcs, htk⟩
  · have hy : ys = [] := List.eq_nil_of_length_eq_zero (by have := hrow.1; simpa using this)
    subst hy
    have hrun := run_append_owned_none (P := P) (w := w) base t o.type e i0 1 ht hi v n xs hown
    unfold Oper.wp
    simp [execOp, ho, resolve, invoke, builtin, hs, hx, hrun, Result.andThen]
    exact h v w (by simpa using hown) (Below.refl _ _) (World.grownBy.refl _ _)
  · refine wp_append_own w s x t ho base e i0 z 1 bytes ht hi hz0 hz1 hz2 hzs (by decide) v n xs hs hown ⟨g, 0, none⟩ m cap ys hx hrow.1 (hrow.cells (g := g) rfl) h1 h63 hbytes hbase ?_
    intro v' w' h2 h3 _
    exact h v' w' h2 ((Below.refl base w).grown h3 hbase (fun k hk => (hown.lt k hk).1)) h3
end

theorem scells_one (ls : List (List UInt8)) : ∀ y ∈ scells ls, y.oneCell' = true := by
  intro y hy
  obtain ⟨l, _, rfl⟩ := List.mem_map.1 hy
  rfl
theorem scells_append (a b : List (List UInt8)) : scells (a ++ b) = scells a ++ scells b := by simp [scells]
end Go.Proofs.YtcjfgbcdlcdeaaaGreatDoor
/- readType of the program: a line with fields. -/
namespace Go.Proofs.YtcjfgbcdlcdeaaaGreatDoor
open Go.RowKit
set_option maxRecDepth 100000
set_option linter.unusedVariables false
set_option linter.unusedSimpArgs false
attribute [local go_sem] ba_get ba_toList ba_extract take_drop_all ByteArray.mk_append_mk

set_option maxHeartbeats 2000000 in
theorem iType_full (c : UInt8) (r nm rest : List UInt8) (w : World) (hs : r.length ≤ 3999999) (hc : sortOk c) (h : cutL 61 r = (nm, rest, true)) (hn : nameOk nm = true) (hr : rest ≠ []) :
    Calls Tryz.prog 110 #[.string ⟨(c :: r).toArray⟩] w (ItPost (typeI (c :: r)) w) := by
  have HF := Lib.hid (typeI_fields hc h hn hr)
  have Hc := Lib.hid (fun W => (show Calls Tryz.prog 145 #[.string ⟨#[82, 85, 69]⟩, .string ⟨#[c]⟩] W fun e w' => e = .returned (.bool true) ∧ W = w' from by
    have := Contains_any [82, 85, 69] c W
    rw [sort_mem, decide_eq_true hc] at this
    exact this))
  have Hcut := Lib.hid (fun W => Cut_any r 61 W (by omega))
  have hcl := cutL_len 61 r
  have Hcut2 := Lib.hid h
  rw [h] at Hcut hcl
  simp only at hcl
  have hcl1 := hcl.1
  have hcl2 := hcl.2
  have Hname := Lib.hid (fun W => isName_any nm W (by omega))
  rw [hn] at Hname
  have Hsp := Lib.hid (fun W => Split_any rest 44 W (by omega))
  have hne := splitL_ne 44 rest
  have Hpl := Lib.hid (splitL_plen 44 rest)
  have Hln := Lib.hid (splitL_len 44 rest)
  generalize splitL 44 rest = ps at HF Hsp hne Hpl Hln
  have Hcs := Lib.hid hc
  have hpsl : ps.length ≤ 4000000 := by have := Hln.out; omega
  have hr1 : rest.isEmpty = false := by simpa using hr
  have hr2 : (rest == []) = false := by simpa using hr
  clear h hn hr hc hcl
  go_enter Tryz.func110, Tryz.ntmps110
  go_wp2_with fail
  refine (Hc.out _).mono ?_
  rintro e w' ⟨rfl, rfl⟩
  go_wp2_with fail
  refine (Hcut.out _).mono ?_
  rintro e w1 ⟨rfl, k1, rfl⟩
  unfold cutV
  go_wp2_with fail
  refine (Hname.out _).mono ?_
  rintro e w2 ⟨rfl, hb2⟩
  have Hb2 := Lib.hid (show Below w.heap.size w w2 from (below_drewN (Below.refl _ _) k1).trans (by simpa using hb2))
  have hz2 := Hb2.out.size
  clear hb2
  go_wp2_with fail
  refine (Hsp.out _).mono ?_
  rintro e w3 ⟨v, rfl, ho, hb3⟩
  obtain ⟨g, cg, rfl, hg1, hg2, hcells⟩ := own_texts ho hne
  have hg1' : w2.heap.size + 1 ≤ g := by simpa using hg1
  have hz3 : w2.heap.size < w3.heap.size := by omega
  have HT0 := Lib.hid (show w3.rangeAt w2.heap.size 0 [.int .u8 (c.toNat : Int), .string ⟨nm.toArray⟩, .slice none 0 0, .string ⟨(c :: r).toArray⟩] from rangeAt_below (rangeAt_new w2 _ _) (by simp) hb3)
  have HK0 := Lib.hid (show w3.there w2.heap.size 0 4 from there_below (there_new w2 [.int .u8 (c.toNat : Int), .string ⟨nm.toArray⟩, .slice none 0 0, .string ⟨(c :: r).toArray⟩] _) (by simp) hb3)
  have HB0 := Lib.hid (show Blk w3 w2.heap.size from (Blk.new w2 _ _).belowAt (by simp) hb3)
  have Hb3 := Lib.hid (show Below w.heap.size w w3 from (Hb2.out.alloc Hb2.out.size _).trans (hb3.mono (by simp; omega)))
  have Hcells := Lib.hid (show ∀ j (hj : j < ps.length), w3.cell? ⟨g, j, none⟩ = some (.string ⟨ps[j].toArray⟩) from hcells)
  have Hown0 := Lib.hid (World.ownsRow_nil w3 w3.heap.size 115 6)
  clear ho hb3 hcells hg1 hne
  go_wp2_with fail
  go_loopw [53] (fun i wr => ∃ (k : Nat) (acc : List Fd) (fv : Value), i = .int .i64 k ∧ k ≤ ps.length ∧ acc.length ≤ 8 ∧ Hid (typeI (c :: r) = finP c nm (fieldsI c (ps.drop k) acc)) ∧
      Hid (wr.ownsRow w3.heap.size 115 6 fv acc.length (acc.flatMap ifc)) ∧ Hid (Below w.heap.size w wr) ∧ w3.heap.size ≤ wr.heap.size ∧
      Hid (∀ j (hj : j < ps.length), wr.cell? ⟨g, j, none⟩ = some (.string ⟨ps[j].toArray⟩)) ∧
      Hid (wr.rangeAt w2.heap.size 0 [.int .u8 (c.toNat : Int), .string ⟨nm.toArray⟩, fv, .string ⟨(c :: r).toArray⟩]) ∧ Hid (wr.there w2.heap.size 0 4) ∧ Hid (Blk wr w2.heap.size)) (fun i _ => ps.length - (intOf i).toNat)
  case atStart => exact ⟨0, [], .slice none 0 0, rfl, Nat.zero_le _, by simp, HF.out, Hown0.out, Hb3.out, Nat.le_refl _, Hcells.out, HT0.out, HK0.out, HB0.out⟩
  case round =>
    obtain ⟨wo, rfl⟩ : ∃ wo : World, wo = wr := ⟨_, rfl⟩
    obtain ⟨k, acc, fv, rfl, hk, ha8, hft, hown, hbr, hzr, hpr, hT, hK, hB⟩ := hrel
    have i1 : (0 : Int) ≤ (k : Int) := by omega
    obtain ⟨A, cA, rfl, hrow⟩ := RowAt.ownK hown.out (by unfold maxLen; omega)
    have Hrow := Lib.hid hrow
    have t0 : wo.cell? ⟨w2.heap.size, 0, none⟩ = some (.int .u8 (c.toNat : Int)) := by simpa using rangeAt_cell hT.out 0 rfl
    have t2 : wo.cell? ⟨w2.heap.size, 2, none⟩ = some (.slice A acc.length cA) := by simpa using rangeAt_cell hT.out 2 rfl
    clear hrow
    by_cases hlt : k < ps.length
    · have i2 : (k : Int) < (ps.length : Int) := by omega
      have cell := hpr.out k hlt
      have hft2 := Lib.hid ((fieldsI_step (c := c) (acc := acc) hlt) ▸ hft.out)
      have hplk := Hpl.out _ (List.getElem_mem hlt)
      generalize ps[k] = p at cell hft2 hplk
      have Hread := Lib.hid (fun W => readField_any c Hcs.out p W (by omega))
      generalize fieldI c p = o at hft2 Hread
      go_wp2_with fail
      refine (Hread.out _).mono ?_
      rintro e w4 ⟨hcase, hb4⟩
      have Hb4 := Lib.hid (hbr.out.trans (hb4.mono hbr.out.size))
      cases o with
      | none =>
        obtain ⟨n, a1, a2, a3, a4, a5, rfl⟩ := hcase
        have Hend := Lib.hid (show typeI (c :: r) = none from hft2.out)
        go_wp2_with fail
        go_ret2
        exact ItPost.no Hend.out rfl (Hb4.out.alloc Hb4.out.size _)
      | some f =>
        have hcase' : e = .returned (.tuple #[.agg #[.int .i64 (f.tag : Int), .string ⟨f.name.toArray⟩, .string ⟨f.kind.signs.toArray⟩, .string ⟨f.kind.base.toArray⟩, .string ⟨f.kind.name.toArray⟩, .string ⟨f.given.toArray⟩], .bool true]) := hcase
        subst hcase'
        clear hcase
        have s0 := (hb4.cell (p := ⟨w2.heap.size, 0, none⟩) (show w2.heap.size < wo.heap.size by omega)).trans t0
        have s2 := (hb4.cell (p := ⟨w2.heap.size, 2, none⟩) (show w2.heap.size < wo.heap.size by omega)).trans t2
        have hz4 : wo.heap.size ≤ w4.heap.size := hb4.size
        have hn4 : ¬ (w2.heap.size = w4.heap.size) := by omega
        have hn5 : w2.heap.size < w4.heap.size := by omega
        have Hb4r := Lib.hid hb4
        clear t0 t2 hb4
        have hft3 := Lib.hid (show typeI (c :: r) = finP c nm (if acc.length = 8 ∨ fitsIn acc f = false then none else fieldsI c (ps.drop (k + 1)) (acc ++ [f])) from hft2.out)
        clear hft2
        rcases Nat.eq_or_lt_of_le ha8 with h8 | h8
        · have q1 : ((acc.length : Int) == 8) = true := by simp [h8]
          have Hend := Lib.hid (hft3.out.trans (by rw [if_pos (.inl h8)]))
          clear h8
          go_wp2_with fail
          go_ret2
          exact ItPost.no Hend.out rfl (Hb4.out.alloc Hb4.out.size _)
        · have q1 : ((acc.length : Int) == 8) = false := by rw [beq_eq_false_iff_ne]; omega
          go_wp2_with fail
          have f0 : (w4.alloc (.cells #[.int .i64 (f.tag : Int), .string ⟨f.name.toArray⟩, .string ⟨f.kind.signs.toArray⟩, .string ⟨f.kind.base.toArray⟩, .string ⟨f.kind.name.toArray⟩, .string ⟨f.given.toArray⟩] 115)).cell? ⟨w4.heap.size, 0, none⟩ = some (.int .i64 (f.tag : Int)) := by simp
          have f1 : (w4.alloc (.cells #[.int .i64 (f.tag : Int), .string ⟨f.name.toArray⟩, .string ⟨f.kind.signs.toArray⟩, .string ⟨f.kind.base.toArray⟩, .string ⟨f.kind.name.toArray⟩, .string ⟨f.given.toArray⟩] 115)).cell? ⟨w4.heap.size, 1, none⟩ = some (.string ⟨f.name.toArray⟩) := by simp
          have HR0 := Lib.hid (rangeAt_new w4 [.int .i64 (f.tag : Int), .string ⟨f.name.toArray⟩, .string ⟨f.kind.signs.toArray⟩, .string ⟨f.kind.base.toArray⟩, .string ⟨f.kind.name.toArray⟩, .string ⟨f.given.toArray⟩] 115)
          go_loopw [81] (fun jj wq => ∃ j : Nat, jj = .int .i64 j ∧ j ≤ acc.length ∧ Hid (∀ x ∈ acc.take j, x.name ≠ f.name ∧ x.tag < f.tag) ∧ Hid (Below w4.heap.size w4 wq) ∧ w4.heap.size < wq.heap.size ∧ Hid (wq.rangeAt w4.heap.size 0 [.int .i64 (f.tag : Int), .string ⟨f.name.toArray⟩, .string ⟨f.kind.signs.toArray⟩, .string ⟨f.kind.base.toArray⟩, .string ⟨f.kind.name.toArray⟩, .string ⟨f.given.toArray⟩])) (fun jj _ => acc.length - (intOf jj).toNat)
          case atStart => exact ⟨0, rfl, Nat.zero_le _, by intro x hx; simp at hx, (Below.refl _ _).alloc (Nat.le_refl _) _, by simp, HR0.out⟩
          case round =>
            clear f0 f1
            obtain ⟨j, rfl, hj, hin, hbq, hzq, hfr⟩ := hrel
            have j1 : (0 : Int) ≤ (j : Int) := by omega
            have f0 : wr.cell? ⟨w4.heap.size, 0, none⟩ = some (.int .i64 (f.tag : Int)) := by simpa using rangeAt_cell hfr.out 0 rfl
            have f1 : wr.cell? ⟨w4.heap.size, 1, none⟩ = some (.string ⟨f.name.toArray⟩) := by simpa using rangeAt_cell hfr.out 1 rfl
            have hnq : ¬ (w4.heap.size = wr.heap.size) := by omega
            have Hbq := Lib.hid (Hb4.out.trans (hbq.out.mono Hb4.out.size))
            by_cases hjl : j < acc.length
            · have j2 : (j : Int) < (acc.length : Int) := by omega
              obtain ⟨bA, oA, rfl, hbA, hrg⟩ := IFds.range ((Hrow.out.below Hb4r.out).below hbq.out) hjl
              have Hts := Lib.hid (take_snoc acc j hjl)
              have Hmem := Lib.hid (List.getElem_mem hjl)
              have Hrg := Lib.hid (show wr.rangeAt bA (oA + j * 6) [.int .i64 (acc[j].tag : Int), .string ⟨acc[j].name.toArray⟩, .string ⟨acc[j].kind.signs.toArray⟩, .string ⟨acc[j].kind.base.toArray⟩, .string ⟨acc[j].kind.name.toArray⟩, .string ⟨acc[j].given.toArray⟩] from hrg)
              clear hrg
              generalize acc[j] = x at Hts Hmem Hrg
              rcases Decidable.em (x.name = f.name) with hnm | hnm
              · have q2 : (x.name == f.name) = true := by simp [hnm]
                have Hend := Lib.hid (hft3.out.trans (by rw [if_pos (.inr (fits_no' Hmem.out (.inr hnm)))]))
                clear hnm
                go_wp2_with ((with_reducible refine wpList_load_mid (op := ⟨_, .load 115 _, _, _, _, none⟩) rfl 115 _ rfl bA (oA + j * 6) ?_ _ _ Hrg.out Tryz.underlying115 ?_ ?_ ?_); rfl; rfl; kernel_rfl)
                go_ret2
                exact ItPost.no Hend.out rfl (Hbq.out.alloc Hbq.out.size _)
              · have q2 : (x.name == f.name) = false := by simp [hnm]
                rcases Nat.lt_or_ge x.tag f.tag with ht | ht
                · have q3 : decide ((f.tag : Int) ≤ (x.tag : Int)) = false := by rw [decide_eq_false_iff_not]; omega
                  have Hin := Lib.hid (show ∀ y ∈ acc.take (j + 1), y.name ≠ f.name ∧ y.tag < f.tag from by
                    intro y hy
                    rw [Hts.out] at hy
                    rcases List.mem_append.1 hy with hy | hy
                    · exact hin.out y hy
                    · simp at hy; subst hy; exact ⟨hnm, ht⟩)
                  clear hnm
                  go_wp2_with ((with_reducible refine wpList_load_mid (op := ⟨_, .load 115 _, _, _, _, none⟩) rfl 115 _ rfl bA (oA + j * 6) ?_ _ _ Hrg.out Tryz.underlying115 ?_ ?_ ?_); rfl; rfl; kernel_rfl)
                  go_roundw
                  case rel => exact ⟨j + 1, by go_num, by omega, Hin.out, hbq.out.alloc (Nat.le_of_lt hzq) _, by simp; omega, rangeAt_below hfr.out hzq ((Below.refl wr.heap.size wr).alloc (Nat.le_refl _) _)⟩
                  case measure => simp [intOf]; omega
                · have q3 : decide ((f.tag : Int) ≤ (x.tag : Int)) = true := by rw [decide_eq_true_iff]; omega
                  have Hend := Lib.hid (hft3.out.trans (by rw [if_pos (.inr (fits_no' Hmem.out (.inl ht)))]))
                  clear hnm
                  go_wp2_with ((with_reducible refine wpList_load_mid (op := ⟨_, .load 115 _, _, _, _, none⟩) rfl 115 _ rfl bA (oA + j * 6) ?_ _ _ Hrg.out Tryz.underlying115 ?_ ?_ ?_); rfl; rfl; kernel_rfl)
                  go_ret2
                  exact ItPost.no Hend.out rfl (Hbq.out.alloc Hbq.out.size _)
            · have j2 : ¬ (j : Int) < (acc.length : Int) := by omega
              have Hft4 := Lib.hid (show typeI (c :: r) = finP c nm (fieldsI c (ps.drop (k + 1)) (acc ++ [f])) from by
                rw [hft3.out, if_neg]
                rintro (h | h)
                · omega
                · rw [fitsIn_all (fun y hy => hin.out y (by rw [List.take_of_length_le (by omega)]; exact hy))] at h; cases h)
              have hb1 : Below wo.heap.size wo wr := Hb4r.out.trans (hbq.out.mono hz4)
              have Hown := Lib.hid (ownsRow_below hown.out hb1)
              have Hpr := Lib.hid (show ∀ j (hj : j < ps.length), wr.cell? ⟨g, j, none⟩ = some (.string ⟨ps[j].toArray⟩) from fun j hj => (hb1.cell (p := ⟨g, j, none⟩) (show g < wo.heap.size by omega)).trans (hpr.out j hj))
              have HT1 := Lib.hid (rangeAt_below hT.out (show w2.heap.size < wo.heap.size by omega) hb1)
              have HB1 := Lib.hid (hB.out.belowAt (show w2.heap.size < wo.heap.size by omega) hb1)
              have HK1 := Lib.hid (there_below hK.out (show w2.heap.size < wo.heap.size by omega) hb1)
              have hz5 : w3.heap.size ≤ wr.heap.size := by omega
              have hz6 : w.heap.size ≤ w3.heap.size := by omega
              clear hb1 f0 f1
              go_wp2_with fail
              refine wp_region_slots3 [98, 99, 100, 101, 102, 103, 104, 105, 106, 107, 999] (by kernel_rfl) (by kernel_rfl) (by kernel_rfl) (fun u => by dsimp only [frameOf, setMany, List.set, Nat.zero_add, Nat.reduceAdd])
                (fun i v W => match i with | 0 => v = .pointer (some ⟨w2.heap.size, 0, none⟩) | 1 => v = .pointer (some ⟨w2.heap.size, 0, none⟩) | 2 => v = .pointer (some ⟨w2.heap.size, 0, none⟩) | 3 => v = .pointer (some ⟨w2.heap.size, 2, none⟩) | 4 => v = .slice A acc.length cA | 5 => v = .agg #[.int .i64 (f.tag : Int), .string ⟨f.name.toArray⟩, .string ⟨f.kind.signs.toArray⟩, .string ⟨f.kind.base.toArray⟩, .string ⟨f.kind.name.toArray⟩, .string ⟨f.given.toArray⟩] | 8 => v = .pointer (some ⟨w2.heap.size, 0, none⟩) | 9 => v = .pointer (some ⟨w2.heap.size, 2, none⟩) | _ => True)
                (fun L U W => Below w.heap.size w W ∧ w3.heap.size ≤ W.heap.size ∧ (∀ j (hj : j < ps.length), W.cell? ⟨g, j, none⟩ = some (.string ⟨ps[j].toArray⟩)) ∧ (W.there w2.heap.size 0 4 ∧ Blk W w2.heap.size) ∧
                  (L 10 = false → W.rangeAt w2.heap.size 0 [.int .u8 (c.toNat : Int), .string ⟨nm.toArray⟩, .slice A acc.length cA, .string ⟨(c :: r).toArray⟩]) ∧ (L 10 = true → W.rangeAt w2.heap.size 0 [.int .u8 (c.toNat : Int), .string ⟨nm.toArray⟩, U 7, .string ⟨(c :: r).toArray⟩]) ∧
                  (L 5 = false → W.rangeAt w4.heap.size 0 [.int .i64 (f.tag : Int), .string ⟨f.name.toArray⟩, .string ⟨f.kind.signs.toArray⟩, .string ⟨f.kind.base.toArray⟩, .string ⟨f.kind.name.toArray⟩, .string ⟨f.given.toArray⟩]) ∧ (L 7 = false → W.ownsRow w3.heap.size 115 6 (.slice A acc.length cA) acc.length (acc.flatMap ifc)) ∧ (L 7 = true → W.ownsRow w3.heap.size 115 6 (U 7) (acc.length + 1) (acc.flatMap ifc ++ ifc f)) ∧
                  (L 6 = true → L 7 = false → ∃ q, U 6 = .slice (some ⟨q, 0, none⟩) 1 1 ∧ W.rangeAt q 0 [.int .i64 (f.tag : Int), .string ⟨f.name.toArray⟩, .string ⟨f.kind.signs.toArray⟩, .string ⟨f.kind.base.toArray⟩, .string ⟨f.kind.name.toArray⟩, .string ⟨f.given.toArray⟩]))
                (fun _ _ => True) (fun w w' _ i v h => by revert h; exact fun h => h) ⟨Hbq.out.drew, hz5, Hpr.out, ⟨HK1.out, HB1.out⟩, fun _ => HT1.out, by simp, fun _ => hfr.out, fun _ => Hown.out, by simp, by simp⟩ ?_ ?_
              · repeat (first | exact Steps.nil | (refine Steps.cons ?_ ?_; rotate_left))
                all_goals
                  rintro L U W hL hpre hR hun hdep K hK
                  have Hdep := Lib.hid hdep
                  have HR := Lib.hid hR
                  clear hun hdep hR
                  first | (simp [Region.binds] at hpre; done) | simp [Region.binds] at hpre | clear hpre
                · go_simp
                  exact hK _ _ _ rfl trivial HR.out rfl
                · go_simp
                  exact hK _ _ _ rfl trivial HR.out rfl
                · have u1 := hpre.2
                  go_simp
                  exact hK (.pointer (some ⟨w2.heap.size, 0, none⟩)) _ _ rfl trivial HR.out (by simp [Act.put, u1])
                · have u2 := hpre.2
                  go_simp
                  exact hK (.pointer (some ⟨w2.heap.size, 2, none⟩)) _ _ rfl trivial HR.out (by simp [Act.put, u2])
                · have h10 := (Hdep.out 10 _ rfl { on := 7, ground := Ground.data } (by simp) (by rfl) (Hdep.out 7 _ rfl { on := 4, ground := Ground.data } (by simp) (by rfl) hL))
                  obtain ⟨r1, r2, r3, r4, r5, r6, r7, r8, r9, r0⟩ := HR.out
                  have u3 := hpre.2
                  have c2 : W.cell? ⟨w2.heap.size, 2, none⟩ = some (.slice A acc.length cA) := by simpa using rangeAt_cell (r5 h10) 2 rfl
                  clear r1 r2 r3 r4 r5 r6 r7 r8 r9 r0
                  go_simp
                  exact hK (.slice A acc.length cA) _ _ rfl trivial HR.out (by simp [Act.put, u3])
                · obtain ⟨r1, r2, r3, r4, r5, r6, r7, r8, r9, r0⟩ := HR.out
                  rw [if_pos (by rfl)]
                  refine wp_load_mid 115 _ rfl w4.heap.size 0 rfl [.int .i64 (f.tag : Int), .string ⟨f.name.toArray⟩, .string ⟨f.kind.signs.toArray⟩, .string ⟨f.kind.base.toArray⟩, .string ⟨f.kind.name.toArray⟩, .string ⟨f.given.toArray⟩] _ (r7 hL) Tryz.underlying115 rfl (by kernel_rfl) ?_
                  exact hK (.agg ([.int .i64 (f.tag : Int), .string ⟨f.name.toArray⟩, .string ⟨f.kind.signs.toArray⟩, .string ⟨f.kind.base.toArray⟩, .string ⟨f.kind.name.toArray⟩, .string ⟨f.given.toArray⟩] : List Value).toArray) _ _ rfl trivial ⟨r1, r2, r3, r4, r5, r6, fun h => by simp at h, r8, r9, r0⟩ rfl
                · obtain ⟨r1, r2, r3, r4, r5, r6, r7, r8, r9, r0⟩ := HR.out
                  have R1 := Lib.hid r1
                  have u5 := hpre.2
                  have HF5 := Lib.hid (rangeAt_new W [.int .i64 (f.tag : Int), .string ⟨f.name.toArray⟩, .string ⟨f.kind.signs.toArray⟩, .string ⟨f.kind.base.toArray⟩, .string ⟨f.kind.name.toArray⟩, .string ⟨f.given.toArray⟩] 115)
                  have HRR := Lib.hid (show (∀ j (hj : j < ps.length), (W.alloc (.cells #[.int .i64 (f.tag : Int), .string ⟨f.name.toArray⟩, .string ⟨f.kind.signs.toArray⟩, .string ⟨f.kind.base.toArray⟩, .string ⟨f.kind.name.toArray⟩, .string ⟨f.given.toArray⟩] 115)).cell? ⟨g, j, none⟩ = some (.string ⟨ps[j].toArray⟩)) ∧ ((W.alloc (.cells #[.int .i64 (f.tag : Int), .string ⟨f.name.toArray⟩, .string ⟨f.kind.signs.toArray⟩, .string ⟨f.kind.base.toArray⟩, .string ⟨f.kind.name.toArray⟩, .string ⟨f.given.toArray⟩] 115)).there w2.heap.size 0 4 ∧ Blk (W.alloc (.cells #[.int .i64 (f.tag : Int), .string ⟨f.name.toArray⟩, .string ⟨f.kind.signs.toArray⟩, .string ⟨f.kind.base.toArray⟩, .string ⟨f.kind.name.toArray⟩, .string ⟨f.given.toArray⟩] 115)) w2.heap.size) ∧
                    (L 10 = false → (W.alloc (.cells #[.int .i64 (f.tag : Int), .string ⟨f.name.toArray⟩, .string ⟨f.kind.signs.toArray⟩, .string ⟨f.kind.base.toArray⟩, .string ⟨f.kind.name.toArray⟩, .string ⟨f.given.toArray⟩] 115)).rangeAt w2.heap.size 0 [.int .u8 (c.toNat : Int), .string ⟨nm.toArray⟩, .slice A acc.length cA, .string ⟨(c :: r).toArray⟩]) ∧ (L 10 = true → (W.alloc (.cells #[.int .i64 (f.tag : Int), .string ⟨f.name.toArray⟩, .string ⟨f.kind.signs.toArray⟩, .string ⟨f.kind.base.toArray⟩, .string ⟨f.kind.name.toArray⟩, .string ⟨f.given.toArray⟩] 115)).rangeAt w2.heap.size 0 [.int .u8 (c.toNat : Int), .string ⟨nm.toArray⟩, U 7, .string ⟨(c :: r).toArray⟩]) ∧
                    (L 5 = false → (W.alloc (.cells #[.int .i64 (f.tag : Int), .string ⟨f.name.toArray⟩, .string ⟨f.kind.signs.toArray⟩, .string ⟨f.kind.base.toArray⟩, .string ⟨f.kind.name.toArray⟩, .string ⟨f.given.toArray⟩] 115)).rangeAt w4.heap.size 0 [.int .i64 (f.tag : Int), .string ⟨f.name.toArray⟩, .string ⟨f.kind.signs.toArray⟩, .string ⟨f.kind.base.toArray⟩, .string ⟨f.kind.name.toArray⟩, .string ⟨f.given.toArray⟩]) ∧ (L 7 = false → (W.alloc (.cells #[.int .i64 (f.tag : Int), .string ⟨f.name.toArray⟩, .string ⟨f.kind.signs.toArray⟩, .string ⟨f.kind.base.toArray⟩, .string ⟨f.kind.name.toArray⟩, .string ⟨f.given.toArray⟩] 115)).ownsRow w3.heap.size 115 6 (.slice A acc.length cA) acc.length (acc.flatMap ifc)) ∧ (L 7 = true → (W.alloc (.cells #[.int .i64 (f.tag : Int), .string ⟨f.name.toArray⟩, .string ⟨f.kind.signs.toArray⟩, .string ⟨f.kind.base.toArray⟩, .string ⟨f.kind.name.toArray⟩, .string ⟨f.given.toArray⟩] 115)).ownsRow w3.heap.size 115 6 (U 7) (acc.length + 1) (acc.flatMap ifc ++ ifc f))
                    from ⟨fun j hj => by rw [World.cell?_alloc_old _ _ _ (show g ≠ W.heap.size by omega)]; exact r3 j hj, ⟨World.there_alloc r4.1 _, r4.2.belowAt (show w2.heap.size < W.heap.size by omega) ((Below.refl _ _).alloc (Nat.le_refl _) _)⟩, fun h => World.rangeAt_alloc (r5 h) _, fun h => World.rangeAt_alloc (r6 h) _, fun h => World.rangeAt_alloc (r7 h) _, fun h => (r8 h).alloc _, fun h => (r9 h).alloc _⟩)
                  clear r1 r3 r4 r5 r6 r7 r8 r9 r0
                  go_simp
                  refine hK (.slice (some ⟨W.heap.size, 0, none⟩) 1 1) _ _ trivial trivial ⟨R1.out.alloc R1.out.size _, by simp; omega, HRR.out.1, HRR.out.2.1, HRR.out.2.2.1, HRR.out.2.2.2.1, HRR.out.2.2.2.2.1, HRR.out.2.2.2.2.2.1, HRR.out.2.2.2.2.2.2, fun _ _ => ⟨W.heap.size, rfl, HF5.out⟩⟩ (by simp [Act.put, u5])
                · obtain ⟨r1, r2, r3, r4, r5, r6, r7, r8, r9, r0⟩ := HR.out
                  have h10 := (Hdep.out 10 _ rfl { on := 7, ground := Ground.data } (by simp) (by rfl) hL)
                  have h7 := r8 hL
                  obtain ⟨q, e1, e2⟩ := r0 hpre.2 hL
                  obtain ⟨i0, hi, hz0, hz1, hz2'⟩ := info_parts Tryz.infoIf
                  rw [if_pos (by rfl)]
                  refine wp_append_own W (.tmp 102) (.tmp 104) 111 rfl w3.heap.size 115 i0 (.agg #[.int .i64 0, .string ⟨#[]⟩, .string ⟨#[]⟩, .string ⟨#[]⟩, .string ⟨#[]⟩, .string ⟨#[]⟩]) 6 88 Tryz.underlying111 hi hz0 hz1 hz2' rfl (by decide) (.slice A acc.length cA) acc.length (acc.flatMap ifc) hpre.1.2 h7 ⟨q, 0, none⟩ 1 1 (ifc f) e1 (by simp [ifc]) ?_ (fun y hy => ifc_one [f] y (by simpa using hy)) (by unfold maxLen; omega) (by omega) r2 ?_
                  · intro i x hx
                    rw [addr0]
                    have := e2 i x hx
                    simpa using this
                  · intro v' w' hown' hgr _
                    have hbw : Below w3.heap.size W w' := (Below.refl _ _).grown hgr r2 (fun k hk => (h7.lt k hk).1)
                    refine hK v' w' _ trivial trivial ⟨r1.trans (hbw.mono hz6), Nat.le_trans r2 hbw.size, fun j hj => (hbw.cell (p := ⟨g, j, none⟩) (show g < w3.heap.size by omega)).trans (r3 j hj), ⟨there_below r4.1 hz3 hbw, r4.2.belowAt hz3 hbw⟩, fun h => rangeAt_below (r5 h) hz3 hbw, fun h => absurd h10 (by rw [show L 10 = true from h]; decide), fun h => absurd hpre.2 (by rw [Hdep.out 6 _ rfl { on := 5, ground := Ground.data } (by simp) (by rfl) h]; decide), fun h => by simp at h, fun _ => hown', fun _ h => by simp at h⟩ rfl
                · have u0 := hpre.1.2
                  go_simp
                  exact hK (.pointer (some ⟨w2.heap.size, 0, none⟩)) _ _ rfl trivial HR.out (by simp [Act.put, hpre])
                · have u8 := hpre.2
                  go_simp
                  exact hK (.pointer (some ⟨w2.heap.size, 2, none⟩)) _ _ rfl trivial HR.out (by simp [Act.put, hpre])
                · obtain ⟨r1, r2, r3, r4, r5, r6, r7, r8, r9, r0⟩ := HR.out
                  have R1 := Lib.hid r1
                  have l7 : L 7 = true := by first | exact hpre.2.1 | exact hpre.2.1.1
                  have h5 := r5 hL
                  have h9 := r9 l7
                  obtain ⟨A7, n7, c7, e7⟩ := own_slice h9
                  rw [e7] at h9
                  obtain ⟨y2, c2⟩ := Option.isSome_iff_exists.1 (r4.1 2 (by decide)).1
                  rw [Nat.zero_add] at c2
                  have z2 : W.frozen? ⟨w2.heap.size, 2, none⟩ = false := by simpa using (r4.1 2 (by decide)).2
                  have hT10 := Lib.hid (show (W.setCell ⟨w2.heap.size, 2, none⟩ (.slice A7 n7 c7)).rangeAt w2.heap.size 0 [.int .u8 (c.toNat : Int), .string ⟨nm.toArray⟩, (.slice A7 n7 c7), .string ⟨(c :: r).toArray⟩] from rangeAt_setCells_in [.int .u8 (c.toNat : Int), .string ⟨nm.toArray⟩] [.slice A acc.length cA] [.string ⟨(c :: r).toArray⟩] [.slice A7 n7 c7] h5 rfl)
                  have hK10 := Lib.hid (show (W.setCell ⟨w2.heap.size, 2, none⟩ (.slice A7 n7 c7)).there w2.heap.size 0 4 from World.there_setCells r4.1 w2.heap.size 2 [.slice A7 n7 c7])
                  have hBk10 := Lib.hid (r4.2.set (o := 2) (.slice A7 n7 c7))
                  have hP10 := Lib.hid (show ∀ j (hj : j < ps.length), (W.setCell ⟨w2.heap.size, 2, none⟩ (.slice A7 n7 c7)).cell? ⟨g, j, none⟩ = some (.string ⟨ps[j].toArray⟩) from fun j hj => by
                    rw [World.cell?_setCell_other _ _ _ _ (by intro e; injection e with e; omega)]; exact r3 j hj)
                  have hO10 := Lib.hid (show (W.setCell ⟨w2.heap.size, 2, none⟩ (.slice A7 n7 c7)).ownsRow w3.heap.size 115 6 (.slice A7 n7 c7) (acc.length + 1) (acc.flatMap ifc ++ ifc f) from h9.kept (grown_set W _ (.slice A7 n7 c7)) (.inr (fun e => by have := (h9.lt _ e).1; simp at this; omega)))
                  have hz10 : w3.heap.size ≤ (W.setCell ⟨w2.heap.size, 2, none⟩ (.slice A7 n7 c7)).heap.size := by simpa using r2
                  have hB10 := Lib.hid (show Below w.heap.size w (W.setCell ⟨w2.heap.size, 2, none⟩ (.slice A7 n7 c7)) from r1.setCell hz2 _)
                  clear r1 r3 r4 r5 r6 r7 r8 r9 r0 h5 h9
                  go_simp
                  exact hK undef _ _ trivial trivial ⟨hB10.out, hz10, hP10.out, ⟨hK10.out, hBk10.out⟩, fun h => by simp at h, fun _ => by show World.rangeAt _ _ _ [_, _, U 7, _]; rw [e7]; exact hT10.out, fun h => absurd l7 (by rw [(Hdep.out 7 _ rfl { on := 6, ground := Ground.data } (by simp) (by rfl) (Hdep.out 6 _ rfl { on := 5, ground := Ground.data } (by simp) (by rfl) h))]; decide), fun h => absurd l7 (by rw [show L 7 = false from h]; decide), fun _ => by show World.ownsRow _ _ _ _ (U 7) _ _; rw [e7]; exact hO10.out, fun _ h => absurd l7 (by rw [show L 7 = false from h]; decide)⟩ (by simp [Act.put, hpre, e7])
              · rintro L U W hL hφ hR
                obtain ⟨hbW, hzW, hprW, hKW, _, hTW, _, _, hoW, _⟩ := hR
                have hTW' := hTW (hL 10 (by decide))
                have hoW' := hoW (hL 7 (by decide))
                generalize U 7 = V at hTW' hoW'
                have HbW := Lib.hid hbW
                have HprW := Lib.hid hprW
                have HKW := Lib.hid hKW.1
                have HBW := Lib.hid hKW.2
                have HTW := Lib.hid hTW'
                have HoW := Lib.hid hoW'
                clear hL hφ hbW hprW hKW hTW hoW hTW' hoW'
                go_wp2_with fail
                go_roundw
                case rel => exact ⟨k + 1, acc ++ [f], V, by go_num, by omega, by simp; omega, Hft4.out, by rw [List.length_append, List.flatMap_append, show [f].flatMap ifc = ifc f from by simp]; exact HoW.out, HbW.out, hzW, HprW.out, HTW.out, HKW.out, HBW.out⟩
                case measure => simp [intOf]; omega
    · have i2 : ¬ (k : Int) < (ps.length : Int) := by omega
      have Hfin := Lib.hid (show typeI (c :: r) = some ⟨c, nm, acc⟩ by rw [hft.out, List.drop_of_length_le (by omega)]; rfl)
      go_wp2_with fail
      go_ret2
      refine ItPost.yes Hfin.out (b := w2.heap.size) (fv := .slice A acc.length cA) rfl hz2 ?_ (fun k hk => by have := (hown.out.lt k hk).1; omega) hbr.out
      refine ⟨show w2.heap.size < wo.heap.size by omega, hB.out, by simpa using rangeAt_cell hT.out 0 rfl, by simpa using rangeAt_cell hT.out 1 rfl, by simpa using rangeAt_cell hT.out 2 rfl, ?_, A, cA, rfl, ha8, Hrow.out⟩
      have hB := (typeI_some.1 Hfin.out).2
      show _ = some (Value.string ⟨(tyB ⟨c, nm, acc⟩).toArray⟩)
      rw [hB]
      simpa using rangeAt_cell hT.out 3 rfl

theorem readType_any (s : List UInt8) (w : World) (hs : s.length ≤ 4000000) :
    Calls Tryz.prog 110 #[.string ⟨s.toArray⟩] w (ItPost (typeI s) w) := by
  cases s with
  | nil => exact iType_nil w
  | cons c r =>
    simp at hs
    by_cases hc : sortOk c
    · by_cases h : (cutL 61 r).2.2 = false ∨ nameOk (cutL 61 r).1 = false ∨ (cutL 61 r).2.1 = []
      · exact iType_head c r w (by omega) hc h
      · simp only [not_or] at h
        exact iType_full c r (cutL 61 r).1 (cutL 61 r).2.1 w (by omega) hc (Prod.ext rfl (Prod.ext rfl (by simpa using h.1))) (by simpa using h.2.1) h.2.2
    · exact iType_sort c r w (by omega) hc
end Go.Proofs.YtcjfgbcdlcdeaaaGreatDoor
/- has, ends and both of the program. -/
namespace Go.Proofs.YtcjfgbcdlcdeaaaGreatDoor
open Go.RowKit
set_option maxRecDepth 100000
set_option linter.unusedVariables false
set_option linter.unusedSimpArgs false
attribute [local go_sem] ba_get ba_toList ba_extract take_drop_all ByteArray.mk_append_mk

/-- What the program's map knows while a schema is read: some block that reads as a map of names. -/
def IMap (w : World) (p : Value) (xs : List PT) : Prop :=
  ∃ b mb, p = .pointer (some ⟨b, 0, none⟩) ∧ b < w.heap.size ∧ w.cell? ⟨b, 1, none⟩ = some (.map (some mb)) ∧ INamed w mb xs
theorem ISc.map {w : World} {p : Value} {xs : List PT} (h : ISc w p xs) : IMap w p xs := by
  obtain ⟨b, A, c, mb, e, h0, h1, h2, h3, h4, _⟩ := h
  exact ⟨b, mb, e, h0, h2, h4⟩
theorem named_look {w : World} {mb : Nat} {xs : List PT} (h : INamed w mb xs) (n : Name) (hn : n.length ≤ 9223372036854775807) :
    (Instr.lookup 174 (.map (some mb)) (.string ⟨n.toArray⟩) false).run Tryz.prog w = .ok (ptrP (findP xs n)) w :=
  FMap.lookup h Tryz.keyStr Tryz.underlying174 (Tryz.zeroPtr w) (keyName hn)
theorem name_short {k : Kd} (h : kdOk k) : k.name.length ≤ 3 := by
  rcases h.2.1 with ⟨_, hn⟩ | ⟨_, hn⟩
  · exact (nameOk_iff.1 hn).2.1
  · rw [hn]; simp

set_option maxHeartbeats 1000000 in
theorem iHas_any (p : Value) (xs : List PT) (k : Kd) (w : World) (h : IMap w p xs) (hk : k.name.length ≤ 100) :
    Calls Tryz.prog 89 #[p, kdV k] w fun e w' => e = .returned (.bool (decide (refOk (ptysOf xs) k))) ∧ Below w.heap.size w w' := by
  obtain ⟨b, mb, rfl, hb, hm, hn⟩ := h
  have Hn := Lib.hid hn
  clear hn
  unfold kdV
  generalize hd : (.cells #[.string ⟨k.signs.toArray⟩, .string ⟨k.base.toArray⟩, .string ⟨k.name.toArray⟩] 83 : Obj) = ob
  have hl0 : w.heap.size < (w.alloc ob).heap.size := by simp
  have x1 : (w.alloc ob).cell? ⟨w.heap.size, 1, none⟩ = some (.string ⟨k.base.toArray⟩) := by rw [← hd]; simp
  have x2 : (w.alloc ob).cell? ⟨w.heap.size, 2, none⟩ = some (.string ⟨k.name.toArray⟩) := by rw [← hd]; simp
  have x3 : (w.alloc ob).cell? ⟨b, 1, none⟩ = some (.map (some mb)) := by rw [World.cell?_alloc_old _ _ _ (show b ≠ w.heap.size by omega)]; exact hm
  have hlook : ∀ q, (Instr.lookup 174 (.map (some mb)) (.string ⟨k.name.toArray⟩) false).run Tryz.prog ((w.alloc ob).drewN q) = .ok (ptrP (findP xs k.name)) ((w.alloc ob).drewN q) := fun q => named_look (FMap.below (Hn.out.alloc _) (below_drewN (Below.refl _ _) q)) k.name (by omega)
  have Hd := Lib.hid hd
  have Hr := Lib.hid (show decide (refOk (ptysOf xs) k) = (decide (k.base ≠ [64]) || (findP xs k.name).isSome) by
    have e : refOk (ptysOf xs) k ↔ (k.base = [64] → (findP xs k.name).isSome = true) := by unfold refOk; rw [findP_ty]; simp
    by_cases h : k.base = [64]
    · cases hf : findP xs k.name with
      | none => rw [decide_eq_false (fun h2 => by have := e.1 h2 h; rw [hf] at this; cases this)]; simp [h]
      | some x => rw [decide_eq_true (e.2 (fun _ => by rw [hf]; rfl))]; simp
    · rw [decide_eq_true (e.2 (fun h2 => absurd h2 h))]; simp [h])
  have Hb := Lib.hid (show Below w.heap.size w (w.alloc ob) from (Below.refl _ _).alloc (Nat.le_refl _) _)
  go_enter Tryz.func89, Tryz.ntmps89
  rcases Decidable.em (k.base = [64]) with h64 | h64
  · have t1 : (k.base != [64]) = false := by simp [h64]
    have H64 := Lib.hid h64
    clear h64 hd hl0
    go_wp2_with fail
    rw [Hd.out]
    cases hf : findP xs k.name with
    | none =>
      rw [hf] at hlook
      have Hf := Lib.hid hf
      clear hf
      unfold ptrP at hlook
      refine wp_region_slots3 [5, 6, 7, 8, 9, 10, 11, 12, 13, 14, 15, 16, 17, 4] (by kernel_rfl) (by kernel_rfl) (by kernel_rfl) (fun u => by dsimp only [frameOf, setMany, List.set, Nat.zero_add, Nat.reduceAdd])
        (fun i v W => match i with | 0 => v = .pointer (some ⟨w.heap.size, 1, none⟩) | 1 => v = .string ⟨k.base.toArray⟩ | 2 => v = .bool false | 3 => v = .bool false | 4 => v = .pointer (some ⟨b, 0, none⟩) | 5 => v = .pointer (some ⟨b, 0, none⟩) | 6 => v = .pointer (some ⟨b, 1, none⟩) | 7 => v = .map (some mb) | 8 => v = .pointer (some ⟨w.heap.size, 2, none⟩) | 9 => v = .string ⟨k.name.toArray⟩ | 10 => v = .pointer none | 11 => v = .bool false | 12 => v = .bool false | 13 => v = .bool false | _ => True) (fun L U W => ∃ q, W = (w.alloc ob).drewN q) (fun _ _ => True) (fun _ _ _ _ _ h => h) ⟨1, rfl⟩ ?_ ?_
      · repeat (first | exact Steps.nil | (refine Steps.cons ?_ ?_; rotate_left))
        all_goals
          rintro L U W hL hpre ⟨q, rfl⟩ hun hdep K hK
          have hlq := hlook q
          clear hun hdep
          first | (simp [Region.binds] at hpre; done) | simp [Region.binds] at hpre | clear hpre
          go_simp
          first | exact hK _ _ _ rfl trivial ⟨q, rfl⟩ rfl | exact hK _ _ _ rfl trivial ⟨q, rfl⟩ (by simp [Act.put, hpre, H64.out]) | exact hK undef _ _ trivial trivial ⟨q, rfl⟩ (by simp [Act.put, hpre, H64.out]) | exact hK _ _ _ trivial trivial ⟨q, rfl⟩ rfl | exact hK _ _ _ trivial trivial ⟨q, rfl⟩ (by simp [Act.put, hpre, H64.out])
      · rintro L U W hL hφ ⟨q, rfl⟩
        have e13 : U 13 = .bool false := hφ 13 (by decide)
        simp only [e13]
        go_wp2_with fail
        go_ret
        exact ⟨ret1 (vbool (by rw [Hr.out, Hf.out]; simp [H64.out])), below_drewN Hb.out _⟩
    | some x =>
      rw [hf] at hlook
      have Hf := Lib.hid hf
      clear hf
      unfold ptrP PT.ptr at hlook
      refine wp_region_slots3 [5, 6, 7, 8, 9, 10, 11, 12, 13, 14, 15, 16, 17, 4] (by kernel_rfl) (by kernel_rfl) (by kernel_rfl) (fun u => by dsimp only [frameOf, setMany, List.set, Nat.zero_add, Nat.reduceAdd])
        (fun i v W => match i with | 0 => v = .pointer (some ⟨w.heap.size, 1, none⟩) | 1 => v = .string ⟨k.base.toArray⟩ | 2 => v = .bool false | 3 => v = .bool false | 4 => v = .pointer (some ⟨b, 0, none⟩) | 5 => v = .pointer (some ⟨b, 0, none⟩) | 6 => v = .pointer (some ⟨b, 1, none⟩) | 7 => v = .map (some mb) | 8 => v = .pointer (some ⟨w.heap.size, 2, none⟩) | 9 => v = .string ⟨k.name.toArray⟩ | 10 => v = .pointer (some ⟨x.blk, 0, none⟩) | 11 => v = .bool true | 12 => v = .bool true | 13 => v = .bool true | _ => True) (fun L U W => ∃ q, W = (w.alloc ob).drewN q) (fun _ _ => True) (fun _ _ _ _ _ h => h) ⟨1, rfl⟩ ?_ ?_
      · repeat (first | exact Steps.nil | (refine Steps.cons ?_ ?_; rotate_left))
        all_goals
          rintro L U W hL hpre ⟨q, rfl⟩ hun hdep K hK
          have hlq := hlook q
          clear hun hdep
          first | (simp [Region.binds] at hpre; done) | simp [Region.binds] at hpre | clear hpre
          go_simp
          first | exact hK _ _ _ rfl trivial ⟨q, rfl⟩ rfl | exact hK _ _ _ rfl trivial ⟨q, rfl⟩ (by simp [Act.put, hpre, H64.out]) | exact hK undef _ _ trivial trivial ⟨q, rfl⟩ (by simp [Act.put, hpre, H64.out]) | exact hK _ _ _ trivial trivial ⟨q, rfl⟩ rfl | exact hK _ _ _ trivial trivial ⟨q, rfl⟩ (by simp [Act.put, hpre, H64.out])
      · rintro L U W hL hφ ⟨q, rfl⟩
        have e13 : U 13 = .bool true := hφ 13 (by decide)
        simp only [e13]
        go_wp2_with fail
        go_ret
        exact ⟨ret1 (vbool (by rw [Hr.out, Hf.out]; simp)), below_drewN Hb.out _⟩
  · have t1 : (k.base != [64]) = true := by simp [h64]
    have H64 := Lib.hid h64
    clear h64 hd hl0
    go_wp2_with fail
    rw [Hd.out]
    refine wp_region_slots3 [5, 6, 7, 8, 9, 10, 11, 12, 13, 14, 15, 16, 17, 4] (by kernel_rfl) (by kernel_rfl) (by kernel_rfl) (fun u => by dsimp only [frameOf, setMany, List.set, Nat.zero_add, Nat.reduceAdd])
      (fun i v W => match i with | 0 => v = .pointer (some ⟨w.heap.size, 1, none⟩) | 1 => v = .string ⟨k.base.toArray⟩ | 2 => v = .bool true | 3 => v = .bool true | 12 => v = .bool true | 13 => v = .bool true | _ => True) (fun L U W => ∃ q, W = (w.alloc ob).drewN q) (fun _ _ => True) (fun _ _ _ _ _ h => h) ⟨1, rfl⟩ ?_ ?_
    · repeat (first | exact Steps.nil | (refine Steps.cons ?_ ?_; rotate_left))
      all_goals
        rintro L U W hL hpre ⟨q, rfl⟩ hun hdep K hK
        have hlq := hlook q
        clear hun hdep
        first | (simp [Region.binds] at hpre; done) | simp [Region.binds] at hpre | clear hpre
        go_simp
        first | exact hK _ _ _ rfl trivial ⟨q, rfl⟩ rfl | exact hK _ _ _ rfl trivial ⟨q, rfl⟩ (by simp [Act.put, hpre, H64.out]) | exact hK undef _ _ trivial trivial ⟨q, rfl⟩ (by simp [Act.put, hpre, H64.out]) | exact hK _ _ _ trivial trivial ⟨q, rfl⟩ rfl | exact hK _ _ _ trivial trivial ⟨q, rfl⟩ (by simp [Act.put, hpre, H64.out])
    · rintro L U W hL hφ ⟨q, rfl⟩
      have e13 : U 13 = .bool true := hφ 13 (by decide)
      simp only [e13]
      go_wp2_with fail
      go_ret
      exact ⟨ret1 (vbool (by rw [Hr.out]; simp [H64.out])), below_drewN Hb.out _⟩
end Go.Proofs.YtcjfgbcdlcdeaaaGreatDoor
