/- Texts joined: Reg, Reg2, Reg3, ArgsR. Conditions: as each theorem names them. -/
import Derived.OwnWalk
import Derived.Deep.Slices
import Derived.Deep.Fields
import Derived.Test.YtdhinlhafoiaiaaGreatDoorK09
import Derived.Test.YtdhinlhafoiaiaaGreatDoorK14
import Derived.Test.YtdhinlhafoiaiaaGreatDoorK17
import Derived.Test.YtdhinlhafoiaiaaGreatDoorK21
import Derived.Test.YtdhinlhafoiaiaaGreatDoorK22
/- Versions and registries in memory; those that a law makes of its argument; their sizes; whether they are the same. -/
namespace Go.Proofs.YtdhinlhafoiaiaaGreatDoor
open Go.RowKit
set_option maxRecDepth 100000
set_option linter.unusedVariables false
set_option linter.unusedSimpArgs false
attribute [local go_sem] ba_get ba_toList ba_extract take_drop_all ByteArray.mk_append_mk

/-- A version: a schema and a kind, as texts. -/
abbrev Ver := List UInt8 × List UInt8
def verc (v : Ver) : List Value := [.string ⟨v.1.toArray⟩, .string ⟨v.2.toArray⟩]
theorem verc_len (v : Ver) : (verc v).length = 2 := rfl
/-- Cells that lie behind a pointer, if there are any. -/
def CellsAt (w : World) (A : Option Addr) (xs : List Value) : Prop := 0 < xs.length → ∃ b off, A = some ⟨b, off, none⟩ ∧ b < w.heap.size ∧ ∀ j u, xs[j]? = some u → w.cell? ⟨b, off + j, none⟩ = some u
theorem CellsAt.below {w w' : World} {A : Option Addr} {xs : List Value} (h : CellsAt w A xs) (hb : Below w.heap.size w w') : CellsAt w' A xs := fun hn => by
  obtain ⟨b, off, e, hlt, hc⟩ := h hn
  exact ⟨b, off, e, Nat.lt_of_lt_of_le hlt hb.size, fun j u hu => (hb.cell (p := ⟨b, off + j, none⟩) hlt).trans (hc j u hu)⟩
/-- A slice value that reads as versions. -/
def VRow (w : World) (v : Value) (vs : List Ver) : Prop := ∃ A c, v = .slice A vs.length c ∧ vs.length ≤ c ∧ vs.length ≤ maxLen ∧ CellsAt w A (vs.flatMap verc)
theorem VRow.below {w w' : World} {v : Value} {vs : List Ver} (h : VRow w v vs) (hb : Below w.heap.size w w') : VRow w' v vs := by
  obtain ⟨A, c, e, hc, hm, hr⟩ := h
  exact ⟨A, c, e, hc, hm, hr.below hb⟩
theorem VRow.at_ {w : World} {A : Option Addr} {vs : List Ver} (hr : CellsAt w A (vs.flatMap verc)) {i : Nat} (hi : i < vs.length) :
    ∃ b off, A = some ⟨b, off, none⟩ ∧ b < w.heap.size ∧ w.cell? ⟨b, off + i * 2, none⟩ = some (.string ⟨vs[i].1.toArray⟩) ∧ w.cell? ⟨b, off + i * 2 + 1, none⟩ = some (.string ⟨vs[i].2.toArray⟩) := by
  obtain ⟨b, off, e, hlt, hc⟩ := hr (by rw [flatMap_len verc_len]; omega)
  refine ⟨b, off, e, hlt, ?_, ?_⟩
  · have := hc (i * 2 + 0) (.string ⟨vs[i].1.toArray⟩) (by rw [flatMap_get verc_len vs i 0 hi (by decide)]; rfl)
    simpa using this
  · have := hc (i * 2 + 1) (.string ⟨vs[i].2.toArray⟩) (by rw [flatMap_get verc_len vs i 1 hi (by decide)]; rfl)
    simpa [Nat.add_assoc] using this

theorem toVersion_any (a b : ByteArray) (w : World) : Calls Tryz.prog 26 #[.agg #[.string a, .string b]] w fun e w' => e = .returned (.agg #[.string a, .string b]) ∧ Below w.heap.size w w' := by
  go_enter Tryz.func26, Tryz.ntmps26
  go_wp2_with fail
  exact bodyPost_ret (v := .agg #[.string a, .string b]) (by simp [results, Tryz.results26, go_sem]) rfl ⟨rfl, (((Below.refl _ _).alloc (Nat.le_refl _) _).alloc (by simp) _).alloc (by simp; omega) _⟩

theorem there_own {w : World} {base k n : Nat} {e : TypeId} {g cap : Nat} {xs : List Value} (h : w.ownsRow base e k (.slice (some ⟨g, 0, none⟩) n cap) n xs) : w.there g 0 (n * k) := fun j hj => by
  rcases h.2 with ⟨h0, _⟩ | ⟨g', cap', cur, e1, hb, hh, hnc, hcm, hcs, htk⟩
  · cases h0
  · injection e1 with e1 _ e2
    injection e1 with e1
    injection e1 with e1
    subst e1 e2
    have hlt : j < cur.size := by rw [hcs]; exact Nat.lt_of_lt_of_le hj (Nat.mul_le_mul_right _ hnc)
    refine ⟨?_, ?_⟩
    · simp only [World.cell?, hh, Nat.zero_add]
      simp [hlt]
    · simp [World.frozen?, hh]
theorem rangeAt_append {w : World} {b o : Nat} {l1 l2 : List Value} (h1 : w.rangeAt b o l1) (h2 : w.rangeAt b (o + l1.length) l2) : w.rangeAt b o (l1 ++ l2) := fun j v hv => by
  rcases Nat.lt_or_ge j l1.length with h | h
  · rw [List.getElem?_append_left h] at hv; exact h1 j v hv
  · rw [List.getElem?_append_right h] at hv
    have := h2 (j - l1.length) v hv
    rwa [show o + l1.length + (j - l1.length) = o + j by omega] at this
theorem Tryz.infoVer : (Tryz.prog.info? 46).map (fun i => (i.zero, i.size, i.bytes)) = some (some (.agg #[.string ⟨#[]⟩, .string ⟨#[]⟩]), 2, 32) := by kernel_rfl
theorem verc_one (vs : List Ver) : ∀ y ∈ vs.flatMap verc, y.oneCell' = true := by
  intro y hy
  obtain ⟨v, _, hv⟩ := List.mem_flatMap.1 hy
  simp [verc] at hv
  rcases hv with rfl | rfl <;> rfl

/-- A row of versions that the call made. -/
def VOwn (lo : Nat) (w : World) (v : Value) (vs : List Ver) : Prop := ∃ g, v = .slice (some ⟨g, 0, none⟩) vs.length vs.length ∧ lo ≤ g ∧ g < w.heap.size ∧ w.rangeAt g 0 (vs.flatMap verc)
theorem VOwn.row {lo : Nat} {w : World} {v : Value} {vs : List Ver} (h : VOwn lo w v vs) (hn : vs.length ≤ 1048576) : VRow w v vs := by
  obtain ⟨g, e, _, hg, hr⟩ := h
  exact ⟨_, _, e, Nat.le_refl _, by unfold maxLen; omega, fun _ => ⟨g, 0, rfl, hg, hr⟩⟩
theorem VOwn.set {lo : Nat} {w : World} {v : Value} {vs : List Ver} (h : VOwn lo w v vs) {b : Nat} (hb : b < lo) (u : Value) : VOwn lo (w.setCell ⟨b, 0, none⟩ u) v vs := by
  obtain ⟨g, e, h1, hg, hr⟩ := h
  exact ⟨g, e, h1, by simpa using hg, World.rangeAt_setCells_apart hr b 0 [u] (.inl (by omega))⟩

set_option maxHeartbeats 1000000 in
theorem toVersionS_any (v : Value) (vs : List Ver) (w : World) (h : VRow w v vs) (hn : vs.length ≤ 1048576) :
    Calls Tryz.prog 69 #[v] w fun e w' => ∃ v', e = .returned v' ∧ VOwn w.heap.size w' v' vs ∧ Below w.heap.size w w' := by
  obtain ⟨i0, hi, hz0, hz1, hz2⟩ := info_parts Tryz.infoVer
  obtain ⟨A, c, rfl, hcap, hvm, hr⟩ := h
  have Hr := Lib.hid hr
  clear hr
  go_enter Tryz.func69, Tryz.ntmps69
  go_wp2_with (at_make; refine wpList_make_full _ rfl _ _ 40 rfl w.heap.size 46 i0 (.agg #[.string ⟨#[]⟩, .string ⟨#[]⟩]) 2 Tryz.underlying40 hi hz0 hz1 .i64 .i64 _ _ vs.length rfl rfl rfl rfl (by rw [hz2]; omega) (by unfold maxLen; omega) (Nat.le_refl _) ?_; intro w0 hown0 hgrow0)
  have T0 := Lib.hid (there_own hown0)
  have hg0 : w.heap.size < w0.heap.size := (hown0.lt _ rfl).2
  have Hb0 := Lib.hid (show Below w.heap.size w w0 from (Below.refl _ _).grown hgrow0 (Nat.le_refl _) (by simp))
  clear hown0 hgrow0
  go_loopw [4] (fun i wr => ∃ k : Nat, i = .int .i64 k ∧ k ≤ vs.length ∧ Hid (wr.there w.heap.size 0 (vs.length * 2)) ∧ Hid (wr.rangeAt w.heap.size 0 ((vs.take k).flatMap verc)) ∧ Hid (Below w.heap.size w wr) ∧ w.heap.size < wr.heap.size) (fun i _ => vs.length - (intOf i).toNat)
  case atStart => exact ⟨0, rfl, Nat.zero_le _, T0.out, fun j v hv => by simp at hv, Hb0.out, hg0⟩
  case round =>
    obtain ⟨k, rfl, hk, hT, hR, hb, hgz⟩ := hrel
    have k1 : (0 : Int) ≤ (k : Int) := by omega
    by_cases hlt : k < vs.length
    · have k2 : (k : Int) < (vs.length : Int) := by omega
      obtain ⟨b, off, rfl, hbl, c0, c1⟩ := VRow.at_ (Hr.out.below hb.out) hlt
      have Hts := Lib.hid (take_snoc vs k hlt)
      have hlen : ((vs.take k).flatMap verc).length = k * 2 := by rw [flatMap_len verc_len, List.length_take, Nat.min_eq_left hk]
      have Hlen := Lib.hid hlen
      generalize vs[k] = x at c0 c1 Hts
      clear hlen
      go_wp2_with fail
      refine (toVersion_any ⟨x.1.toArray⟩ ⟨x.2.toArray⟩ wr).mono ?_
      rintro e w1 ⟨rfl, hb1⟩
      have T1 := Lib.hid (show w1.there w.heap.size (k * 2) 2 from there_sub (there_below hT.out hgz hb1) (k * 2) 2 (Nat.zero_le _) (by omega))
      have T1' := Lib.hid (there_below hT.out hgz hb1)
      have R1 := Lib.hid (rangeAt_below hR.out hgz hb1)
      have Hb1 := Lib.hid (hb.out.trans (hb1.mono hb.out.size))
      have hz1 : wr.heap.size ≤ w1.heap.size := hb1.size
      clear hb1 c0 c1
      go_wp2_with ((with_reducible refine wpList_store_hid (op := ⟨none, .store 46 _ _, _, _, _, none⟩) rfl 46 _ _ rfl w.heap.size (k * 2) [.string ⟨x.1.toArray⟩, .string ⟨x.2.toArray⟩] ?_ ?_ ?_ ?_ ?_ ?_); (first | rfl | (simp; done)); rfl; (exact T1.out); kernel_rfl; (simp [Value.oneCell']); intro w9 HS9)
      go_roundw
      case rel =>
        refine ⟨k + 1, by go_num, by omega, ?_, ?_, ?_, ?_⟩
        · rw [HS9.out]; exact World.there_setCells T1'.out _ _ _
        · rw [HS9.out, Hts.out, List.flatMap_append]
          refine rangeAt_append (World.rangeAt_setCells_apart R1.out _ _ _ (.inr (.inl (by rw [Hlen.out]; omega)))) ?_
          rw [Hlen.out]
          simpa [verc] using World.rangeAt_setCells_same w1 w.heap.size (k * 2) [.string ⟨x.1.toArray⟩, .string ⟨x.2.toArray⟩] T1.out
        · rw [HS9.out]; exact below_setCells _ (Nat.le_refl _) _ _ _ Hb1.out
        · rw [HS9.out, setCells_size]; omega
      case measure => simp [intOf]; omega
    · obtain rfl : k = vs.length := by omega
      go_wp2_with fail
      go_ret
      have := hR.out
      rw [List.take_length] at this
      exact ⟨_, rfl, ⟨w.heap.size, rfl, Nat.le_refl _, hgz, this⟩, hb.out⟩

set_option maxHeartbeats 1000000 in
theorem toRegistry_any (v : Value) (vs : List Ver) (w : World) (h : VRow w v vs) (hn : vs.length ≤ 1048576) :
    Calls Tryz.prog 25 #[.agg #[v]] w fun e w' => ∃ v', e = .returned (.agg #[v']) ∧ VRow w' v' vs ∧ Below w.heap.size w w' := by
  have H := Lib.hid h
  obtain ⟨A, c, rfl, _⟩ := h
  go_enter Tryz.func25, Tryz.ntmps25
  go_wp2_with fail
  refine (toVersionS_any _ vs _ (H.out.below ((((Below.refl _ _).alloc (Nat.le_refl _) _).alloc (by simp) _).alloc (by simp; omega) _)) hn).mono ?_
  rintro e w1 ⟨v', rfl, hv, hb1⟩
  obtain ⟨hc1, hf1, hz⟩ := bcell hb1
  have T1 := Lib.hid (show w1.cell? ⟨w.heap.size + 1, 0, none⟩ = some (.slice none 0 0) from (hc1 (w.heap.size + 1) 0 (by simp)).trans (by simp [go_sem]))
  have t1 := T1.out
  have t2 : w1.cell? ⟨w.heap.size + 1 + 1, 0, none⟩ = some (.slice none 0 0) := (hc1 (w.heap.size + 1 + 1) 0 (by simp)).trans (by simp [go_sem])
  have u1 : w1.frozen? ⟨w.heap.size + 1, 0, none⟩ = false := (hf1 (w.heap.size + 1) 0 (by simp)).trans (by simp [go_sem])
  have u2 : w1.frozen? ⟨w.heap.size + 1 + 1, 0, none⟩ = false := (hf1 (w.heap.size + 1 + 1) 0 (by simp)).trans (by simp [go_sem])
  have hz1 : w.heap.size + 1 + 1 < w1.heap.size := hz _ (by simp)
  have Hv := Lib.hid hv
  obtain ⟨g1, rfl, hg1, _, _⟩ := hv
  simp at hg1
  have Hb1 := Lib.hid (show Below w.heap.size w w1 from ((((Below.refl _ _).alloc (Nat.le_refl _) _).alloc (by simp) _).alloc (by simp; omega) _).trans (hb1.mono (by simp; omega)))
  clear hb1 hc1 hf1 hz
  have hne : ¬ (w.heap.size + 1 + 1 = w.heap.size + 1) := by omega
  go_wp2_with fail
  refine bodyPost_ret (v := .agg #[.slice (some ⟨g1, 0, none⟩) vs.length vs.length]) (by simp [results, Tryz.results25, go_sem, t1, t2, u1, u2, hne, hz1]) rfl ?_
  exact ⟨_, rfl, ((Hv.out.set (by simp) _).set (by simp) _).row hn, (Hb1.out.setCell (by simp; omega) _).setCell (by simp) _⟩

/-! ### sizes -/
/-- What a size leaves: what is left, or -1; where something is left, the texts are short. -/
def SzPost (P : Int → Prop) (left : Int) (w : World) (e : Ending) (w' : World) : Prop := ∃ r : Int, e = .returned (.int .i64 r) ∧ -1 ≤ r ∧ r ≤ left ∧ (0 ≤ r → P left) ∧ Below w.heap.size w w'
set_option maxHeartbeats 1000000 in
theorem szVersion_any (a b : List UInt8) (left : Int) (w : World) (ha : a.length ≤ maxLen) (hb : b.length ≤ maxLen) (h0 : 0 ≤ left) (h1 : left ≤ 1048576) :
    Calls Tryz.prog 23 #[.agg #[.string ⟨a.toArray⟩, .string ⟨b.toArray⟩], .int .i64 left] w (SzPost (fun l => (a.length : Int) ≤ l ∧ (b.length : Int) ≤ l) left w) := by
  unfold maxLen at ha hb
  go_enter Tryz.func23, Tryz.ntmps23
  by_cases hl : left - (a.length : Int) < 0
  · go_wp2_with fail
    go_ret
    exact ⟨-1, rfl, by omega, by omega, fun h => by omega, (Below.refl _ _).alloc (Nat.le_refl _) _⟩
  · by_cases hl2 : left - (a.length : Int) - (b.length : Int) < 0
    · go_wp2_with fail
      go_ret
      exact ⟨-1, rfl, by omega, by omega, fun h => by omega, (Below.refl _ _).alloc (Nat.le_refl _) _⟩
    · go_wp2_with fail
      go_ret
      exact ⟨left - (a.length : Int) - (b.length : Int), rfl, by omega, by omega, fun h => ⟨by omega, by omega⟩, (Below.refl _ _).alloc (Nat.le_refl _) _⟩
set_option maxHeartbeats 1000000 in
theorem szVersionS_any (v : Value) (vs : List Ver) (w : World) (h : VRow w v vs) (hl : ∀ x ∈ vs, x.1.length ≤ maxLen ∧ x.2.length ≤ maxLen) :
    Calls Tryz.prog 68 #[v, .int .i64 1048576] w (SzPost (fun l => (vs.length : Int) ≤ l ∧ ∀ x ∈ vs, (x.1.length : Int) ≤ l ∧ (x.2.length : Int) ≤ l) 1048576 w) := by
  obtain ⟨A, c, rfl, hcap, hvm, hr⟩ := h
  have Hr := Lib.hid hr
  have Hl := Lib.hid hl
  have hlen := hvm
  unfold maxLen at hlen
  clear hr hl
  go_enter Tryz.func68, Tryz.ntmps68
  by_cases hbig : 1048576 - (vs.length : Int) < 0
  · go_wp2_with fail
    go_ret
    exact ⟨-1, rfl, by omega, by omega, fun h => by omega, Below.refl _ _⟩
  · go_wp2_with fail
    go_loopw [5, 1] (fun i l wr => ∃ (k : Nat) (r : Int), i = .int .i64 k ∧ l = .int .i64 r ∧ k ≤ vs.length ∧ 0 ≤ r ∧ r ≤ 1048576 ∧ Hid (∀ x ∈ vs.take k, (x.1.length : Int) ≤ 1048576 ∧ (x.2.length : Int) ≤ 1048576) ∧ Hid (Below w.heap.size w wr)) (fun i _ _ => vs.length - (intOf i).toNat)
    case atStart => exact ⟨0, 1048576 - (vs.length : Int), rfl, rfl, Nat.zero_le _, by omega, by omega, by intro x hx; simp at hx, Below.refl _ _⟩
    case round =>
      obtain ⟨k, r, rfl, rfl, hk, hr0, hr1, hin, hb⟩ := hrel
      have k1 : (0 : Int) ≤ (k : Int) := by omega
      by_cases hlt : k < vs.length
      · have k2 : (k : Int) < (vs.length : Int) := by omega
        obtain ⟨b, off, rfl, hbl, c0, c1⟩ := VRow.at_ (Hr.out.below hb.out) hlt
        have Hts := Lib.hid (take_snoc vs k hlt)
        have hxl := Hl.out _ (List.getElem_mem hlt)
        generalize vs[k] = x at c0 c1 Hts hxl
        have Hxl := Lib.hid hxl
        clear hxl
        go_wp2_with fail
        refine (szVersion_any x.1 x.2 r wr Hxl.out.1 Hxl.out.2 hr0 hr1).mono ?_
        rintro e w1 ⟨r', rfl, q1, q2, q3, hb1⟩
        have Hq := Lib.hid q3
        have Hb1 := Lib.hid (hb.out.trans (hb1.mono hb.out.size))
        clear q3 hb1 c0 c1
        by_cases hneg : r' < 0
        · go_wp2_with fail
          go_ret
          exact ⟨-1, rfl, by omega, by omega, fun h => by omega, Hb1.out⟩
        · have Hin := Lib.hid (show ∀ y ∈ vs.take (k + 1), (y.1.length : Int) ≤ 1048576 ∧ (y.2.length : Int) ≤ 1048576 from by
            intro y hy
            rw [Hts.out] at hy
            rcases List.mem_append.1 hy with hy | hy
            · exact hin.out y hy
            · simp at hy; subst hy; have := Hq.out (by omega); exact ⟨by omega, by omega⟩)
          go_wp2_with fail
          go_roundw
          case rel => exact ⟨k + 1, r', by go_num, rfl, by omega, by omega, by omega, Hin.out, Hb1.out⟩
          case measure => simp [intOf]; omega
      · obtain rfl : k = vs.length := by omega
        have Hall := Lib.hid hin.out
        rw [List.take_length] at Hall
        go_wp2_with fail
        go_ret
        exact ⟨r, rfl, by omega, hr1, fun _ => ⟨by omega, Hall.out⟩, hb.out⟩
set_option maxHeartbeats 1000000 in
theorem szRegistry_any (v : Value) (vs : List Ver) (w : World) (h : VRow w v vs) (hl : ∀ x ∈ vs, x.1.length ≤ maxLen ∧ x.2.length ≤ maxLen) :
    Calls Tryz.prog 22 #[.agg #[v], .int .i64 1048576] w (SzPost (fun l => (vs.length : Int) ≤ l ∧ ∀ x ∈ vs, (x.1.length : Int) ≤ l ∧ (x.2.length : Int) ≤ l) 1048576 w) := by
  have H := Lib.hid h
  have Hl := Lib.hid hl
  obtain ⟨A, c, rfl, _⟩ := h
  clear hl
  go_enter Tryz.func22, Tryz.ntmps22
  go_wp2_with fail
  refine (szVersionS_any _ vs _ (H.out.below ((Below.refl _ _).alloc (Nat.le_refl _) _)) Hl.out).mono ?_
  rintro e w1 ⟨r, rfl, q1, q2, q3, hb1⟩
  have Hq := Lib.hid q3
  have Hb1 := Lib.hid (((Below.refl w.heap.size w).alloc (Nat.le_refl _) _).trans (hb1.mono (by simp)))
  clear q3 hb1
  by_cases hneg : r < 0
  · go_wp2_with fail
    go_ret
    exact ⟨-1, rfl, by omega, by omega, fun h => by omega, Hb1.out⟩
  · go_wp2_with fail
    go_ret
    exact ⟨r, rfl, q1, q2, Hq.out, Hb1.out⟩

/-! ### the same -/
theorem eqVersion_any (a b : List UInt8) (w : World) : Calls Tryz.prog 102 #[.agg #[.string ⟨a.toArray⟩, .string ⟨b.toArray⟩], .agg #[.string ⟨a.toArray⟩, .string ⟨b.toArray⟩]] w fun e w' => e = .returned (.bool true) ∧ Below w.heap.size w w' := by
  go_enter Tryz.func102, Tryz.ntmps102
  have t1 : (!(a == a)) = false := by simp
  have t2 : (!(b == b)) = false := by simp
  go_wp2_with fail
  go_ret
  exact ⟨rfl, ((Below.refl _ _).alloc (Nat.le_refl _) _).alloc (by simp) _⟩
end Go.Proofs.YtdhinlhafoiaiaaGreatDoor
/- Registries: the same; the reference's RegistryOk. -/
namespace Go.Proofs.YtdhinlhafoiaiaaGreatDoor
open Go.RowKit
set_option maxRecDepth 100000
set_option linter.unusedVariables false
set_option linter.unusedSimpArgs false
attribute [local go_sem] ba_get ba_toList ba_extract take_drop_all ByteArray.mk_append_mk

set_option maxHeartbeats 1000000 in
theorem eqVersionS_any (v1 v2 : Value) (vs : List Ver) (w : World) (h1 : VRow w v1 vs) (h2 : VRow w v2 vs) :
    Calls Tryz.prog 71 #[v1, v2] w fun e w' => e = .returned (.bool true) ∧ Below w.heap.size w w' := by
  obtain ⟨A1, c1, rfl, hcap1, hvm, hr1⟩ := h1
  obtain ⟨A2, c2, rfl, hcap2, _, hr2⟩ := h2
  have Hr1 := Lib.hid hr1
  have Hr2 := Lib.hid hr2
  have hlen := hvm
  unfold maxLen at hlen
  have t0 : ((vs.length : Int) != (vs.length : Int)) = false := by simp
  clear hr1 hr2
  go_enter Tryz.func71, Tryz.ntmps71
  go_wp2_with fail
  go_loopw [5] (fun i wr => ∃ k : Nat, i = .int .i64 k ∧ k ≤ vs.length ∧ Hid (Below w.heap.size w wr)) (fun i _ => vs.length - (intOf i).toNat)
  case atStart => exact ⟨0, rfl, Nat.zero_le _, Below.refl _ _⟩
  case round =>
    obtain ⟨k, rfl, hk, hb⟩ := hrel
    have k1 : (0 : Int) ≤ (k : Int) := by omega
    by_cases hlt : k < vs.length
    · have k2 : (k : Int) < (vs.length : Int) := by omega
      obtain ⟨b1, o1, rfl, hbl1, x0, x1⟩ := VRow.at_ (Hr1.out.below hb.out) hlt
      obtain ⟨b2, o2, rfl, hbl2, y0, y1⟩ := VRow.at_ (Hr2.out.below hb.out) hlt
      generalize vs[k] = x at x0 x1 y0 y1
      have C0 := Lib.hid x0
      have C1 := Lib.hid x1
      have D0 := Lib.hid y0
      have D1 := Lib.hid y1
      have L1 := Lib.hid hbl1
      have L2 := Lib.hid hbl2
      clear x0 x1 y0 y1 hbl1 hbl2
      go_wp2_with fail
      refine wp_region_slots3 [17, 18, 19, 20, 21, 22, 23, 24, 25, 26] (by kernel_rfl) (by kernel_rfl) (by kernel_rfl) (fun u => by dsimp only [frameOf, setMany, List.set, Nat.zero_add, Nat.reduceAdd])
        (fun ix v W => match ix with | 0 => v = .slice (some ⟨b1, o1, none⟩) vs.length c1 | 1 => v = .int .i64 k | 2 => v = .pointer (some ⟨b1, o1 + k * 2, none⟩) | 3 => v = .agg #[.string ⟨x.1.toArray⟩, .string ⟨x.2.toArray⟩] | 4 => v = .slice (some ⟨b2, o2, none⟩) vs.length c2 | 5 => v = .int .i64 k | 6 => v = .pointer (some ⟨b2, o2 + k * 2, none⟩) | 7 => v = .agg #[.string ⟨x.1.toArray⟩, .string ⟨x.2.toArray⟩] | 8 => v = .bool true | 9 => v = .bool false | _ => True)
        (fun L U W => Below wr.heap.size wr W) (fun _ _ => True) (fun _ _ _ _ _ h => h) ((Below.refl _ _).drew) ?_ ?_
      · repeat (first | exact Steps.nil | (refine Steps.cons ?_ ?_; rotate_left))
        all_goals
          rintro L U W hL hpre hR hun hdep K hK
          have HR := Lib.hid hR
          have hB := HR.out
          have a0 : W.cell? ⟨b1, o1 + k * 2, none⟩ = some (.string ⟨x.1.toArray⟩) := (hB.cell (p := ⟨b1, o1 + k * 2, none⟩) L1.out).trans C0.out
          have a1 : W.cell? ⟨b1, o1 + k * 2 + 1, none⟩ = some (.string ⟨x.2.toArray⟩) := (hB.cell (p := ⟨b1, o1 + k * 2 + 1, none⟩) L1.out).trans C1.out
          have d0 : W.cell? ⟨b2, o2 + k * 2, none⟩ = some (.string ⟨x.1.toArray⟩) := (hB.cell (p := ⟨b2, o2 + k * 2, none⟩) L2.out).trans D0.out
          have d1 : W.cell? ⟨b2, o2 + k * 2 + 1, none⟩ = some (.string ⟨x.2.toArray⟩) := (hB.cell (p := ⟨b2, o2 + k * 2 + 1, none⟩) L2.out).trans D1.out
          clear hun hdep hR
          first | (simp [Region.binds] at hpre; done) | simp [Region.binds] at hpre | clear hpre
        iterate 8
          · go_simp
            first | exact hK _ _ _ rfl trivial HR.out rfl | exact hK _ _ _ rfl trivial HR.out (by simp [Act.put, hpre]) | exact hK undef _ _ trivial trivial HR.out (by simp [Act.put, hpre]) | exact hK _ _ _ trivial trivial HR.out rfl | exact hK _ _ _ trivial trivial HR.out (by simp [Act.put, hpre])
        · go_simp
          refine (eqVersion_any x.1 x.2 W).mono ?_
          rintro e w5 ⟨rfl, hb5⟩
          exact hK _ _ _ rfl trivial (hB.trans (hb5.mono hB.size)) (by simp [Act.put, hpre])
        · go_simp
          first | exact hK _ _ _ rfl trivial HR.out rfl | exact hK _ _ _ rfl trivial HR.out (by simp [Act.put, hpre]) | exact hK undef _ _ trivial trivial HR.out (by simp [Act.put, hpre]) | exact hK _ _ _ trivial trivial HR.out rfl | exact hK _ _ _ trivial trivial HR.out (by simp [Act.put, hpre])
      · rintro L U W hL hφ hR
        have e9 : U 9 = .bool false := hφ 9 (by decide)
        simp only [e9]
        clear hφ
        have Hbw := Lib.hid (hb.out.trans (hR.mono hb.out.size))
        clear hL hR
        go_wp2_with fail
        go_roundw
        case rel => exact ⟨k + 1, by go_num, by omega, Hbw.out⟩
        case measure => simp [intOf]; omega
    · obtain rfl : k = vs.length := by omega
      go_wp2_with fail
      go_ret
      exact ⟨rfl, hb.out⟩
set_option maxHeartbeats 1000000 in
theorem eqRegistry_any (v1 v2 : Value) (vs : List Ver) (w : World) (h1 : VRow w v1 vs) (h2 : VRow w v2 vs) :
    Calls Tryz.prog 28 #[.agg #[v1], .agg #[v2]] w fun e w' => e = .returned (.bool true) ∧ Below w.heap.size w w' := by
  have H1 := Lib.hid h1
  have H2 := Lib.hid h2
  obtain ⟨A1, c1, rfl, _⟩ := h1
  obtain ⟨A2, c2, rfl, _⟩ := h2
  go_enter Tryz.func28, Tryz.ntmps28
  go_wp2_with fail
  refine (eqVersionS_any _ _ vs _ (H1.out.below (((Below.refl _ _).alloc (Nat.le_refl _) _).alloc (by simp) _)) (H2.out.below (((Below.refl _ _).alloc (Nat.le_refl _) _).alloc (by simp) _))).mono ?_
  rintro e w1 ⟨rfl, hb1⟩
  have Hb1 := Lib.hid ((((Below.refl w.heap.size w).alloc (Nat.le_refl _) _).alloc (by simp) _).trans (hb1.mono (by simp; omega)))
  clear hb1
  go_wp2_with fail
  go_ret
  exact ⟨rfl, Hb1.out⟩

/-! ### valid registries -/
/-- A version reads another one. -/
def rdV (v u : Ver) : Bool := evolveL (bothL v.1 v.2) (bothL u.1 u.2)
def verAt (vs : List Ver) (i : Nat) : Ver := vs.getD i ([], [])
theorem verAt_lt {vs : List Ver} {i : Nat} (h : i < vs.length) : verAt vs i = vs[i] := by simp [verAt, h]
def regOk (vs : List Ver) : Bool := decide (vs.length ≤ 5) && (List.range vs.length).all fun i => (List.range (i + 1)).all fun k => rdV (verAt vs i) (verAt vs k)
theorem regOk_iff {vs : List Ver} : regOk vs = true ↔ vs.length ≤ 5 ∧ ∀ i, i < vs.length → ∀ k, k ≤ i → rdV (verAt vs i) (verAt vs k) = true := by
  unfold regOk
  simp only [Bool.and_eq_true, decide_eq_true_eq, List.all_eq_true, List.mem_range]
  exact ⟨fun ⟨h1, h2⟩ => ⟨h1, fun i hi k hk => h2 i hi k (by omega)⟩, fun ⟨h1, h2⟩ => ⟨h1, fun i hi k hk => h2 i hi k (by omega)⟩⟩
theorem regOk_no {vs : List Ver} {i k : Nat} (hi : i < vs.length) (hk : k ≤ i) (h : rdV (verAt vs i) (verAt vs k) = false) : regOk vs = false := by
  rw [Bool.eq_false_iff]
  intro h2
  rw [(regOk_iff.1 h2).2 i hi k hk] at h
  cases h
theorem rdV_self {v : Ver} (h : (bothL v.1 v.2).isSome = true) : rdV v v = true := by
  unfold rdV
  cases hb : bothL v.1 v.2 with
  | none => rw [hb] at h; cases h
  | some x =>
    obtain ⟨S, k⟩ := x
    obtain ⟨h1, _, _, _, _, h2⟩ := bothL_good hb
    exact readsK_self h1 h2
theorem rdV_no {v : Ver} (u : Ver) (h : (bothL v.1 v.2).isSome = false) : rdV v u = false := by
  unfold rdV
  cases hb : bothL v.1 v.2 with
  | none => rfl
  | some x => rw [hb] at h; cases h

set_option maxHeartbeats 1000000 in
theorem l10Reads_any (v u : Ver) (w : World) (h1 : v.1.length ≤ 4000000) (h2 : v.2.length ≤ 4000000) (h3 : u.1.length ≤ 4000000) (h4 : u.2.length ≤ 4000000) :
    Calls Tryz.prog 75 #[.agg #[.string ⟨v.1.toArray⟩, .string ⟨v.2.toArray⟩], .agg #[.string ⟨u.1.toArray⟩, .string ⟨u.2.toArray⟩]] w fun e w' => e = .returned (.bool (rdV v u)) ∧ Below w.heap.size w w' := by
  have He := Lib.hid (fun W => sEvolve_any v.1 v.2 u.1 u.2 W h1 h2 h3 h4)
  have Hrd : Hid (rdV v u = evolveL (bothL v.1 v.2) (bothL u.1 u.2)) := rfl
  generalize evolveL (bothL v.1 v.2) (bothL u.1 u.2) = r at *
  go_enter Tryz.func75, Tryz.ntmps75
  go_wp2_with fail
  refine (He.out _).mono ?_
  rintro e w1 ⟨rfl, hb1⟩
  go_wp2_with fail
  go_ret
  exact ⟨by rw [Hrd.out]; rfl, (((Below.refl w.heap.size w).alloc (Nat.le_refl _) _).alloc (by simp) _).trans (hb1.mono (by simp; omega))⟩

set_option maxHeartbeats 2000000 in
theorem sRegOk_any (v : Value) (vs : List Ver) (w : World) (h : VRow w v vs) (hn : vs.length ≤ 1048576) (hl : ∀ x ∈ vs, x.1.length ≤ 4000000 ∧ x.2.length ≤ 4000000) :
    Calls Tryz.prog 33 #[.agg #[v]] w fun e w' => e = .returned (.bool (regOk vs)) ∧ Below w.heap.size w w' := by
  obtain ⟨A, c, rfl, hcap, hvm, hr⟩ := h
  have Hr := Lib.hid hr
  have Hl := Lib.hid hl
  clear hr hl
  go_enter Tryz.func33, Tryz.ntmps33
  go_wp2_with fail
  go_loopw [3] (fun i wr => ∃ k : Nat, i = .int .i64 k ∧ k ≤ vs.length ∧ Hid (∀ i', i' < k → ∀ k', k' ≤ i' → rdV (verAt vs i') (verAt vs k') = true) ∧ Hid (Below w.heap.size w wr) ∧ w.heap.size < wr.heap.size ∧ wr.cell? ⟨w.heap.size, 0, none⟩ = some (.slice A vs.length c)) (fun i _ => vs.length - (intOf i).toNat)
  case atStart => exact ⟨0, rfl, Nat.zero_le _, fun i' hi' => by omega, (Below.refl _ _).alloc (Nat.le_refl _) _, by simp, by simp⟩
  case round =>
    obtain ⟨i, rfl, hi, hin, hb, hsz, hc0⟩ := hrel
    have i1 : (0 : Int) ≤ (i : Int) := by omega
    by_cases hlt : i < vs.length
    · have i2 : (i : Int) < (vs.length : Int) := by omega
      obtain ⟨wo, hwo⟩ : ∃ wo : World, wo = wr := ⟨_, rfl⟩
      have Hsz := Lib.hid hsz
      have Hc0 := Lib.hid hc0
      go_wp2_with fail
      subst hwo
      go_loopw [4] (fun q wr => ∃ k : Nat, q = .int .i64 k ∧ k ≤ i + 1 ∧ Hid (∀ k', k' < k → rdV (verAt vs i) (verAt vs k') = true) ∧ Hid (Below w.heap.size w wr) ∧ w.heap.size < wr.heap.size ∧ wr.cell? ⟨w.heap.size, 0, none⟩ = some (.slice A vs.length c)) (fun q _ => i + 1 - (intOf q).toNat)
      case atStart => exact ⟨0, rfl, Nat.zero_le _, fun k' hk' => by omega, hb.out, Hsz.out, Hc0.out⟩
      case round =>
        clear hc0 hsz
        obtain ⟨k, rfl, hk, hkin, hb', hsz', hc0'⟩ := hrel
        have k1 : (0 : Int) ≤ (k : Int) := by omega
        by_cases hkl : k ≤ i
        · have k2 : (k : Int) ≤ (i : Int) := by omega
          have k3 : (k : Int) < (vs.length : Int) := by omega
          obtain ⟨b1, o1, rfl, hbl1, x0, x1⟩ := VRow.at_ (Hr.out.below hb'.out) hlt
          obtain ⟨b1', o1', e1, _, y0, y1⟩ := VRow.at_ (Hr.out.below hb'.out) (show k < vs.length by omega)
          obtain ⟨rfl, rfl⟩ : b1 = b1' ∧ o1 = o1' := by injection e1 with e1; injection e1 with e1 e2; exact ⟨e1, e2⟩
          have hxl := Hl.out _ (List.getElem_mem hlt)
          have hyl := Hl.out _ (List.getElem_mem (show k < vs.length by omega))
          have hrd : rdV (verAt vs i) (verAt vs k) = rdV vs[i] (vs[k]'(by omega)) := by rw [verAt_lt hlt, verAt_lt (by omega)]
          generalize vs[i] = x at x0 x1 hxl hrd
          generalize vs[k]'(show k < vs.length by omega) = y at y0 y1 hyl hrd
          have Hrd := Lib.hid (fun W => l10Reads_any x y W hxl.1 hxl.2 hyl.1 hyl.2)
          have Hrx := Lib.hid hrd
          generalize rdV x y = r at Hrd Hrx
          have C0 := Lib.hid x0
          have C1 := Lib.hid x1
          have D0 := Lib.hid y0
          have D1 := Lib.hid y1
          have L1 := Lib.hid hbl1
          have Lw := Lib.hid hsz'
          have T0 := Lib.hid hc0'
          clear x0 x1 y0 y1 hbl1 hxl hyl hrd e1 hc0'
          go_wp2_with fail
          refine wp_region_slots3 [17, 18, 19, 20, 21, 22, 23, 24, 25, 26, 27, 28] (by kernel_rfl) (by kernel_rfl) (by kernel_rfl) (fun u => by dsimp only [frameOf, setMany, List.set, Nat.zero_add, Nat.reduceAdd])
            (fun ix v W => match ix with | 0 => v = .pointer (some ⟨w.heap.size, 0, none⟩) | 1 => v = .slice (some ⟨b1, o1, none⟩) vs.length c | 2 => v = .int .i64 i | 3 => v = .pointer (some ⟨b1, o1 + i * 2, none⟩) | 4 => v = .agg #[.string ⟨x.1.toArray⟩, .string ⟨x.2.toArray⟩] | 5 => v = .pointer (some ⟨w.heap.size, 0, none⟩) | 6 => v = .slice (some ⟨b1, o1, none⟩) vs.length c | 7 => v = .int .i64 k | 8 => v = .pointer (some ⟨b1, o1 + k * 2, none⟩) | 9 => v = .agg #[.string ⟨y.1.toArray⟩, .string ⟨y.2.toArray⟩] | 10 => v = .bool r | 11 => v = .bool (!r) | _ => True)
            (fun L U W => Below wr.heap.size wr W) (fun _ _ => True) (fun _ _ _ _ _ h => h) ((Below.refl _ _).drew) ?_ ?_
          · repeat (first | exact Steps.nil | (refine Steps.cons ?_ ?_; rotate_left))
            all_goals
              rintro L U W hL hpre hR hun hdep K hK
              have HR := Lib.hid hR
              have hB := HR.out
              have t0 : W.cell? ⟨w.heap.size, 0, none⟩ = some (.slice (some ⟨b1, o1, none⟩) vs.length c) := (hB.cell (p := ⟨w.heap.size, 0, none⟩) Lw.out).trans T0.out
              have a0 : W.cell? ⟨b1, o1 + i * 2, none⟩ = some (.string ⟨x.1.toArray⟩) := (hB.cell (p := ⟨b1, o1 + i * 2, none⟩) L1.out).trans C0.out
              have a1 : W.cell? ⟨b1, o1 + i * 2 + 1, none⟩ = some (.string ⟨x.2.toArray⟩) := (hB.cell (p := ⟨b1, o1 + i * 2 + 1, none⟩) L1.out).trans C1.out
              have d0 : W.cell? ⟨b1, o1 + k * 2, none⟩ = some (.string ⟨y.1.toArray⟩) := (hB.cell (p := ⟨b1, o1 + k * 2, none⟩) L1.out).trans D0.out
              have d1 : W.cell? ⟨b1, o1 + k * 2 + 1, none⟩ = some (.string ⟨y.2.toArray⟩) := (hB.cell (p := ⟨b1, o1 + k * 2 + 1, none⟩) L1.out).trans D1.out
              clear hun hdep hR
              first | (simp [Region.binds] at hpre; done) | simp [Region.binds] at hpre | clear hpre
            iterate 10
              · go_simp
                first | exact hK _ _ _ rfl trivial HR.out rfl | exact hK _ _ _ rfl trivial HR.out (by simp [Act.put, hpre]) | exact hK undef _ _ trivial trivial HR.out (by simp [Act.put, hpre]) | exact hK _ _ _ trivial trivial HR.out rfl | exact hK _ _ _ trivial trivial HR.out (by simp [Act.put, hpre])
            · go_simp
              refine (Hrd.out W).mono ?_
              rintro e w5 ⟨rfl, hb5⟩
              exact hK _ _ _ rfl trivial (hB.trans (hb5.mono hB.size)) (by simp [Act.put, hpre])
            · go_simp
              first | exact hK _ _ _ rfl trivial HR.out rfl | exact hK _ _ _ rfl trivial HR.out (by simp [Act.put, hpre]) | exact hK undef _ _ trivial trivial HR.out (by simp [Act.put, hpre]) | exact hK _ _ _ trivial trivial HR.out rfl | exact hK _ _ _ trivial trivial HR.out (by simp [Act.put, hpre])
          · rintro L U W hL hφ hR
            have e11 : U 11 = .bool (!r) := hφ 11 (by decide)
            simp only [e11]
            clear hφ
            have Hbw := Lib.hid (hb'.out.trans (hR.mono hb'.out.size))
            have hz2 : w.heap.size < W.heap.size := Nat.lt_of_lt_of_le hsz' hR.size
            have T2 := Lib.hid ((hR.cell (p := ⟨w.heap.size, 0, none⟩) Lw.out).trans T0.out)
            clear hL hR
            cases r with
            | false =>
              have Hno := Lib.hid (regOk_no hlt hkl Hrx.out)
              go_wp2_with fail
              go_ret
              exact ⟨by rw [Hno.out]; rfl, Hbw.out⟩
            | true =>
              have Hall := Lib.hid (show ∀ k', k' < k + 1 → rdV (verAt vs i) (verAt vs k') = true from fun k' hk' => by
                rcases Nat.lt_or_ge k' k with h | h
                · exact hkin.out k' h
                · obtain rfl : k' = k := by omega
                  exact Hrx.out)
              go_wp2_with fail
              go_roundw
              case rel => exact ⟨k + 1, by go_num, by omega, Hall.out, Hbw.out, hz2, T2.out⟩
              case measure => simp [intOf]; omega
        · have k2 : ¬ (k : Int) ≤ (i : Int) := by omega
          have Hall := Lib.hid (show ∀ i', i' < i + 1 → ∀ k', k' ≤ i' → rdV (verAt vs i') (verAt vs k') = true from fun i' hi' k' hk' => by
            rcases Nat.lt_or_ge i' i with h | h
            · exact hin.out i' h k' hk'
            · obtain rfl : i' = i := by omega
              exact hkin.out k' (by omega))
          have Hc' := Lib.hid hc0'
          clear hc0'
          go_wp2_with fail
          go_roundw
          case rel => exact ⟨i + 1, by go_num, by omega, Hall.out, hb'.out, hsz', Hc'.out⟩
          case measure => simp [intOf]; omega
    · obtain rfl : i = vs.length := by omega
      have Hfin := Lib.hid (show regOk vs = decide (vs.length ≤ 5) from by
        by_cases h5 : vs.length ≤ 5
        · rw [decide_eq_true h5]; exact regOk_iff.2 ⟨h5, hin.out⟩
        · rw [decide_eq_false h5, Bool.eq_false_iff]; exact fun h => h5 (regOk_iff.1 h).1)
      by_cases h5 : vs.length ≤ 5
      · have h5i : (vs.length : Int) ≤ 5 := by omega
        have Hf2 := Lib.hid (Hfin.out.trans (decide_eq_true h5))
        go_wp2_with fail
        go_ret
        exact ⟨by rw [Hf2.out]; rfl, hb.out⟩
      · have h5i : ¬ (vs.length : Int) ≤ 5 := by omega
        have Hf2 := Lib.hid (Hfin.out.trans (decide_eq_false h5))
        go_wp2_with fail
        go_ret
        exact ⟨by rw [Hf2.out]; rfl, hb.out⟩
end Go.Proofs.YtdhinlhafoiaiaaGreatDoor
/- The program's RegistryOk, and the law on it. -/
namespace Go.Proofs.YtdhinlhafoiaiaaGreatDoor
open Go.RowKit
set_option maxRecDepth 100000
set_option linter.unusedVariables false
set_option linter.unusedSimpArgs false
attribute [local go_sem] ba_get ba_toList ba_extract take_drop_all ByteArray.mk_append_mk

set_option maxHeartbeats 4000000 in
theorem iRegOk_any (v : Value) (vs : List Ver) (w : World) (h : VRow w v vs) (hn : vs.length ≤ 1048576) (hl : ∀ x ∈ vs, x.1.length ≤ 4000000 ∧ x.2.length ≤ 4000000) :
    Calls Tryz.prog 32 #[.agg #[v]] w fun e w' => e = .returned (.bool (regOk vs)) ∧ Below w.heap.size w w' := by
  obtain ⟨A, c, rfl, hcap, hvm, hr⟩ := h
  have Hr := Lib.hid hr
  have Hl := Lib.hid hl
  clear hr hl
  go_enter Tryz.func32, Tryz.ntmps32
  by_cases h5 : vs.length ≤ 5
  · have h5i : (vs.length : Int) ≤ 5 := by omega
    have h5j : ¬ (5 : Int) < (vs.length : Int) := by omega
    have H5 := Lib.hid h5
    go_wp2_with fail
    go_loopw [17] (fun q wr => ∃ k : Nat, q = .int .i64 k ∧ k ≤ vs.length ∧ Hid (∀ i', i' < k → ∀ k', k' ≤ i' → rdV (verAt vs i') (verAt vs k') = true) ∧ Hid (Below w.heap.size w wr) ∧ w.heap.size < wr.heap.size ∧ wr.cell? ⟨w.heap.size, 0, none⟩ = some (.slice A vs.length c)) (fun q _ => vs.length - (intOf q).toNat)
    case atStart => exact ⟨0, rfl, Nat.zero_le _, fun i' hi' => by omega, (Below.refl _ _).alloc (Nat.le_refl _) _, by simp, by simp⟩
    case round =>
      obtain ⟨i, rfl, hi, hin, hb, hsz, hc0⟩ := hrel
      have i1 : (0 : Int) ≤ (i : Int) := by omega
      by_cases hlt : i < vs.length
      · have i2 : (i : Int) < (vs.length : Int) := by omega
        obtain ⟨b1, o1, rfl, hbl1, x0, x1⟩ := VRow.at_ (Hr.out.below hb.out) hlt
        have hxl := Hl.out _ (List.getElem_mem hlt)
        have Hxv := Lib.hid (show verAt vs i = vs[i] from verAt_lt hlt)
        generalize vs[i] = x at x0 x1 hxl Hxv
        have Hbo := Lib.hid (fun W => iBoth_any x.1 x.2 W hxl.1 hxl.2)
        have Hev := Lib.hid (fun (y : Ver) (hy : y ∈ vs) W => iEvolve_any x.1 x.2 y.1 y.2 W hxl.1 hxl.2 (Hl.out y hy).1 (Hl.out y hy).2)
        have Hsz := Lib.hid hsz
        have Hc0 := Lib.hid hc0
        clear hxl hc0
        have hc0 := Hc0.out
        go_wp2_with fail
        refine (Hbo.out _).mono ?_
        rintro e w3 hp
        obtain ⟨qq, a1, b2, c2, rfl, hb3, _⟩ := hp.form
        have hwz : wr.heap.size < w3.heap.size := by have := hb3.size; simp at this; omega
        have y0 : w3.cell? ⟨wr.heap.size, 0, none⟩ = some (.string ⟨x.1.toArray⟩) := (hb3.cell (p := ⟨wr.heap.size, 0, none⟩) (by simp)).trans (by simp)
        have y1 : w3.cell? ⟨wr.heap.size, 1, none⟩ = some (.string ⟨x.2.toArray⟩) := (hb3.cell (p := ⟨wr.heap.size, 1, none⟩) (by simp)).trans (by simp)
        have Hb3 := Lib.hid (show Below wr.heap.size wr w3 from ((Below.refl _ _).alloc (Nat.le_refl _) _).trans (hb3.mono (by simp)))
        have Y0 := Lib.hid y0
        have Y1 := Lib.hid y1
        have C0 := Lib.hid ((Hb3.out.cell (p := ⟨w.heap.size, 0, none⟩) Hsz.out).trans Hc0.out)
        have Hbw := Lib.hid (hb.out.trans (Hb3.out.mono hb.out.size))
        have Hself := Lib.hid (fun (hs : (bothL x.1 x.2).isSome = true) => rdV_self (v := x) hs)
        have Hnone := Lib.hid (fun (hs : (bothL x.1 x.2).isSome = false) => rdV_no (v := x) (verAt vs i) hs)
        generalize (bothL x.1 x.2).isSome = ok at *
        clear hp hb3 x0 x1 y0 y1 hc0
        cases ok with
        | false =>
          have Hno := Lib.hid (regOk_no hlt (Nat.le_refl _) (by rw [Hxv.out] at *; exact Hnone.out rfl))
          go_wp2_with fail
          go_ret
          exact ⟨by rw [Hno.out]; rfl, Hbw.out.alloc Hbw.out.size _⟩
        | true =>
          have Hs := Lib.hid (Hself.out rfl)
          have c0' := C0.out
          have hzo : w.heap.size < w3.heap.size := by omega
          have hicap : (i : Int) ≤ (c : Int) := by omega
          go_wp2_with fail
          obtain ⟨W5, hW5⟩ : ∃ W5, W5 = w3.alloc (.cells #[.string a1, .string b2, .string c2] 70) := ⟨_, rfl⟩
          rw [← hW5]
          have hb5 : Below w3.heap.size w3 W5 := by rw [hW5]; exact (Below.refl _ _).alloc (Nat.le_refl _) _
          have hz5 : w3.heap.size < W5.heap.size := by rw [hW5]; simp
          have Hbw5 := Lib.hid (Hbw.out.trans (hb5.mono Hbw.out.size))
          have Z0 := Lib.hid ((hb5.cell (p := ⟨wr.heap.size, 0, none⟩) hwz).trans Y0.out)
          have Z1 := Lib.hid ((hb5.cell (p := ⟨wr.heap.size, 1, none⟩) hwz).trans Y1.out)
          have D0 := Lib.hid ((hb5.cell (p := ⟨w.heap.size, 0, none⟩) hzo).trans C0.out)
          obtain ⟨wo, hwo⟩ : ∃ wo : Nat, wo = wr.heap.size := ⟨_, rfl⟩
          rw [← hwo] at Z0 Z1 hwz ⊢
          clear hW5 hb5 c0' Y0 Y1 C0 hwo
          go_loopw [38] (fun q wr => ∃ k : Nat, q = .int .i64 k ∧ k ≤ i ∧ Hid (∀ k', k' < k → rdV (verAt vs i) (verAt vs k') = true) ∧ Hid (Below W5.heap.size W5 wr)) (fun q _ => i - (intOf q).toNat)
          case atStart => exact ⟨0, rfl, Nat.zero_le _, fun k' hk' => by omega, Below.refl _ _⟩
          case round =>
            obtain ⟨k, rfl, hk, hkin, hb'⟩ := hrel
            have k1 : (0 : Int) ≤ (k : Int) := by omega
            have z0 : wr.cell? ⟨wo, 0, none⟩ = some (.string ⟨x.1.toArray⟩) := (hb'.out.cell (p := ⟨wo, 0, none⟩) (show wo < W5.heap.size by omega)).trans Z0.out
            have z1 : wr.cell? ⟨wo, 1, none⟩ = some (.string ⟨x.2.toArray⟩) := (hb'.out.cell (p := ⟨wo, 1, none⟩) (show wo < W5.heap.size by omega)).trans Z1.out
            have Hbk := Lib.hid (Hbw5.out.trans (hb'.out.mono Hbw5.out.size))
            have hz' : wo < wr.heap.size := by have := hb'.out.size; omega
            have hzn : ¬ (wo = wr.heap.size) := by omega
            by_cases hkl : k < i
            · have k2 : (k : Int) < (i : Int) := by omega
              obtain ⟨b1', o1', e1, hbl', y0, y1⟩ := VRow.at_ (Hr.out.below Hbk.out) (show k < vs.length by omega)
              obtain ⟨rfl, rfl⟩ : b1 = b1' ∧ o1 = o1' := by injection e1 with e1; injection e1 with e1 e2; exact ⟨e1, e2⟩
              have hym := List.getElem_mem (show k < vs.length by omega)
              have Hyv := Lib.hid (show verAt vs k = vs[k]'(by omega) from verAt_lt (by omega))
              generalize vs[k]'(show k < vs.length by omega) = y at y0 y1 hym Hyv
              have Hcall := Lib.hid (Hev.out y hym)
              have Hrd : Hid (rdV x y = evolveL (bothL x.1 x.2) (bothL y.1 y.2)) := rfl
              generalize evolveL (bothL x.1 x.2) (bothL y.1 y.2) = r at Hcall Hrd
              clear hym e1
              go_wp2_with fail
              refine (Hcall.out _).mono ?_
              rintro e w9 ⟨rfl, hb9⟩
              have Hb9 := Lib.hid (show Below wr.heap.size wr w9 from ((Below.refl _ _).alloc (Nat.le_refl _) _).trans (hb9.mono (by simp)))
              have Hbz := Lib.hid (hb'.out.trans (Hb9.out.mono hb'.out.size))
              have Hbv := Lib.hid (Hbk.out.trans (Hb9.out.mono Hbk.out.size))
              clear hb9 y0 y1 z0 z1
              cases r with
              | false =>
                have Hno := Lib.hid (regOk_no hlt (Nat.le_of_lt hkl) (by rw [Hxv.out, Hyv.out]; exact Hrd.out))
                go_wp2_with fail
                go_ret
                exact ⟨by rw [Hno.out]; rfl, Hbv.out⟩
              | true =>
                have Hall := Lib.hid (show ∀ k', k' < k + 1 → rdV (verAt vs i) (verAt vs k') = true from fun k' hk' => by
                  rcases Nat.lt_or_ge k' k with h | h
                  · exact hkin.out k' h
                  · obtain rfl : k' = k := by omega
                    rw [Hxv.out, Hyv.out]; exact Hrd.out)
                go_wp2_with fail
                go_roundw
                case rel => exact ⟨k + 1, by go_num, by omega, Hall.out, Hbz.out⟩
                case measure => simp [intOf]; omega
            · have k2 : ¬ (k : Int) < (i : Int) := by omega
              have Hall := Lib.hid (show ∀ i', i' < i + 1 → ∀ k', k' ≤ i' → rdV (verAt vs i') (verAt vs k') = true from fun i' hi' k' hk' => by
                rcases Nat.lt_or_ge i' i with h | h
                · exact hin.out i' h k' hk'
                · obtain rfl : i' = i := by omega
                  rcases Nat.lt_or_ge k' i' with h2 | h2
                  · exact hkin.out k' (by omega)
                  · obtain rfl : k' = i' := by omega
                    rw [Hxv.out]; exact Hs.out)
              have d0 := Lib.hid ((hb'.out.cell (p := ⟨w.heap.size, 0, none⟩) (show w.heap.size < W5.heap.size by omega)).trans D0.out)
              clear z0 z1
              go_wp2_with fail
              go_roundw
              case rel => exact ⟨i + 1, by go_num, by omega, Hall.out, Hbk.out, by have := hb'.out.size; omega, d0.out⟩
              case measure => simp [intOf]; omega
      · obtain rfl : i = vs.length := by omega
        have Hfin := Lib.hid (regOk_iff.2 ⟨H5.out, hin.out⟩)
        go_wp2_with fail
        go_ret
        exact ⟨by rw [Hfin.out]; rfl, hb.out⟩
  · have h5i : (5 : Int) < (vs.length : Int) := by omega
    have Hno := Lib.hid (show regOk vs = false from by rw [Bool.eq_false_iff]; exact fun h => h5 (regOk_iff.1 h).1)
    go_wp2_with fail
    go_ret
    exact ⟨by rw [Hno.out]; rfl, (Below.refl _ _).alloc (Nat.le_refl _) _⟩
end Go.Proofs.YtdhinlhafoiaiaaGreatDoor
/- How a registry that came in is opened: versions, as lists. -/
namespace Go.Proofs.YtdhinlhafoiaiaaGreatDoor
set_option linter.unusedVariables false
set_option maxRecDepth 100000
set_option linter.unusedSimpArgs false
open Go.ChangeShapes Go.WideShapes Go.ChangeAt Go.RowKit Go.Deep

theorem addr_row {b off j : Nat} : (⟨b, off, none⟩ : Addr).add j = ⟨b, off + j, none⟩ := by unfold Addr.add; split <;> simp_all
section
variable {H : Type} {enc : TypeId × Value → H} {W : World} {base : Nat} {v : Value} {d : DataW H} {ps : List MemPlace}

/-- Two cells that read as a version. -/
theorem trod_ver {sp : Nat → Bool} {b0 n : Nat} {cs : List Value} {x : DataW H × List MemPlace} (h : DataW.trod enc Tryz.prog W b0 sp true n 37 cs = some x) :
    ∃ a b : ByteArray, cs = [.string a, .string b] ∧ a.size ≤ maxLen ∧ b.size ≤ maxLen := by
  obtain ⟨xs, m, _, hx, hl, hlen, hg⟩ := DataW.trod_struct Tryz.underlying37 h
  have hc : Tryz.prog.cellsOf 37 = 2 := by kernel_rfl
  have hs : Tryz.prog.cellsOf 9 = 1 := by kernel_rfl
  rw [hc] at hl
  match cs, hl with
  | [c0, c1], _ =>
    have h0 := hg 0 _ rfl
    have h1 := hg 1 _ rfl
    simp [hs] at h0 h1
    have l0 : 0 < xs.length := by rw [hlen]; decide
    have l1 : 1 < xs.length := by rw [hlen]; decide
    rw [List.getElem?_eq_getElem l0] at h0
    rw [List.getElem?_eq_getElem l1] at h1
    obtain ⟨a, ha, _, za⟩ := DataW.trod_string Tryz.underlying9 h0
    obtain ⟨b, hb, _, zb⟩ := DataW.trod_string Tryz.underlying9 h1
    simp at ha hb
    exact ⟨a, b, by rw [ha, hb], za, zb⟩
theorem arg_registry (hv : Value.okWide Tryz.prog W .any base 35 v) (h : DataW.Trod enc Tryz.prog W 0 (fun _ => true) true 35 v d ps) :
    ∃ (u : Value) (vs : List Ver), v = .agg #[u] ∧ VRow W u vs ∧ ∀ x ∈ vs, x.1.length ≤ maxLen ∧ x.2.length ≤ maxLen := by
  obtain ⟨cs, rfl, hsz⟩ := okWide_struct Tryz.underlying35 hv
  have hc1 : Tryz.prog.cellsOf 35 = 1 := by kernel_rfl
  have hc2 : Tryz.prog.cellsOf 33 = 1 := by kernel_rfl
  have hc3 : Tryz.prog.cellsOf 37 = 2 := by kernel_rfl
  rw [hc1] at hsz
  obtain ⟨c0, rfl⟩ : ∃ c0, cs = #[c0] := by
    obtain ⟨l⟩ := cs
    match l, hsz with
    | [c0], _ => exact ⟨c0, rfl⟩
  obtain ⟨fuel, hf⟩ := h
  obtain ⟨xs, n, _, hx, hl, hlen, hg⟩ := DataW.trod_struct Tryz.underlying35 hf
  have h0 := hg 0 _ rfl
  simp [hc2, Value.cells] at h0
  have l0 : 0 < xs.length := by rw [hlen]; decide
  rw [List.getElem?_eq_getElem l0] at h0
  rcases open_slice Tryz.underlying33 h0 with ⟨hcs, _⟩ | ⟨a, len, cap, m, n2, D, Pl, hcs, _, hlc, hcm, hmm, _, hi⟩
  · simp at hcs
    subst hcs
    exact ⟨_, [], rfl, ⟨none, 0, rfl, Nat.le_refl _, Nat.zero_le _, fun h => absurd h (by simp)⟩, fun x hx => by cases hx⟩
  · simp at hcs
    subst hcs
    simp at hmm
    subst hmm
    have hP : ∀ i, i < m → ∃ p : Ver, W.cell? (a.add (i * 2)) = some (.string ⟨p.1.toArray⟩) ∧ W.cell? (a.add (i * 2 + 1)) = some (.string ⟨p.2.toArray⟩) ∧ p.1.length ≤ maxLen ∧ p.2.length ≤ maxLen := by
      intro i him
      obtain ⟨cs', hcc, ht⟩ := hi i him
      rw [hc3] at hcc
      obtain ⟨s0, s1, rfl, z0, z1⟩ := trod_ver ht
      obtain ⟨_, _, hat⟩ := World.cells?_some hcc
      have a0 := hat 0 (by decide)
      have a1 := hat 1 (by decide)
      rw [Go.Deep.add_add] at a0 a1
      exact ⟨(s0.data.toList, s1.data.toList), by simpa using a0, by simpa using a1, by simpa using z0, by simpa using z1⟩
    obtain ⟨f, hf⟩ : ∃ f : Nat → Ver, ∀ i, i < m → W.cell? (a.add (i * 2)) = some (.string ⟨(f i).1.toArray⟩) ∧ W.cell? (a.add (i * 2 + 1)) = some (.string ⟨(f i).2.toArray⟩) ∧ (f i).1.length ≤ maxLen ∧ (f i).2.length ≤ maxLen :=
      ⟨fun i => if h : i < m then Classical.choose (hP i h) else ([], []), fun i h => by simp only [dif_pos h]; exact Classical.choose_spec (hP i h)⟩
    have hvl : ((List.range len).map f).length = len := by simp
    refine ⟨_, (List.range len).map f, rfl, ⟨some a, m, by rw [hvl], by rw [hvl]; exact hlc, by rw [hvl]; omega, fun hn => ?_⟩, fun x hx => ?_⟩
    · rw [flatMap_len verc_len, hvl] at hn
      have hlp : 0 < len := by omega
      have q0 := (hf 0 (by omega)).1
      obtain ⟨b, off, spot⟩ := a
      have hspot : spot = none := by simpa [Addr.add] using World.cell?_spot q0
      subst hspot
      refine ⟨b, off, rfl, ?_, fun j u hu => ?_⟩
      · have := World.block_lt_of_cell? W _ q0
        simpa [Addr.add] using this
      · have hj : j < len * 2 := by
          have := (List.getElem?_eq_some_iff.1 hu).1
          rwa [flatMap_len verc_len, hvl] at this
        have hjd : j = j / 2 * 2 + j % 2 := by omega
        have hjl : j / 2 < ((List.range len).map f).length := by rw [hvl]; omega
        rw [hjd, flatMap_get verc_len _ (j / 2) (j % 2) hjl (by omega)] at hu
        obtain ⟨q1, q2, _, _⟩ := hf (j / 2) (by omega)
        rw [addr_row] at q1 q2
        rw [hjd]
        rcases Nat.mod_two_eq_zero_or_one j with h2 | h2
        · rw [h2] at hu ⊢
          simp [verc] at hu
          rw [← hu]; exact q1
        · rw [h2] at hu ⊢
          simp [verc] at hu
          rw [← hu]; exact q2
    · obtain ⟨i, hi', rfl⟩ := List.mem_map.1 hx
      rw [List.mem_range] at hi'
      exact ⟨(hf i (by omega)).2.2.1, (hf i (by omega)).2.2.2⟩
end
end Go.Proofs.YtdhinlhafoiaiaaGreatDoor
