/- Texts joined: DReg, DrawR. Conditions: as each theorem names them. -/
import Derived.Test.YtdhinlhafoiaiaaGreatDoorK23
import Derived.Test.YtdhinlhafoiaiaaGreatDoorK27
import Derived.Test.YtdhinlhafoiaiaaGreatDoorK28
/- The drawn registry: a row of up to three versions of bounded length. -/
namespace Go.Proofs.YtdhinlhafoiaiaaGreatDoor
open Go.RowKit
set_option maxRecDepth 100000
set_option linter.unusedVariables false
set_option linter.unusedSimpArgs false
attribute [local go_sem] ba_get ba_toList ba_extract take_drop_all ByteArray.mk_append_mk

/-- The registry under way: the reader, the result's cell, the registry's cell and its row of versions. -/
structure RgSt (g Br Bg : Nat) (W0 W : World) (vs : List Ver) (v r : Value) (q : Nat) : Prop where
  rdr : Rdr W g q
  grown : W0.grownBy W (some g)
  res : W.cell? ⟨Br, 0, none⟩ = some (.slice none 0 0)
  resf : W.frozen? ⟨Br, 0, none⟩ = false
  reg : W.cell? ⟨Bg, 0, none⟩ = some r
  regf : W.frozen? ⟨Bg, 0, none⟩ = false
  row : W.ownsRow (Br + 1) 46 2 v vs.length (vs.flatMap verc)
  off : v.ownBlock ≠ some Bg
  lt : g < Br ∧ Br < Bg ∧ Bg < W.heap.size ∧ W0.heap.size ≤ Br
theorem cell_gr {W W' : World} {b o : Nat} {r : Option Nat} (hb : b < W.heap.size) (hg : W.grownBy W' r) (hne : some b ≠ r) : W'.cell? ⟨b, o, none⟩ = W.cell? ⟨b, o, none⟩ ∧ W'.frozen? ⟨b, o, none⟩ = W.frozen? ⟨b, o, none⟩ :=
  ⟨World.cell?_of_block (a := ⟨b, o, none⟩) (hg.block b hb hne), World.frozen?_of_block (a := ⟨b, o, none⟩) (hg.block b hb hne)⟩
theorem RgSt.turn {g Br Bg : Nat} {W0 W W' : World} {vs : List Ver} {v r : Value} {q q' : Nat} (h : RgSt g Br Bg W0 W vs v r q) (hg : W.grownBy W' (some g)) (hR : Rdr W' g q') : RgSt g Br Bg W0 W' vs v r q' := by
  obtain ⟨l1, l2, l3, l4⟩ := h.lt
  have hz := hg.size
  obtain ⟨a1, a2⟩ := cell_gr (b := Br) (o := 0) (by omega) hg (fun e => by injection e with e; omega)
  obtain ⟨b1, b2⟩ := cell_gr (b := Bg) (o := 0) (by omega) hg (fun e => by injection e with e; omega)
  exact ⟨hR, dgrown_trans h.grown hg, a1.trans h.res, a2.trans h.resf, b1.trans h.reg, b2.trans h.regf, h.row.kept hg (.inr fun e => by have := (h.row.lt _ e).1; omega), h.off, ⟨l1, l2, by omega, l4⟩⟩
theorem RgSt.below {g Br Bg : Nat} {W0 W W' : World} {vs : List Ver} {v r : Value} {q : Nat} (h : RgSt g Br Bg W0 W vs v r q) (hb : Below W.heap.size W W') : RgSt g Br Bg W0 W' vs v r q :=
  h.turn (dgrown_below hb _) (h.rdr.below hb)
theorem RgSt.app {g Br Bg : Nat} {W0 W7 w5 : World} {vs : List Ver} {v v5 r : Value} {q : Nat} {x : Ver} (h : RgSt g Br Bg W0 W7 vs v r q)
    (hown : w5.ownsRow (Br + 1) 46 2 v5 (vs.length + 1) (vs.flatMap verc ++ verc x)) (hg : W7.grownBy w5 v.ownBlock) (hw : v5.ownBlock = v.ownBlock ∨ ∃ k, v5.ownBlock = some k ∧ W7.heap.size ≤ k) : RgSt g Br Bg W0 w5 (vs ++ [x]) v5 r q := by
  obtain ⟨l1, l2, l3, l4⟩ := h.lt
  have hz := hg.size
  have hv : ∀ k, v.ownBlock = some k → Br + 1 ≤ k ∧ k ≠ Bg := fun k hk => ⟨(h.row.lt k hk).1, fun e => h.off (by rw [hk, e])⟩
  have hgb : Below (Br + 1) W7 w5 := (Below.refl _ _).grown hg (by omega) (fun k hk => (hv k hk).1)
  obtain ⟨a1, a2⟩ := cell_gr (b := Br) (o := 0) (by omega) hg (fun e => by have := (hv Br e.symm).1; omega)
  obtain ⟨b1, b2⟩ := cell_gr (b := Bg) (o := 0) (by omega) hg (fun e => (hv Bg e.symm).2 rfl)
  refine ⟨h.rdr.belowg (hgb.mono (by omega)) hz, ⟨hg.os.trans h.grown.os, hg.tape.trans h.grown.tape, hg.output.trans h.grown.output, Nat.le_trans h.grown.size hz, fun i hi hne => (hg.block i (Nat.lt_of_lt_of_le hi h.grown.size) (fun e => by have := (hv i e.symm).1; omega)).trans (h.grown.block i hi hne)⟩, a1.trans h.res, a2.trans h.resf, b1.trans h.reg, b2.trans h.regf, ?_, ?_, ⟨l1, l2, by omega, l4⟩⟩
  · rw [List.length_append, List.flatMap_append]
    have e : [x].flatMap verc = verc x := by simp
    rw [e]
    exact hown
  · rcases hw with hw | ⟨k, hk, hk2⟩
    · rw [hw]; exact h.off
    · rw [hk]; intro e; injection e with e; omega
theorem RgSt.store {g Br Bg : Nat} {W0 W : World} {vs : List Ver} {v r : Value} {q : Nat} (h : RgSt g Br Bg W0 W vs v r q) : RgSt g Br Bg W0 (W.setCell ⟨Bg, 0, none⟩ v) vs v v q := by
  obtain ⟨l1, l2, l3, l4⟩ := h.lt
  have hg := grown_set W ⟨Bg, 0, none⟩ v
  obtain ⟨a1, a2⟩ := cell_gr (b := Br) (o := 0) (by omega) hg (fun e => by injection e with e; simp at e; omega)
  refine ⟨h.rdr.belowg (((Below.refl _ _).setCell (show g + 1 ≤ Bg by omega) _)) (by simp), ⟨h.grown.os, h.grown.tape, h.grown.output, by simp; exact h.grown.size, fun i hi hne => (hg.block i (Nat.lt_of_lt_of_le hi h.grown.size) (fun e => by injection e with e; simp at e; omega)).trans (h.grown.block i hi hne)⟩, a1.trans h.res, a2.trans h.resf, ?_, ?_, h.row.kept hg (.inr h.off), h.off, ⟨l1, l2, by simpa using l3, l4⟩⟩
  · exact World.cell?_setCell_same _ _ _ (by rw [h.reg])
  · simpa using h.regf
theorem vrow_own {base : Nat} {W : World} {vs : List Ver} {v : Value} (hrow : W.ownsRow base 46 2 v vs.length (vs.flatMap verc)) (hn : vs.length ≤ 1000) : VRow W v vs := by
  rcases hrow.2 with ⟨rfl, h0⟩ | ⟨b, cap, cur, rfl, hb, hh, hnc, hcm, hsz, ht⟩
  · rw [List.eq_nil_of_length_eq_zero h0]
    exact ⟨none, 0, rfl, Nat.le_refl _, Nat.zero_le _, fun h => by simp at h⟩
  · refine ⟨_, cap, rfl, hnc, by unfold maxLen; omega, fun _ => ⟨b, 0, rfl, (hrow.lt b rfl).2, fun j u hu => ?_⟩⟩
    have := hrow.cells (g := b) rfl j u hu
    rw [addr0] at this
    simpa using this
theorem own_some {base k n : Nat} {e : TypeId} {W : World} {v : Value} {xs : List Value} (h : W.ownsRow base e k v n xs) (hn : 0 < n) : ∃ b c, v = .slice (some ⟨b, 0, none⟩) n c := by
  rcases h.2 with ⟨_, h0⟩ | ⟨b, cap, cur, rfl, _⟩
  · omega
  · exact ⟨b, cap, rfl⟩
theorem RgSt.vrow {g Br Bg : Nat} {W0 W : World} {vs : List Ver} {v r : Value} {q : Nat} (h : RgSt g Br Bg W0 W vs v r q) (hn : vs.length ≤ 1000) : VRow W v vs := vrow_own h.row hn
theorem RgSt.fin {g Br Bg : Nat} {W0 W : World} {vs : List Ver} {v r : Value} {q : Nat} (h : RgSt g Br Bg W0 W vs v r q) (hn : vs.length ≤ 1000) (u : Value) : VRow (W.setCell ⟨Br, 0, none⟩ u) v vs ∧ Rdr (W.setCell ⟨Br, 0, none⟩ u) g q ∧ W0.grownBy (W.setCell ⟨Br, 0, none⟩ u) (some g) := by
  obtain ⟨l1, l2, l3, l4⟩ := h.lt
  have hg := grown_set W ⟨Br, 0, none⟩ u
  refine ⟨vrow_own (h.row.kept hg (.inr fun e => by have := (h.row.lt _ e).1; simp at this; omega)) hn, h.rdr.belowg (((Below.refl _ _).setCell (show g + 1 ≤ Br by omega) _)) (by simp), ⟨h.grown.os, h.grown.tape, h.grown.output, by simp; exact h.grown.size, fun i hi hne => (hg.block i (Nat.lt_of_lt_of_le hi h.grown.size) (fun e => by injection e with e; simp at e; omega)).trans (h.grown.block i hi hne)⟩⟩
theorem RgSt.drop {g Br Bg : Nat} {W0 W : World} {vs : List Ver} {A : Option Addr} {n c : Nat} {r : Value} {q : Nat} (h : RgSt g Br Bg W0 W vs (.slice A n c) r q) (hp : 0 < vs.length) : RgSt g Br Bg W0 W vs.dropLast (.slice A (vs.length - 1) c) r q := by
  obtain ⟨h1, h2, h3, h4, h5, h6, h7, h8, h9⟩ := h
  have hb : (Value.slice A (vs.length - 1) c).ownBlock = (Value.slice A n c).ownBlock := by cases A <;> rfl
  refine ⟨h1, h2, h3, h4, h5, h6, ?_, by rw [hb]; exact h8, h9⟩
  obtain ⟨e0, ⟨e1, e2⟩ | ⟨b, cap, cur, e1, e2, e3, e4, e5, e6, e7⟩⟩ := h7
  · omega
  · injection e1 with e8 e9 e10
    subst e8 e9 e10
    refine ⟨by simp [flatMap_len verc_len], .inr ⟨b, c, cur, by simp, e2, e3, by simp; omega, e5, e6, ?_⟩⟩
    have : cur.toList.take (vs.dropLast.length * 2) = (vs.flatMap verc).take (vs.dropLast.length * 2) := by
      rw [← e7, List.take_take]
      congr 1
      simp
    rw [this]
    obtain ⟨us, x, rfl⟩ : ∃ us x, vs = us ++ [x] := ⟨vs.dropLast, vs.getLast (by intro e; rw [e] at hp; simp at hp), (List.dropLast_concat_getLast _).symm⟩
    rw [List.dropLast_concat, List.flatMap_append, List.take_append_of_le_length (by simp [flatMap_len verc_len])]
    exact List.take_of_length_le (by rw [flatMap_len verc_len]; omega)
theorem RgSt.get {g Br Bg : Nat} {W0 W : World} {vs : List Ver} {A : Option Addr} {n c : Nat} {r : Value} {q : Nat} (h : RgSt g Br Bg W0 W vs (.slice A n c) r q) (hn : vs.length ≤ 1000) {i : Nat} (hi : i < vs.length) :
    ∃ b, A = some ⟨b, 0, none⟩ ∧ n = vs.length ∧ b < W.heap.size ∧ W.cell? ⟨b, i * 2, none⟩ = some (.string ⟨vs[i].1.toArray⟩) ∧ W.cell? ⟨b, i * 2 + 1, none⟩ = some (.string ⟨vs[i].2.toArray⟩) := by
  have hrow := h.row
  rcases hrow.2 with ⟨e, h0⟩ | ⟨b, cap, cur, e, _⟩
  · omega
  · obtain ⟨A2, c2, e2, _, _, hc⟩ := h.vrow hn
    injection e with e3 e4 e5
    subst e3 e4 e5
    injection e2 with e6 e7 e8
    obtain ⟨b', o', e9, hb, x0, x1⟩ := VRow.at_ (e6 ▸ hc) hi
    injection e9 with e9
    injection e9 with e10 e11
    subst e10 e11
    exact ⟨b, rfl, rfl, hb, by simpa using x0, by simpa using x1⟩

theorem ShortV.drop {vs : List Ver} (h : ∀ x ∈ vs, x.1.length ≤ 100000 ∧ x.2.length ≤ 15) : ∀ x ∈ vs.dropLast, x.1.length ≤ 100000 ∧ x.2.length ≤ 15 := fun x hx => h x (List.dropLast_subset _ hx)
def ShortV (vs : List Ver) : Prop := ∀ x ∈ vs, x.1.length ≤ 100000 ∧ x.2.length ≤ 15
def RegPost (w : World) (g p : Nat) (e : Ending) (w' : World) : Prop := ∃ (vs : List Ver) (v : Value) (q : Nat), e = .returned (.agg #[v]) ∧ VRow w' v vs ∧ (∃ gb cc, v = .slice (some ⟨gb, 0, none⟩) vs.length cc ∧ w.heap.size < gb) ∧ ShortV vs ∧ 1 ≤ vs.length ∧ vs.length ≤ 3 ∧ q ≤ p + 3010 ∧ Rdr w' g q ∧ w.grownBy w' (some g)
set_option maxHeartbeats 4000000 in
theorem l91Registry_any (g p : Nat) (w : World) (h : Rdr w g p) (hp : p ≤ 50000) :
    Calls Tryz.prog 74 #[.pointer (some ⟨g, 0, none⟩)] w (RegPost w g p) := by
  have hgl := h.lt
  have HR := Lib.hid h
  clear h
  go_enter Tryz.func74, Tryz.ntmps74
  go_wp2_with fail
  refine (l91Older_any g p _ (HR.out.below ((Below.refl _ _).alloc (Nat.le_refl _) _)) (by omega)).mono ?_
  rintro e w1 ⟨a, b, c', d, q1, rfl, ha, hb, hc', hd, hq1, hR1, hg1⟩
  have hz1 : w.heap.size < w1.heap.size := by have := hg1.size; simp at this; omega
  have hS0 : RgSt g w.heap.size (w1.heap.size + 1) w ((w1.alloc (.cells #[.string ⟨c'.toArray⟩, .string ⟨d.toArray⟩] 46)).alloc (.cells #[.slice (some ⟨w1.heap.size, 0, none⟩) 1 1] 42)) [(c', d)] (.slice (some ⟨w1.heap.size, 0, none⟩) 1 1) (.slice (some ⟨w1.heap.size, 0, none⟩) 1 1) q1 := by
    have hba : Below w1.heap.size w1 ((w1.alloc (.cells #[.string ⟨c'.toArray⟩, .string ⟨d.toArray⟩] 46)).alloc (.cells #[.slice (some ⟨w1.heap.size, 0, none⟩) 1 1] 42)) := ((Below.refl _ _).alloc (Nat.le_refl _) _).alloc (by simp) _
    obtain ⟨a1, a2⟩ := cell_gr (b := w.heap.size) (o := 0) (by simp) hg1 (fun e => by injection e with e; omega)
    obtain ⟨hc, hf, _⟩ := bcell hba
    refine ⟨hR1.below hba, dgrown_trans (dgrown_trans (dgrown_below ((Below.refl _ _).alloc (Nat.le_refl _) _) _) hg1) (dgrown_below hba _), ?_, ?_, ?_, ?_, ?_, ?_, ⟨hgl, by omega, by simp, Nat.le_refl _⟩⟩
    · rw [hc _ _ hz1, a1]; simp [go_sem]
    · rw [hf _ _ hz1, a2]; simp [go_sem]
    · have e := World.cell?_alloc_new (w := w1.alloc (.cells #[.string ⟨c'.toArray⟩, .string ⟨d.toArray⟩] 46)) #[.slice (some ⟨w1.heap.size, 0, none⟩) 1 1] 42 0
      rw [World.size_alloc] at e
      exact e.trans rfl
    · have e := World.frozen?_alloc_new (w := w1.alloc (.cells #[.string ⟨c'.toArray⟩, .string ⟨d.toArray⟩] 46)) #[.slice (some ⟨w1.heap.size, 0, none⟩) 1 1] 42 0
      rw [World.size_alloc] at e
      exact e
    · refine ⟨by simp [verc], .inr ⟨w1.heap.size, 1, #[.string ⟨c'.toArray⟩, .string ⟨d.toArray⟩], rfl, by omega, ?_, by simp, by unfold maxLen; omega, rfl, by simp [verc]⟩⟩
      exact (((Below.refl (w1.alloc (.cells #[.string ⟨c'.toArray⟩, .string ⟨d.toArray⟩] 46)).heap.size _).alloc (Nat.le_refl _) _).block w1.heap.size (by simp)).trans Array.getElem?_push_size
    · simp [Value.ownBlock]
  have HS0 := Lib.hid hS0
  have hgl1 := hR1.lt
  clear hR1 hg1 HR hS0
  go_wp2_with fail
  refine (pick_any g q1 3 _ HS0.out.rdr (by omega) (by omega) (by omega)).mono ?_
  rintro e w4 ⟨x4, rfl, hx1, _, hR4, hg4⟩
  have HS4 := Lib.hid (HS0.out.turn hg4 hR4)
  have r4 : w4.cell? ⟨w1.heap.size + 1, 0, none⟩ = some (.slice (some ⟨w1.heap.size, 0, none⟩) 1 1) := HS4.out.reg
  have l4 : w1.heap.size + 1 < w4.heap.size := HS4.out.lt.2.2.1
  clear hR4 hg4 hx1 HS0
  go_upto_if 22 with fail
  generalize decide (0 < x4) = bb
  go_cut [] from 23 to 30 (fun wx => ∃ (vs : List Ver) (gb nn cc q6 : Nat), Hid (nn = vs.length) ∧ 1 ≤ nn ∧ nn ≤ 2 ∧ q6 ≤ p + 3001 ∧ Hid (ShortV vs) ∧ Hid (RgSt g w.heap.size (w1.heap.size + 1) w wx vs (.slice (some ⟨gb, 0, none⟩) nn cc) (.slice (some ⟨gb, 0, none⟩) nn cc) q6))
  case first =>
    cases bb with
    | false =>
      go_wp2_with fail
      go_meet
      exact ⟨[(c', d)], w1.heap.size, 1, 1, q1 + 1, rfl, by omega, by omega, by omega, fun x hx => by simp at hx; subst hx; exact ⟨by show c'.length ≤ 100000; omega, hd⟩, HS4.out⟩
    | true =>
      go_wp2_with (at_builtin; go_loud (refine wpList_appKW w4 rfl (.tmp 24) (.tmp 28) 40 rfl (w.heap.size + 1) 46 (.agg #[.string ⟨#[]⟩, .string ⟨#[]⟩]) 2 32 Tryz.underlying40 Tryz.infoVer rfl (by decide) [.string ⟨a.toArray⟩, .string ⟨b.toArray⟩] rfl (by intro y hy; simp at hy; rcases hy with rfl | rfl <;> rfl) (.slice (some ⟨w1.heap.size, 0, none⟩) 1 1) 1 (verc (c', d)) rfl rfl HS4.out.row (by unfold maxLen; omega) (by omega) (by have := HS4.out.lt; omega) ?_); intro v5 w5 hown5 hg5 hwh5; obtain ⟨gb5, c5, e5⟩ := own_some hown5 (by omega); subst e5; have HA := Lib.hid (RgSt.app (x := (a, b)) HS4.out hown5 hg5 hwh5); have f5 : w5.frozen? ⟨w1.heap.size + 1, 0, none⟩ = false := HA.out.regf; have p5 : w5.cell? ⟨w1.heap.size + 1, 0, none⟩ = some (.slice (some ⟨w1.heap.size, 0, none⟩) 1 1) := HA.out.reg; clear hown5 hg5 hwh5)
      go_meet
      exact ⟨[(c', d), (a, b)], gb5, 2, c5, q1 + 1, rfl, by omega, by omega, by omega, fun x hx => by simp at hx; rcases hx with rfl | rfl; exact ⟨by show c'.length ≤ 100000; omega, hd⟩; exact ⟨ha, hb⟩, HA.out.store⟩
  case rest =>
    obtain ⟨w6, rfl⟩ : ∃ w6 : World, w6 = wc := ⟨_, rfl⟩
    obtain ⟨vs, gb, nn, cc, q6, hnn, hn1, hn2, hq6, Hsv, HS6⟩ := hcut
    clear HS4 r4 l4
    go_wp2_with fail
    refine (pick_any g q6 3 _ HS6.out.rdr (by omega) (by omega) (by omega)).mono ?_
    rintro e w7 ⟨x7, rfl, hx1, _, hR7, hg7⟩
    have HS := Lib.hid (HS6.out.turn hg7 hR7)
    clear hR7 hg7 hx1 HS6
    obtain ⟨q7, hq7⟩ : ∃ q7, q7 = q6 + 1 := ⟨_, rfl⟩
    rw [← hq7] at HS
    go_upto_if 33 with fail
    generalize ((x7 : Int) == 0) = b7
    go_cut [] from 34 to 46 (fun wx => ∃ (vs : List Ver) (gb nn cc : Nat), Hid (nn = vs.length) ∧ 1 ≤ nn ∧ nn ≤ 3 ∧ Hid (ShortV vs) ∧ Hid (RgSt g w.heap.size (w1.heap.size + 1) w wx vs (.slice (some ⟨gb, 0, none⟩) nn cc) (.slice (some ⟨gb, 0, none⟩) nn cc) q7))
    case first =>
      cases b7 with
      | false =>
        go_wp2_with fail
        go_meet
        exact ⟨vs, gb, nn, cc, hnn, hn1, by omega, Hsv.out, HS.out⟩
      | true =>
        go_upto_region 6 with fail
        obtain ⟨x, hx⟩ : ∃ x : Ver, vs[nn - 1]'(by have := hnn.out; omega) = x := ⟨_, rfl⟩
        have hxm : x ∈ vs := by rw [← hx]; exact List.getElem_mem _
        have Hxs := Lib.hid (Hsv.out x hxm)
        have hx := Lib.hid hx
        clear hxm
        refine wp_region_slots3 [34, 35, 36, 37, 38, 39, 40, 41, 42, 43, 44, 45, 46, 999] (by kernel_rfl) (by kernel_rfl) (by kernel_rfl) (fun u => by dsimp only [frameOf, setMany, List.set, Nat.zero_add, Nat.reduceAdd])
          (fun ix v W => match ix with | 0 => v = .pointer (some ⟨w1.heap.size + 1, 0, none⟩) | 1 => v = .slice (some ⟨gb, 0, none⟩) nn cc | 2 => v = .pointer (some ⟨w1.heap.size + 1, 0, none⟩) | 3 => v = .slice (some ⟨gb, 0, none⟩) nn cc | 4 => v = .pointer (some ⟨w1.heap.size + 1, 0, none⟩) | 5 => v = .slice (some ⟨gb, 0, none⟩) nn cc | 6 => v = .int .i64 (nn : Int) | 7 => v = .int .i64 ((nn : Int) - 1) | 8 => v = .pointer (some ⟨gb, (nn - 1) * 2, none⟩) | 9 => v = .agg #[.string ⟨x.1.toArray⟩, .string ⟨x.2.toArray⟩] | 10 => ∃ b, v = .slice (some ⟨b, 0, none⟩) 1 1 | 11 => ∃ A n c, v = .slice A n c | 12 => v = .pointer (some ⟨w1.heap.size + 1, 0, none⟩) | 13 => v = undef | _ => True)
          (fun L U W => (L 13 = false → W.cell? ⟨w1.heap.size + 1, 0, none⟩ = some (.slice (some ⟨gb, 0, none⟩) nn cc)) ∧ (L 10 = false → RgSt g w.heap.size (w1.heap.size + 1) w W vs (.slice (some ⟨gb, 0, none⟩) nn cc) (.slice (some ⟨gb, 0, none⟩) nn cc) q7) ∧ (L 10 = true → L 11 = false → ∃ W7, W = W7.alloc (.cells (verc x).toArray 46) ∧ U 10 = .slice (some ⟨W7.heap.size, 0, none⟩) 1 1 ∧ RgSt g w.heap.size (w1.heap.size + 1) w W7 vs (.slice (some ⟨gb, 0, none⟩) nn cc) (.slice (some ⟨gb, 0, none⟩) nn cc) q7) ∧ (L 11 = true → L 13 = false → L 10 = true ∧ RgSt g w.heap.size (w1.heap.size + 1) w W (vs ++ [x]) (U 11) (.slice (some ⟨gb, 0, none⟩) nn cc) q7) ∧ (L 13 = true → ∃ v2, RgSt g w.heap.size (w1.heap.size + 1) w W (vs ++ [x]) v2 v2 q7)) (fun _ _ => True) (fun _ _ _ _ _ h => h) (⟨fun _ => HS.out.reg, fun _ => HS.out.below (Below.refl _ _).drew, fun h => Bool.noConfusion h, fun h => Bool.noConfusion h, fun h => Bool.noConfusion h⟩) ?_ ?_
        · repeat (first | exact Steps.nil | (refine Steps.cons ?_ ?_; rotate_left))
          all_goals
            rintro L U W hL hpre hR hun hdep K hK
            have HR := Lib.hid hR
            obtain ⟨R0, R1, R2, R3, R4⟩ := HR.out
            have Hdep := Lib.hid hdep
            clear hun hdep hR
            first | (simp [Region.binds] at hpre; done) | simp [Region.binds] at hpre | clear hpre
          · go_simp
            first | exact hK _ _ _ rfl trivial HR.out rfl | exact hK _ _ _ rfl trivial HR.out (by simp [Act.put, hpre]) | exact hK undef _ _ trivial trivial HR.out (by simp [Act.put, hpre]) | exact hK _ _ _ trivial trivial HR.out rfl | exact hK _ _ _ trivial trivial HR.out (by simp [Act.put, hpre])
          · have h11 : L 11 = false := Hdep.out 11 _ rfl { on := 1, ground := Ground.data } (by simp) (by rfl) hL
            have h13 : L 13 = false := Hdep.out 13 _ rfl { on := 11, ground := Ground.data } (by simp) (by rfl) h11
            have a13 := R0 h13
            go_simp
            first | exact hK _ _ _ rfl trivial HR.out rfl | exact hK _ _ _ rfl trivial HR.out (by simp [Act.put, hpre])
          · go_simp
            first | exact hK _ _ _ rfl trivial HR.out rfl | exact hK _ _ _ rfl trivial HR.out (by simp [Act.put, hpre]) | exact hK undef _ _ trivial trivial HR.out (by simp [Act.put, hpre]) | exact hK _ _ _ trivial trivial HR.out rfl | exact hK _ _ _ trivial trivial HR.out (by simp [Act.put, hpre])
          · have h8 : L 8 = false := Hdep.out 8 _ rfl { on := 3, ground := Ground.data } (by simp) (by rfl) hL
            have h9 : L 9 = false := Hdep.out 9 _ rfl { on := 8, ground := Ground.data } (by simp) (by rfl) h8
            have h10 : L 10 = false := Hdep.out 10 _ rfl { on := 9, ground := Ground.data } (by simp) (by rfl) h9
            have h11 : L 11 = false := Hdep.out 11 _ rfl { on := 10, ground := Ground.data } (by simp) (by rfl) h10
            have h13 : L 13 = false := Hdep.out 13 _ rfl { on := 11, ground := Ground.data } (by simp) (by rfl) h11
            have a13 := R0 h13
            go_simp
            first | exact hK _ _ _ rfl trivial HR.out rfl | exact hK _ _ _ rfl trivial HR.out (by simp [Act.put, hpre])
          · go_simp
            first | exact hK _ _ _ rfl trivial HR.out rfl | exact hK _ _ _ rfl trivial HR.out (by simp [Act.put, hpre]) | exact hK undef _ _ trivial trivial HR.out (by simp [Act.put, hpre]) | exact hK _ _ _ trivial trivial HR.out rfl | exact hK _ _ _ trivial trivial HR.out (by simp [Act.put, hpre])
          · have h6 : L 6 = false := Hdep.out 6 _ rfl { on := 5, ground := Ground.data } (by simp) (by rfl) hL
            have h7 : L 7 = false := Hdep.out 7 _ rfl { on := 6, ground := Ground.data } (by simp) (by rfl) h6
            have h8 : L 8 = false := Hdep.out 8 _ rfl { on := 7, ground := Ground.data } (by simp) (by rfl) h7
            have h9 : L 9 = false := Hdep.out 9 _ rfl { on := 8, ground := Ground.data } (by simp) (by rfl) h8
            have h10 : L 10 = false := Hdep.out 10 _ rfl { on := 9, ground := Ground.data } (by simp) (by rfl) h9
            have h11 : L 11 = false := Hdep.out 11 _ rfl { on := 10, ground := Ground.data } (by simp) (by rfl) h10
            have h13 : L 13 = false := Hdep.out 13 _ rfl { on := 11, ground := Ground.data } (by simp) (by rfl) h11
            have a13 := R0 h13
            go_simp
            first | exact hK _ _ _ rfl trivial HR.out rfl | exact hK _ _ _ rfl trivial HR.out (by simp [Act.put, hpre])
          · go_simp
            first | exact hK _ _ _ rfl trivial HR.out rfl | exact hK _ _ _ rfl trivial HR.out (by simp [Act.put, hpre]) | exact hK undef _ _ trivial trivial HR.out (by simp [Act.put, hpre]) | exact hK _ _ _ trivial trivial HR.out rfl | exact hK _ _ _ trivial trivial HR.out (by simp [Act.put, hpre])
          · have wn : IntKind.i64.wrap ((nn : Int) - 1) = (nn : Int) - 1 := IntWalk.i64_in _ (by omega)
            go_simp
            exact hK (.int .i64 ((nn : Int) - 1)) _ _ rfl trivial HR.out (by simp [Act.put, hpre, wn])
          · have u3 : U 3 = .slice (some ⟨gb, 0, none⟩) nn cc := by
              first | exact hpre.1.2 | exact hpre.2.2 | exact hpre.2.1.2
            have u7 : U 7 = .int .i64 ((nn : Int) - 1) := by
              first | exact hpre.2.2 | exact hpre.1.2 | exact hpre.2.1.2 | exact hpre.2
            have t1 : ((nn : Int) - 1) = ((nn - 1 : Nat) : Int) := by omega
            rw [t1] at u7
            have t2 : ((nn - 1 : Nat) : Int) < (nn : Int) := by omega
            have t3 : (0 : Int) ≤ ((nn - 1 : Nat) : Int) := by omega
            go_simp
            exact hK (.pointer (some ⟨gb, (nn - 1) * 2, none⟩)) _ _ rfl trivial HR.out (by simp [Act.put, u3, u7])
          · have h10 : L 10 = false := Hdep.out 10 _ rfl { on := 9, ground := Ground.data } (by simp) (by rfl) hL
            have hS := R1 h10
            obtain ⟨b9, e9, e8, _, c0, c1⟩ := hS.get (by have := hnn.out; omega) (show nn - 1 < vs.length by have := hnn.out; omega)
            injection e9 with e9
            injection e9 with e9
            subst e9
            rw [hx.out] at c0 c1
            clear e8 hS
            go_simp
            first | exact hK _ _ _ rfl trivial HR.out rfl | exact hK _ _ _ rfl trivial HR.out (by simp [Act.put, hpre])
          · have h11 : L 11 = false := Hdep.out 11 _ rfl { on := 10, ground := Ground.data } (by simp) (by rfl) hL
            have h13 : L 13 = false := Hdep.out 13 _ rfl { on := 11, ground := Ground.data } (by simp) (by rfl) h11
            have hS := R1 hL
            have u9 : U 9 = .agg #[.string ⟨x.1.toArray⟩, .string ⟨x.2.toArray⟩] := by
              first | exact hpre.2 | exact hpre.1.2 | exact hpre.2.2
            have hba : Below W.heap.size W (W.alloc (.cells (verc x).toArray 46)) := (Below.refl _ _).alloc (Nat.le_refl _) _
            go_simp
            exact hK _ _ _ ⟨W.heap.size, rfl⟩ trivial ⟨fun h => (hS.below hba).reg, fun h => by simp at h, fun _ _ => ⟨W, rfl, rfl, hS⟩, fun h => absurd (h11.symm.trans (by simpa using h)) (by decide), fun h => absurd (h13.symm.trans (by simpa using h)) (by decide)⟩ (by simp [Act.put, u9])
          · obtain ⟨lv, uv⟩ : L 1 = true ∧ U 1 = .slice (some ⟨gb, 0, none⟩) nn cc := by
              first | exact hpre.1 | exact hpre.2.1 | exact hpre.2.2 | exact hpre.2.2.1
            obtain ⟨ls, bs, us⟩ : L 10 = true ∧ ∃ b, U 10 = .slice (some ⟨b, 0, none⟩) 1 1 := by
              first | exact hpre.2 | exact hpre.2.1 | exact hpre.1 | exact hpre.2.2 | exact hpre.2.2.1
            have h13 : L 13 = false := Hdep.out 13 _ rfl { on := 11, ground := Ground.data } (by simp) (by rfl) hL
            obtain ⟨W7, rfl, u7, o5⟩ := R2 ls hL
            rw [if_pos (by rfl)]
            refine wp_appKW W7 (.tmp 35) (.tmp 44) 40 rfl (w.heap.size + 1) 46 (.agg #[.string ⟨#[]⟩, .string ⟨#[]⟩]) 2 32 Tryz.underlying40 Tryz.infoVer rfl (by decide) (verc x) rfl (fun y hy => verc_one [x] y (by simpa using hy)) (.slice (some ⟨gb, 0, none⟩) nn cc) vs.length (vs.flatMap verc) uv u7 o5.row (by have := hnn.out; unfold maxLen; omega) (by have := hnn.out; omega) (by have := o5.lt; omega) ?_
            intro v' w' hown hg hwh
            obtain ⟨A5', n5', c5', rfl⟩ := own_slice hown
            have oa := o5.app (x := x) hown hg hwh
            exact hK _ _ _ ⟨A5', n5', c5', rfl⟩ trivial ⟨fun _ => oa.reg, fun h => absurd (ls.symm.trans (by simpa using h)) (by decide), fun _ h => by simp at h, fun _ _ => ⟨by simpa using ls, oa⟩, fun h => absurd (h13.symm.trans (by simpa using h)) (by decide)⟩ rfl
          · go_simp
            first | exact hK _ _ _ rfl trivial HR.out rfl | exact hK _ _ _ rfl trivial HR.out (by simp [Act.put, hpre]) | exact hK undef _ _ trivial trivial HR.out (by simp [Act.put, hpre]) | exact hK _ _ _ trivial trivial HR.out rfl | exact hK _ _ _ trivial trivial HR.out (by simp [Act.put, hpre])
          · obtain ⟨la, A5', n5', c5', ua⟩ : L 11 = true ∧ ∃ A n c, U 11 = .slice A n c := by
              first | exact ⟨hpre.1.1, hpre.1.2⟩ | exact ⟨hpre.2.1.1, hpre.2.1.2⟩ | exact ⟨hpre.2.1, hpre.2.2⟩
            obtain ⟨ls, oa⟩ := R3 la hL
            have up : U 12 = .pointer (some ⟨w1.heap.size + 1, 0, none⟩) := by
              first | exact hpre.1.2 | exact hpre.2.1.2 | exact hpre.2.2
            rw [ua] at oa
            have hcell := oa.reg
            have hfz := oa.regf
            have os := oa.store
            go_simp
            exact hK undef _ _ rfl trivial ⟨fun h => by simp at h, fun h => absurd (ls.symm.trans (by simpa using h)) (by decide), fun _ h => absurd (la.symm.trans (by simpa using h)) (by decide), fun _ h => by simp at h, fun _ => ⟨_, os⟩⟩ (by simp [Act.put, hpre, up, ua])
        · rintro L U W hL hφ hR
          clear hφ
          have h13 := hL 13 (by decide)
          obtain ⟨_, _, _, _, R4⟩ := hR
          obtain ⟨v2, os⟩ := R4 h13
          obtain ⟨gb2, c2, rfl⟩ := own_some os.row (by simp)
          clear hL R4 HS
          go_wp2_with fail
          go_meet
          exact ⟨vs ++ [x], gb2, _, c2, rfl, by simp, (by have := hnn.out; simp; omega), fun y hy => by rcases List.mem_append.1 hy with h | h; exact Hsv.out y h; simp at h; subst h; exact Hxs.out, os⟩
    case rest =>
      obtain ⟨w8, rfl⟩ : ∃ w8 : World, w8 = wc := ⟨_, rfl⟩
      obtain ⟨vs1, gb1, n1, c1, hn1', hp1, hle1, Hsv1, HS8⟩ := hcut
      clear HS Hsv hnn hn1 hn2
      go_wp2_with fail
      go_loopw [] (fun wr => ∃ (vs : List Ver) (gb nn cc q : Nat), Hid (nn = vs.length) ∧ 1 ≤ nn ∧ nn ≤ 3 ∧ q + nn ≤ q7 + 3 ∧ wr.cell? ⟨w1.heap.size + 1, 0, none⟩ = some (.slice (some ⟨gb, 0, none⟩) nn cc) ∧ Hid (ShortV vs) ∧ Hid (RgSt g w.heap.size (w1.heap.size + 1) w wr vs (.slice (some ⟨gb, 0, none⟩) nn cc) (.slice (some ⟨gb, 0, none⟩) nn cc) q)) (fun wr => match wr.cell? ⟨w1.heap.size + 1, 0, none⟩ with | some (.slice _ n _) => n | _ => 0)
      case atStart => exact ⟨vs1, gb1, n1, c1, q7, hn1', hp1, hle1, by omega, HS8.out.reg, Hsv1.out, HS8.out⟩
      case round =>
        clear HS8 Hsv1 hn1' hp1 hle1
        obtain ⟨vs, gb, nn, cc, q, hnn, hp, hle, hq, r1, Hsv, HS⟩ := hrel
        have Hr := Lib.hid (sRegOk_any _ vs wr (HS.out.vrow (by have := hnn.out; omega)) (by have := hnn.out; omega) (fun x hx => by have := Hsv.out x hx; omega))
        have hcc : nn ≤ cc := by
          obtain ⟨A2, c2, e2, h2, _⟩ := HS.out.vrow (by have := hnn.out; omega)
          injection e2 with _ _ e2
          have := hnn.out; omega
        generalize regOk vs = ro at Hr
        go_wp2_with fail
        refine Hr.out.mono ?_
        rintro e w9 ⟨rfl, hb9⟩
        have HS9 := Lib.hid (HS.out.below hb9)
        have R1 := Lib.hid r1
        have r9 : w9.cell? ⟨w1.heap.size + 1, 0, none⟩ = some (.slice (some ⟨gb, 0, none⟩) nn cc) := HS9.out.reg
        clear hb9 HS Hr r1
        cases ro with
        | true =>
          have z1 := HS9.out.res
          have z2 := HS9.out.resf
          have z3 := HS9.out.reg
          have hfin := Lib.hid (HS9.out.fin (by have := hnn.out; omega) (.slice (some ⟨gb, 0, none⟩) nn cc))
          go_wp2_with fail
          refine bodyPost_ret (v := .agg #[.slice (some ⟨gb, 0, none⟩) nn cc]) (by simp [results, Tryz.results74, go_sem, z1, z2]) rfl ?_
          exact ⟨vs, _, q, rfl, hfin.out.1, ⟨gb, cc, by rw [hnn.out], by first | (have := (HS9.out.row.lt gb rfl).1; omega) | (have := (HS10.out.row.lt gb rfl).1; omega)⟩, Hsv.out, by have := hnn.out; omega, by have := hnn.out; omega, by omega, hfin.out.2.1, hfin.out.2.2⟩
        | false =>
          by_cases hl1 : 1 < nn
          · have t1 : (1 : Int) < (nn : Int) := by omega
            go_wp2_with fail
            refine (pick_any g q 6 _ HS9.out.rdr (by omega) (by omega) (by omega)).mono ?_
            rintro e w10 ⟨x10, rfl, hx1, _, hR10, hg10⟩
            have HS10 := Lib.hid (HS9.out.turn hg10 hR10)
            have r10 : w10.cell? ⟨w1.heap.size + 1, 0, none⟩ = some (.slice (some ⟨gb, 0, none⟩) nn cc) := HS10.out.reg
            clear hR10 hg10 hx1 HS9 r9
            by_cases hx0 : x10 = 0
            · subst hx0
              have z1 := HS10.out.res
              have z2 := HS10.out.resf
              have z3 := HS10.out.reg
              have hfin := Lib.hid (HS10.out.fin (by have := hnn.out; omega) (.slice (some ⟨gb, 0, none⟩) nn cc))
              go_wp2_with fail
              refine bodyPost_ret (v := .agg #[.slice (some ⟨gb, 0, none⟩) nn cc]) (by simp [results, Tryz.results74, go_sem, z1, z2]) rfl ?_
              exact ⟨vs, _, (q + 1), rfl, hfin.out.1, ⟨gb, cc, by rw [hnn.out], by first | (have := (HS9.out.row.lt gb rfl).1; omega) | (have := (HS10.out.row.lt gb rfl).1; omega)⟩, Hsv.out, by have := hnn.out; omega, by have := hnn.out; omega, by omega, hfin.out.2.1, hfin.out.2.2⟩
            · have tx : 0 < x10 := by omega
              have f10 := HS10.out.regf
              have wn : IntKind.i64.wrap ((nn : Int) - 1) = ((nn - 1 : Nat) : Int) := by rw [IntWalk.i64_in _ (by omega)]; omega
              have n0 : (0 : Int) ≤ ((nn - 1 : Nat) : Int) := by omega
              have n1 : ((nn - 1 : Nat) : Int) ≤ (cc : Int) := by omega
              have hst := (HS10.out.drop (by have := hnn.out; omega)).store
              rw [← hnn.out] at hst
              have Hst := Lib.hid hst
              clear hst
              go_wp2_with fail
              go_roundw
              case rel => exact ⟨vs.dropLast, gb, nn - 1, cc, q + 1, (by have := hnn.out; show nn - 1 = _; simp; omega), by omega, by omega, by omega, Hst.out.reg, ShortV.drop Hsv.out, Hst.out⟩
              case measure => rw [R1.out, Hst.out.reg]; show nn - 1 < nn; omega
          · have t1 : ¬ ((1 : Int) < (nn : Int)) := by omega
            have z1 := HS9.out.res
            have z2 := HS9.out.resf
            have z3 := HS9.out.reg
            have hfin := Lib.hid (HS9.out.fin (by have := hnn.out; omega) (.slice (some ⟨gb, 0, none⟩) nn cc))
            go_wp2_with fail
            refine bodyPost_ret (v := .agg #[.slice (some ⟨gb, 0, none⟩) nn cc]) (by simp [results, Tryz.results74, go_sem, z1, z2]) rfl ?_
            exact ⟨vs, _, q, rfl, hfin.out.1, ⟨gb, cc, by rw [hnn.out], by first | (have := (HS9.out.row.lt gb rfl).1; omega) | (have := (HS10.out.row.lt gb rfl).1; omega)⟩, Hsv.out, by have := hnn.out; omega, by have := hnn.out; omega, by omega, hfin.out.2.1, hfin.out.2.2⟩
end Go.Proofs.YtdhinlhafoiaiaaGreatDoor
/- The drawing functions of the laws on registries. -/
namespace Go.Proofs.YtdhinlhafoiaiaaGreatDoor
open Go.RowKit
set_option maxRecDepth 100000
set_option linter.unusedVariables false
set_option linter.unusedSimpArgs false
attribute [local go_sem] ba_get ba_toList ba_extract take_drop_all ByteArray.mk_append_mk

theorem vrow_set {W : World} {gb n c B o : Nat} {vs : List Ver} (h : VRow W (.slice (some ⟨gb, 0, none⟩) n c) vs) (hne : gb ≠ B) (u : Value) : VRow (W.setCell ⟨B, o, none⟩ u) (.slice (some ⟨gb, 0, none⟩) n c) vs := by
  obtain ⟨A, c2, e, h1, h2, h3⟩ := h
  injection e with e1 e2 e3
  subst e1 e2 e3
  refine ⟨_, _, rfl, h1, h2, fun hp => ?_⟩
  obtain ⟨b, off, e, hb, hc⟩ := h3 hp
  injection e with e
  injection e with e4 e5
  subst e4 e5
  exact ⟨gb, 0, rfl, by simpa using hb, fun j x hx => by rw [World.cell?_setCell_other _ _ _ _ (by intro e; injection e with e; exact hne e.symm)]; exact hc j x hx⟩
theorem vrow_drop {W : World} {A : Option Addr} {n c : Nat} {vs : List Ver} (h : VRow W (.slice A n c) vs) : VRow W (.slice A (vs.length - 1) c) vs.dropLast := by
  obtain ⟨A2, c2, e, h1, h2, h3⟩ := h
  injection e with e1 e2 e3
  subst e1 e2 e3
  refine ⟨A, c, by simp, by simp; omega, by simp; omega, fun hp => ?_⟩
  have hv : 0 < vs.length := by
    rcases Nat.eq_zero_or_pos vs.length with h0 | h0
    · rw [List.eq_nil_of_length_eq_zero h0] at hp; simp at hp
    · exact h0
  obtain ⟨us, x, rfl⟩ : ∃ us x, vs = us ++ [x] := ⟨vs.dropLast, vs.getLast (by intro e; rw [e] at hv; simp at hv), (List.dropLast_concat_getLast _).symm⟩
  rw [List.dropLast_concat] at hp ⊢
  obtain ⟨b, off, e, hb, hc⟩ := h3 (by rw [flatMap_len verc_len]; simp)
  refine ⟨b, off, e, hb, fun j u hu => hc j u ?_⟩
  rw [List.flatMap_append, List.getElem?_append_left (List.getElem?_eq_some_iff.1 hu).1]
  exact hu
theorem regOk_drop {vs : List Ver} (h : regOk vs = true) : regOk vs.dropLast = true := by
  obtain ⟨h1, h2⟩ := regOk_iff.1 h
  have e : ∀ i, i < vs.dropLast.length → verAt vs.dropLast i = verAt vs i := fun i hi => by
    have hi2 : i < vs.length := by simp at hi; omega
    rw [verAt_lt hi, verAt_lt hi2]
    simp
  refine regOk_iff.2 ⟨by simp; omega, fun i hi k hk => ?_⟩
  rw [e i hi, e k (by omega)]
  exact h2 i (by simp at hi; omega) k hk
def RegDr (w : World) (e : Ending) (w' : World) : Prop := ∃ (vs : List Ver) (v : Value), e = .returned (.agg #[v]) ∧ VRow w' v vs ∧ ShortV vs ∧ 1 ≤ vs.length ∧ vs.length ≤ 3 ∧ Below w.heap.size w w'
set_option maxHeartbeats 1000000 in
theorem DrawRegistryOk_any (A : Option Addr) (n c : Nat) (l : List UInt8) (w : World) (h : RowAt w A n (bcells l)) (hc : n ≤ c) (hcm : c ≤ maxLen) :
    Calls Tryz.prog 31 #[.slice A n c] w (RegDr w) := by
  go_enter Tryz.func31, Tryz.ntmps31
  go_wp2_with fail
  refine (l6Open_any A n c l _ (h.alloc _) hc hcm).mono ?_
  rintro e w0 ⟨g, rfl, hR, hgb, hb0⟩
  have HR := Lib.hid hR
  have Hb0 := Lib.hid (((Below.refl w.heap.size w).alloc (Nat.le_refl _) (.cells #[.slice none 0 0] 42)).trans (hb0.mono (by simp)))
  simp at hgb
  have hz0 : w.heap.size < w0.heap.size := by have := hR.lt; omega
  have hc0 : w0.cell? ⟨w.heap.size, 0, none⟩ = some (.slice none 0 0) := (hb0.cell (p := ⟨w.heap.size, 0, none⟩) (by simp)).trans (by simp [go_sem])
  have hf0 : w0.frozen? ⟨w.heap.size, 0, none⟩ = false := ((bcell hb0).2.1 w.heap.size 0 (by simp)).trans (by simp [go_sem])
  clear hR h hb0
  go_wp2_with fail
  refine (l91Registry_any g 0 _ HR.out (by omega)).mono ?_
  rintro e w1 ⟨vs, v, q, rfl, hv, ⟨gb, cc, rfl, hgb2⟩, hsv, hp, hle, _, _, hg1⟩
  obtain ⟨a1, a2⟩ := cell_gr (b := w.heap.size) (o := 0) hz0 hg1 (fun e => by injection e with e; omega)
  rw [hc0] at a1
  rw [hf0] at a2
  have Hv := Lib.hid (vrow_set (B := w.heap.size) (o := 0) hv (by omega) (.slice (some ⟨gb, 0, none⟩) vs.length cc))
  have Hb1 := Lib.hid (show Below w.heap.size w (w1.setCell ⟨w.heap.size, 0, none⟩ (.slice (some ⟨gb, 0, none⟩) vs.length cc)) from (Hb0.out.grown hg1 Hb0.out.size (fun k hk => by injection hk with hk; omega)).setCell (Nat.le_refl _) _)
  clear hg1 hv
  go_wp2_with fail
  refine bodyPost_ret (v := .agg #[.slice (some ⟨gb, 0, none⟩) vs.length cc]) (by simp [results, Tryz.results31, go_sem, a1, a2]) rfl ?_
  exact ⟨vs, _, rfl, Hv.out, hsv, hp, hle, Hb1.out⟩
end Go.Proofs.YtdhinlhafoiaiaaGreatDoor
