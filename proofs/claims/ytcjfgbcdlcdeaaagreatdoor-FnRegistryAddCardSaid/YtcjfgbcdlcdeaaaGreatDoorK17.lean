/- Texts joined: DOlder, Reg, SEvolve. Conditions: as each theorem names them. -/
import Derived.Deep.CutRange
import Derived.Deep.DeepCutAuto
import Derived.OwnWalk
import Derived.Test.YtcjfgbcdlcdeaaaGreatDoorK07
import Derived.Test.YtcjfgbcdlcdeaaaGreatDoorK11
import Derived.Test.YtcjfgbcdlcdeaaaGreatDoorK12
import Derived.Test.YtcjfgbcdlcdeaaaGreatDoorK14
import Derived.Test.YtcjfgbcdlcdeaaaGreatDoorK16
/- Drawn older and newer schemas. -/
namespace Go.Proofs.YtcjfgbcdlcdeaaaGreatDoor
open Go.RowKit
set_option maxRecDepth 100000
set_option linter.unusedVariables false
set_option linter.unusedSimpArgs false
attribute [local go_sem] ba_get ba_toList ba_extract take_drop_all ByteArray.mk_append_mk

theorem SFds.grown {w w' : World} {g p : Nat} {v : Value} {fs : List Fd} (h : SFds w v fs) (hR : Rdr w g p) (hg : w.grownBy w' (some g)) : SFds w' v fs := by
  obtain ⟨A, c, e, hl, hr⟩ := h
  refine ⟨A, c, e, hl, hr.grown hg (fun b off e1 hn => ?_)⟩
  rintro rfl
  obtain ⟨b', off', e', _, c0, c1, _, _⟩ := SFds.at_ hr (i := 0) (by omega)
  rw [e1] at e'
  injection e' with e'
  injection e' with e2 e3
  subst e2 e3
  obtain ⟨A2, n2, c2, l2, hh, _⟩ := hR
  rcases (show off = 0 ∨ off = 1 ∨ 2 ≤ off by omega) with ho | ho | ho
  · subst ho; simp [World.cell?, hh] at c0
  · subst ho; simp [World.cell?, hh] at c1
  · obtain ⟨k, rfl⟩ : ∃ k, off = k + 2 := ⟨off - 2, by omega⟩
    simp [World.cell?, hh] at c0
theorem SSc.grown {w w' : World} {g p : Nat} {v : Value} {xs : List (Ty × Value)} (h : SSc w v xs) (hR : Rdr w g p) (hg : w.grownBy w' (some g)) : SSc w' v xs := by
  obtain ⟨A, c, e, hl, hr, hf⟩ := h
  refine ⟨A, c, e, hl, hr.grown hg (fun b off e1 hn => ?_), fun x hx => (hf x hx).grown hR hg⟩
  rintro rfl
  obtain ⟨b', off', e', _, c0, _, _⟩ := SSc.at_ hr (i := 0) (by omega)
  rw [e1] at e'
  injection e' with e'
  injection e' with e2 e3
  subst e2 e3
  obtain ⟨A2, n2, c2, l2, hh, _⟩ := hR
  rcases (show off = 0 ∨ off = 1 ∨ 2 ≤ off by omega) with ho | ho | ho
  · subst ho; simp [World.cell?, hh] at c0
  · subst ho; simp [World.cell?, hh] at c0
  · obtain ⟨k, rfl⟩ : ∃ k, off = k + 2 := ⟨off - 2, by omega⟩
    simp [World.cell?, hh] at c0

/-- A field as it may stand in a drawn type. -/
def FdD (st : UInt8) (f : Fd) : Prop := FShort st f
/-- What the loops over types and fields keep: the reader, the type that is gone through, and the new type with its row of fields. -/
structure OldSt (g B12 B : Nat) (c0 c1 cf : Value) (W0 W : World) (fs : List Fd) (fv : Value) (q : Nat) : Prop where
  rdr : Rdr W g q
  grown : W0.grownBy W (some g)
  old : W.rangeAt B12 0 [c0, c1, cf]
  new : W.rangeAt B 0 [c0, c1, fv]
  there : W.there B 0 3
  row : W.ownsRow (B + 1) 135 4 fv fs.length (fs.flatMap sfc)
  lt : g < B12 ∧ B12 < B ∧ B < W.heap.size ∧ W0.heap.size ≤ B12
theorem rangeAt_gr {W W' : World} {b o : Nat} {cs : List Value} {r : Option Nat} (h : W.rangeAt b o cs) (hb : b < W.heap.size) (hg : W.grownBy W' r) (hne : some b ≠ r) : W'.rangeAt b o cs := fun j v hv =>
  (World.cell?_of_block (a := ⟨b, o + j, none⟩) (hg.block b hb hne)).trans (h j v hv)
theorem there_gr {W W' : World} {b o n : Nat} {r : Option Nat} (h : W.there b o n) (hb : b < W.heap.size) (hg : W.grownBy W' r) (hne : some b ≠ r) : W'.there b o n := fun j hj => by
  obtain ⟨h1, h2⟩ := h j hj
  have e := hg.block b hb hne
  refine ⟨by rw [World.cell?_of_block (a := ⟨b, o + j, none⟩) e]; exact h1, ?_⟩
  have e2 : W'.frozen? ⟨b, o + j, none⟩ = W.frozen? ⟨b, o + j, none⟩ := by simp only [World.frozen?, e]
  rw [e2]; exact h2
theorem OldSt.pick {g B12 B : Nat} {c0 c1 cf : Value} {W0 W W' : World} {fs : List Fd} {fv : Value} {q q' : Nat} (h : OldSt g B12 B c0 c1 cf W0 W fs fv q) (hg : W.grownBy W' (some g)) (hR : Rdr W' g q') : OldSt g B12 B c0 c1 cf W0 W' fs fv q' := by
  obtain ⟨l1, l2, l3, l4⟩ := h.lt
  have hz := hg.size
  exact ⟨hR, dgrown_trans h.grown hg, rangeAt_gr h.old (by omega) hg (fun e => by injection e with e; omega), rangeAt_gr h.new (by omega) hg (fun e => by injection e with e; omega), there_gr h.there (by omega) hg (fun e => by injection e with e; omega),
    h.row.kept hg (.inr fun e => by have := (h.row.lt _ e).1; omega), ⟨l1, l2, by omega, l4⟩⟩
theorem OldSt.below {g B12 B : Nat} {c0 c1 cf : Value} {W0 W W' : World} {fs : List Fd} {fv : Value} {q : Nat} (h : OldSt g B12 B c0 c1 cf W0 W fs fv q) (hb : Below W.heap.size W W') : OldSt g B12 B c0 c1 cf W0 W' fs fv q :=
  h.pick (dgrown_below hb _) (h.rdr.below hb)

theorem OldSt.block {g B12 B : Nat} {c0 c1 cf : Value} {W0 W : World} {fs : List Fd} {fv : Value} {q : Nat} (h : OldSt g B12 B c0 c1 cf W0 W fs fv q) : ∀ k, fv.ownBlock = some k → B < k ∧ k < W.heap.size := fun k hk => by
  have := h.row.lt k hk; omega
/-- The box of a field. -/
structure FBox (B16 : Nat) (f : Fd) (B : Nat) (fv : Value) (W : World) : Prop where
  cells : W.rangeAt B16 0 (sfc f)
  there : W.there B16 0 4
  lt : B < B16 ∧ B16 < W.heap.size
  own : fv.ownBlock ≠ some B16
theorem FBox.grown {B16 B g : Nat} {f : Fd} {fv : Value} {W W' : World} (h : FBox B16 f B fv W) (hg : W.grownBy W' (some g)) (hgb : g < B) : FBox B16 f B fv W' := by
  obtain ⟨l1, l2⟩ := h.lt
  have hz := hg.size
  exact ⟨rangeAt_grown h.cells hg (fun e => by injection e with e; omega), there_grown h.there hg l2 (fun e => by injection e with e; omega), ⟨l1, by omega⟩, h.own⟩
theorem FBox.below {B16 B : Nat} {f : Fd} {fv : Value} {W W' : World} (h : FBox B16 f B fv W) (hb : Below W.heap.size W W') : FBox B16 f B fv W' :=
  ⟨rangeAt_below h.cells h.lt.2 hb, there_below h.there h.lt.2 hb, ⟨h.lt.1, Nat.lt_of_lt_of_le h.lt.2 hb.size⟩, h.own⟩
/-- A box, or none. -/
def FBoxO (o : Option (Nat × Fd)) (B : Nat) (fv : Value) (W : World) : Prop := ∀ b f, o = some (b, f) → FBox b f B fv W
theorem FBoxO.below {o : Option (Nat × Fd)} {B : Nat} {fv : Value} {W W' : World} (h : FBoxO o B fv W) (hb : Below W.heap.size W W') : FBoxO o B fv W' := fun b f e => (h b f e).below hb
theorem FBoxO.grown {o : Option (Nat × Fd)} {B g : Nat} {fv : Value} {W W' : World} (h : FBoxO o B fv W) (hg : W.grownBy W' (some g)) (hgb : g < B) : FBoxO o B fv W' := fun b f e => (h b f e).grown hg hgb
/-- Behind an append, ahead of the store. -/
structure OldApp (g B12 B : Nat) (c0 c1 cf : Value) (W0 W : World) (fs : List Fd) (fv : Value) (q : Nat) (o : Option (Nat × Fd)) (f2 : Fd) (v : Value) : Prop where
  rdr : Rdr W g q
  grown : W0.grownBy W (some g)
  old : W.rangeAt B12 0 [c0, c1, cf]
  new : W.rangeAt B 0 [c0, c1, fv]
  there : W.there B 0 3
  row : W.ownsRow (B + 1) 135 4 v (fs.length + 1) (fs.flatMap sfc ++ sfc f2)
  lt : g < B12 ∧ B12 < B ∧ B < W.heap.size ∧ W0.heap.size ≤ B12
  box : FBoxO o B v W
theorem OldSt.app {g B12 B : Nat} {c0 c1 cf : Value} {W0 W7 w5 : World} {fs : List Fd} {fv v5 : Value} {q : Nat} {o : Option (Nat × Fd)} {f2 : Fd} (h : OldSt g B12 B c0 c1 cf W0 W7 fs fv q) (hb : FBoxO o B fv W7)
    (hown : w5.ownsRow (B + 1) 135 4 v5 (fs.length + 1) (fs.flatMap sfc ++ sfc f2)) (hg : W7.grownBy w5 fv.ownBlock) (hw : v5.ownBlock = fv.ownBlock ∨ ∃ k, v5.ownBlock = some k ∧ W7.heap.size ≤ k) : OldApp g B12 B c0 c1 cf W0 w5 fs fv q o f2 v5 := by
  obtain ⟨l1, l2, l3, l4⟩ := h.lt
  have hz := hg.size
  have hfv := h.block
  have ne : ∀ b, b ≤ B → some b ≠ fv.ownBlock := fun b hbB e => by have := (hfv b e.symm).1; omega
  have hgb : Below (B + 1) W7 w5 := (Below.refl _ _).grown hg (by omega) (fun k hk => by have := (hfv k hk).1; omega)
  refine ⟨h.rdr.belowg (hgb.mono (by omega)) hz, ⟨hg.os.trans h.grown.os, hg.tape.trans h.grown.tape, hg.output.trans h.grown.output, Nat.le_trans h.grown.size hz, fun i hi hne => (hg.block i (Nat.lt_of_lt_of_le hi h.grown.size) (ne i (by omega))).trans (h.grown.block i hi hne)⟩, rangeAt_grown h.old hg (ne B12 (by omega)), rangeAt_grown h.new hg (ne B (by omega)), there_grown h.there hg (by omega) (ne B (by omega)), hown, ⟨l1, l2, by omega, l4⟩, fun b f e => ?_⟩
  obtain ⟨b1, b2, b3, b4⟩ := hb b f e
  refine ⟨rangeAt_grown b1 hg (fun e => b4 e.symm), there_grown b2 hg b3.2 (fun e => b4 e.symm), ⟨b3.1, by omega⟩, fun e => ?_⟩
  rcases hw with hw | ⟨k, hk, hk2⟩
  · exact b4 (hw.symm.trans e)
  · rw [hk] at e; injection e with e; omega
theorem OldApp.store {g B12 B : Nat} {c0 c1 cf : Value} {W0 W : World} {fs : List Fd} {fv v : Value} {q : Nat} {o : Option (Nat × Fd)} {f2 : Fd} (h : OldApp g B12 B c0 c1 cf W0 W fs fv q o f2 v) :
    OldSt g B12 B c0 c1 cf W0 (W.setCell ⟨B, 2, none⟩ v) (fs ++ [f2]) v q ∧ FBoxO o B v (W.setCell ⟨B, 2, none⟩ v) := by
  obtain ⟨l1, l2, l3, l4⟩ := h.lt
  have hg := grown_set W ⟨B, 2, none⟩ v
  refine ⟨⟨h.rdr.belowg (((Below.refl _ _).setCell (show g + 1 ≤ B by omega) _)) (by simp), ⟨h.grown.os, h.grown.tape, h.grown.output, by simp; exact h.grown.size, fun i hi hne => (hg.block i (Nat.lt_of_lt_of_le hi h.grown.size) (fun e => by injection e with e; simp at e; omega)).trans (h.grown.block i hi hne)⟩, ?_, ?_, World.there_setCells h.there B 2 [_], ?_, ⟨l1, l2, by simpa using l3, l4⟩⟩, fun b f e => ?_⟩
  · exact rangeAt_grown h.old hg (fun e => by injection e with e; simp at e; omega)
  · exact rangeAt_setCells_in (l2' := [v]) [c0, c1] [fv] [] h.new rfl
  · rw [List.length_append, List.flatMap_append]
    have e : [f2].flatMap sfc = sfc f2 := by simp
    rw [e]
    exact h.row.kept hg (.inr fun e => absurd (h.row.lt _ e).1 (by simp))
  · obtain ⟨b1, b2, b3, b4⟩ := h.box b f e
    exact ⟨rangeAt_grown b1 hg (fun e => by injection e with e; simp at e; omega), there_grown b2 hg b3.2 (fun e => by injection e with e; simp at e; omega), ⟨b3.1, by simpa using b3.2⟩, b4⟩
theorem fd_short {st : UInt8} {f : Fd} (h : fdOk st f) : FShort st f := by
  have hg := given_len h
  obtain ⟨h1, h2, h3, h4, h5⟩ := h
  have hn := (nameOk_iff.1 h3).2.1
  by_cases hs : st = 69
  · exact ⟨h2, by omega, by rw [(h4 hs).1]; decide, by omega, fun _ => (h4 hs).2⟩
  · exact ⟨h2, by omega, by have := (h5 hs).1.2.2; omega, by omega, fun h => absurd h hs⟩

theorem any_fd {st : UInt8} {n : Nat} {nm kd : List UInt8} (hn : n ≤ 200) (h1 : nm.length ≤ 100) (h2 : kd.length ≤ 100) (h3 : kd ≠ [64]) : ∃ f2 : Fd, (.agg #[.int .i64 (n : Int), .string ⟨nm.toArray⟩, .string ⟨kd.toArray⟩, .string ⟨#[]⟩] : Value) = .agg (sfc f2).toArray ∧ FShort st f2 := by
  have e : kdB ⟨[], kd, []⟩ = kd := by unfold kdB coreB; rw [if_neg h3]; rfl
  refine ⟨⟨n, nm, ⟨[], kd, []⟩, []⟩, ?_, hn, h1, by rw [e]; exact h2, by simp, fun _ => rfl⟩
  show _ = Value.agg #[.int .i64 (n : Int), .string ⟨nm.toArray⟩, .string ⟨(kdB ⟨[], kd, []⟩).toArray⟩, .string ⟨#[]⟩]
  rw [e]
theorem DK.ne {l : List UInt8} (h : DK l) : l ≠ [64] := by
  rcases h with ⟨sg, b, rfl, _, h2, h3⟩ | h
  · cases sg with
    | nil => exact (show ∀ b ∈ baseTs, b ≠ [64] by decide) b h3
    | cons c r =>
      intro e
      rw [List.cons_append] at e
      injection e with e1 e2
      have hb := (show ∀ b ∈ baseTs, b ≠ [] by decide) b h3
      have := congrArg List.length e2
      simp only [List.length_append, List.length_nil] at this
      exact hb (List.eq_nil_of_length_eq_zero (by omega))
  · exact (show ∀ b ∈ weirdTs, b ≠ [64] by decide) l h
theorem l6If_any (b : Bool) (x y : List UInt8) (w : World) :
    Calls Tryz.prog 85 #[.bool b, .string ⟨x.toArray⟩, .string ⟨y.toArray⟩] w fun e w' => e = .returned (.string ⟨(if b = true then x else y).toArray⟩) ∧ Below w.heap.size w w' := by
  cases b with
  | true =>
    go_enter Tryz.func85, Tryz.ntmps85
    go_wp2_with fail
    go_ret
    exact ⟨rfl, Below.refl _ _⟩
  | false =>
    go_enter Tryz.func85, Tryz.ntmps85
    go_wp2_with fail
    go_ret
    exact ⟨rfl, Below.refl _ _⟩

theorem OldSt.setBox {g B12 B B16 : Nat} {c0 c1 cf : Value} {W0 W : World} {fs : List Fd} {fv : Value} {q : Nat} (h : OldSt g B12 B c0 c1 cf W0 W fs fv q) (hB : B < B16) (hne : fv.ownBlock ≠ some B16) (o : Nat) (v : Value) : OldSt g B12 B c0 c1 cf W0 (W.setCell ⟨B16, o, none⟩ v) fs fv q := by
  obtain ⟨l1, l2, l3, l4⟩ := h.lt
  have hg := grown_set W ⟨B16, o, none⟩ v
  exact ⟨h.rdr.belowg (((Below.refl _ _).setCell (show g + 1 ≤ B16 by omega) _)) (by simp), ⟨h.grown.os, h.grown.tape, h.grown.output, by simp; exact h.grown.size, fun i hi hne => (hg.block i (Nat.lt_of_lt_of_le hi h.grown.size) (fun e => by injection e with e; simp at e; omega)).trans (h.grown.block i hi hne)⟩,
    rangeAt_grown h.old hg (fun e => by injection e with e; simp at e; omega), rangeAt_grown h.new hg (fun e => by injection e with e; simp at e; omega), World.there_setCells h.there B16 o [_], h.row.kept hg (.inr hne), ⟨l1, l2, by simpa using l3, l4⟩⟩
theorem FBox.set {B16 B : Nat} {f : Fd} {fv : Value} {W : World} (h : FBox B16 f B fv W) (l : List UInt8) (hl : l ≠ [64]) : FBox B16 { f with kind := ⟨[], l, []⟩, given := [] } B fv ((W.setCell ⟨B16, 2, none⟩ (.string ⟨l.toArray⟩)).setCell ⟨B16, 3, none⟩ (.string ⟨#[]⟩)) := by
  have ek : kdB ⟨[], l, []⟩ = l := by unfold kdB coreB; rw [if_neg hl]; rfl
  have r1 : (W.setCell ⟨B16, 2, none⟩ (.string ⟨l.toArray⟩)).rangeAt B16 0 [.int .i64 (f.tag : Int), .string ⟨f.name.toArray⟩, .string ⟨l.toArray⟩, .string ⟨f.given.toArray⟩] :=
    rangeAt_setCells_in (l2' := [.string ⟨l.toArray⟩]) [.int .i64 (f.tag : Int), .string ⟨f.name.toArray⟩] [.string ⟨(kdB f.kind).toArray⟩] [.string ⟨f.given.toArray⟩] h.cells rfl
  have r2 : ((W.setCell ⟨B16, 2, none⟩ (.string ⟨l.toArray⟩)).setCell ⟨B16, 3, none⟩ (.string ⟨#[]⟩)).rangeAt B16 0 [.int .i64 (f.tag : Int), .string ⟨f.name.toArray⟩, .string ⟨l.toArray⟩, .string ⟨#[]⟩] :=
    rangeAt_setCells_in (l2' := [.string ⟨#[]⟩]) [.int .i64 (f.tag : Int), .string ⟨f.name.toArray⟩, .string ⟨l.toArray⟩] [.string ⟨f.given.toArray⟩] [] r1 rfl
  refine ⟨?_, World.there_setCells (World.there_setCells h.there B16 2 [_]) B16 3 [_], ⟨h.lt.1, by simpa using h.lt.2⟩, h.own⟩
  show World.rangeAt _ _ _ [.int .i64 (f.tag : Int), .string ⟨f.name.toArray⟩, .string ⟨(kdB ⟨[], l, []⟩).toArray⟩, .string ⟨#[]⟩]
  rw [ek]; exact r2

theorem tyB20_len {t : Ty} (h8 : t.fields.length ≤ 20) (hn : t.name.length ≤ 100) (hs : ∀ f ∈ t.fields, FShort t.sort f) : (tyB t ++ [10]).length ≤ 8200 := by
  have h := joinL_len 44 400 (t.fields.map (fdB t.sort)) (fun p hp => by obtain ⟨f, hf, rfl⟩ := List.mem_map.1 hp; exact fdB_len (hs f hf))
  rw [List.length_map] at h
  unfold tyB
  simp
  omega

theorem own_fds {W : World} {B : Nat} {A : Option Addr} {n c : Nat} {fs : List Fd} (h : W.ownsRow B 135 4 (.slice A n c) fs.length (fs.flatMap sfc)) (hl : fs.length ≤ 1000) : SFds W (.slice A n c) fs := by
  obtain ⟨A9, c9, e9, hr9⟩ := RowAt.ownK h (by unfold maxLen; omega)
  exact ⟨A9, c9, e9, hl, hr9⟩

def OldPost (w : World) (g p : Nat) (e : Ending) (w' : World) : Prop :=
  ∃ (a b c d : List UInt8) (q : Nat), e = .returned (.tuple #[.string ⟨a.toArray⟩, .string ⟨b.toArray⟩, .string ⟨c.toArray⟩, .string ⟨d.toArray⟩]) ∧ a.length ≤ 100000 ∧ b.length ≤ 15 ∧ c.length ≤ 270 ∧ d.length ≤ 15 ∧ q ≤ p + 3000 ∧ Rdr w' g q ∧ w.grownBy w' (some g)

set_option maxHeartbeats 8000000 in
theorem l91Older_any (g p : Nat) (w : World) (h : Rdr w g p) (hp : p ≤ 100000) :
    Calls Tryz.prog 53 #[.pointer (some ⟨g, 0, none⟩)] w (OldPost w g p) := by
  have hgl := h.lt
  have HR := Lib.hid h
  have Hg0 := Lib.hid (World.grownBy.refl w (some g))
  clear h
  go_enter Tryz.func53, Tryz.ntmps53
  go_wp2_with fail
  refine (l91Schema_any g p _ HR.out (by omega)).mono ?_
  rintro e w1 ⟨s1, q1, rfl, hs1, hq1, hR1, hg1⟩
  have HR1 := Lib.hid hR1
  have Hg1 := Lib.hid (dgrown_trans Hg0.out hg1)
  have hl1 := hs1.1
  have hgl1 := hR1.lt
  clear hR1 hg1 hs1
  go_wp2_with fail
  refine (l91Some_any g q1 s1 _ HR1.out (by omega) (by omega)).mono ?_
  rintro e w2 ⟨s2, q2, rfl, hs2, hq2, hR2, hg2⟩
  have HR2 := Lib.hid hR2
  have Hg2 := Lib.hid (dgrown_trans Hg1.out hg2)
  have hl2 := hs2.len
  have hgl2 := hR2.lt
  clear hR2 hg2 hs2
  have Ho := Lib.hid (fun W => sOf_any s1 W (by omega))
  have Hgood := Lib.hid (fun S (h : schemaL s1 = some S) => (schemaL_some.1 h).1)
  generalize schemaL s1 = o at *
  go_wp2_with fail
  refine (Ho.out _).mono ?_
  rintro e w3 ⟨hc3, hb3⟩
  have HR3 := Lib.hid (HR2.out.below hb3)
  have Hg3 := Lib.hid (dgrown_trans Hg2.out (dgrown_below hb3 (some g)))
  have hgl3 := HR3.out.lt
  clear hb3 HR HR1 HR2 Hg0 Hg1 Hg2 Ho
  cases o with
  | none =>
    obtain ⟨A, n, c, rfl⟩ := hc3
    go_wp2_with fail
    refine (l91Schema_any g q2 _ HR3.out (by omega)).mono ?_
    rintro e w4 ⟨s4, q4, rfl, hs4, hq4, hR4, hg4⟩
    have HR4 := Lib.hid hR4
    have Hg4 := Lib.hid (dgrown_trans Hg3.out hg4)
    have hl4 := hs4.1
    have hgl4 := hR4.lt
    clear hR4 hg4 hs4
    go_wp2_with fail
    refine bodyPost_ret (v := .tuple #[.string ⟨s4.toArray⟩, .string ⟨s2.toArray⟩, .string ⟨s1.toArray⟩, .string ⟨s2.toArray⟩]) (by simp [results, Tryz.results53, go_sem]) rfl ?_
    exact ⟨s4, s2, s1, s2, q4, rfl, by omega, by omega, by omega, by omega, by omega, HR4.out, Hg4.out⟩
  | some S =>
    obtain ⟨v, xs, rfl, hxs, hsc⟩ := hc3
    have Hok := Lib.hid (Hgood.out S rfl)
    have hx8 : xs.length ≤ 8 := by have := Hok.out.1.2.1; rw [← hxs] at this; simpa [tysOf] using this
    have Hsc := Lib.hid hsc
    have Hxs := Lib.hid hxs
    obtain ⟨A, c, rfl, _⟩ := hsc
    clear hxs Hgood
    go_wp2_with fail
    refine (pick_any g q2 8 _ HR3.out (by omega) (by omega) (by omega)).mono ?_
    rintro e w4 ⟨x, rfl, hx1, _, hR4, hg4⟩
    have HR4 := Lib.hid hR4
    have Hg4 := Lib.hid (dgrown_trans Hg3.out hg4)
    have Hsc4 := Lib.hid (Hsc.out.grown HR3.out hg4)
    have hgl4 := hR4.lt
    clear hR4 hg4 hx1 HR3 Hg3 Hsc
    by_cases hx0 : x = 0
    · subst hx0
      go_wp2_with fail
      refine (l91Schema_any g (q2 + 1) _ HR4.out (by omega)).mono ?_
      rintro e w5 ⟨s5, q5, rfl, hs5, hq5, hR5, hg5⟩
      have HR5 := Lib.hid hR5
      have Hg5 := Lib.hid (dgrown_trans Hg4.out hg5)
      have hl5 := hs5.1
      have hgl5 := hR5.lt
      clear hR5 hg5 hs5
      go_wp2_with fail
      refine bodyPost_ret (v := .tuple #[.string ⟨s5.toArray⟩, .string ⟨s2.toArray⟩, .string ⟨s1.toArray⟩, .string ⟨s2.toArray⟩]) (by simp [results, Tryz.results53, go_sem]) rfl ?_
      exact ⟨s5, s2, s1, s2, q5, rfl, by omega, by omega, by omega, by omega, by omega, HR5.out, Hg5.out⟩
    · have tx : ((x : Int) == 0) = false := by simp; omega
      clear hx0
      go_wp2_with fail
      go_loopw [41, 10] (fun i o wr => ∃ (m : Nat) (out : List UInt8) (q : Nat), i = .int .i64 m ∧ o = .string ⟨out.toArray⟩ ∧ m ≤ xs.length ∧ out.length ≤ 8200 * m ∧ q ≤ q2 + 1 + 300 * m ∧ g < wr.heap.size ∧ Hid (Rdr wr g q) ∧ Hid (w4.grownBy wr (some g))) (fun i _ _ => xs.length - (intOf i).toNat)
      case atStart => exact ⟨0, [], q2 + 1, rfl, rfl, Nat.zero_le _, by simp, by omega, hgl4, HR4.out, World.grownBy.refl _ _⟩
      case round =>
        obtain ⟨m, out, q, rfl, rfl, hm, hol, hq, hgw, hR, hg⟩ := hrel
        have m1 : (0 : Int) ≤ (m : Int) := by omega
        by_cases hlt : m < xs.length
        · have m2 : (m : Int) < (xs.length : Int) := by omega
          obtain ⟨A', c', e', _, hrow, hfds⟩ := Hsc4.out.grown HR4.out hg.out
          injection e' with eA _ ec
          subst eA ec
          have hxm := List.getElem_mem hlt
          have hfx := hfds _ hxm
          have hfx4 : SFds w4 xs[m].2 xs[m].1.fields := by obtain ⟨_, _, _, _, _, hf⟩ := Hsc4.out; exact hf _ hxm
          have Hto := Lib.hid (Hok.out.1.1 xs[m].1 (by rw [← Hxs.out]; exact List.mem_map_of_mem (f := (·.1)) hxm))
          obtain ⟨b1, o1, rfl, hb1l, x0, x1, x2⟩ := SSc.at_ hrow hlt
          clear hrow hfds hxm
          generalize xs[m] = tx at *
          obtain ⟨t, fv⟩ := tx
          simp only at x0 x1 x2 Hto hfx hfx4
          have hf8 : t.fields.length ≤ 8 := Hto.out.2.2.2.1
          have hfx' := hfx
          obtain ⟨A4, c4, rfl, _, hrow4⟩ := hfx
          have Hfx := Lib.hid hfx4
          have X0 := Lib.hid x0
          have X1 := Lib.hid x1
          have X2 := Lib.hid x2
          clear hfx' hfx4 hrow4
          have htl := t.sort.toNat_lt
          have hz12 : ∃ B12, B12 = wr.heap.size := ⟨_, rfl⟩
          obtain ⟨B12, hB12⟩ := hz12
          go_wp2_with fail
          have HO0 : Hid (OldSt g B12 (B12 + 1) (.int .u8 (t.sort.toNat : Int)) (.string ⟨t.name.toArray⟩) (.slice A4 t.fields.length c4) w4 ((wr.alloc (.cells #[.int .u8 (t.sort.toNat : Int), .string ⟨t.name.toArray⟩, .slice A4 t.fields.length c4] 133)).alloc (.cells #[.int .u8 (t.sort.toNat : Int), .string ⟨t.name.toArray⟩, .slice none 0 0] 133)) [] (.slice none 0 0) q) := by
            have ha : Below wr.heap.size wr (wr.alloc (.cells #[.int .u8 (t.sort.toNat : Int), .string ⟨t.name.toArray⟩, .slice A4 t.fields.length c4] 133)) := (Below.refl _ _).alloc (Nat.le_refl _) _
            have hb : Below (wr.heap.size + 1) (wr.alloc (.cells #[.int .u8 (t.sort.toNat : Int), .string ⟨t.name.toArray⟩, .slice A4 t.fields.length c4] 133)) ((wr.alloc (.cells #[.int .u8 (t.sort.toNat : Int), .string ⟨t.name.toArray⟩, .slice A4 t.fields.length c4] 133)).alloc (.cells #[.int .u8 (t.sort.toNat : Int), .string ⟨t.name.toArray⟩, .slice none 0 0] 133)) := ((Below.refl _ _).alloc (by simp) _)
            have e1 := rangeAt_new (wr.alloc (.cells #[.int .u8 (t.sort.toNat : Int), .string ⟨t.name.toArray⟩, .slice A4 t.fields.length c4] 133)) [.int .u8 (t.sort.toNat : Int), .string ⟨t.name.toArray⟩, .slice none 0 0] 133
            have e2 := there_new (wr.alloc (.cells #[.int .u8 (t.sort.toNat : Int), .string ⟨t.name.toArray⟩, .slice A4 t.fields.length c4] 133)) [.int .u8 (t.sort.toNat : Int), .string ⟨t.name.toArray⟩, .slice none 0 0] 133
            rw [World.size_alloc] at e1 e2
            rw [hB12]
            exact ⟨(hR.out.below ha).below (hb.mono (by simp)), dgrown_trans hg.out (dgrown_below (ha.trans (hb.mono (by omega))) _), rangeAt_below (rangeAt_new wr [.int .u8 (t.sort.toNat : Int), .string ⟨t.name.toArray⟩, .slice A4 t.fields.length c4] 133) (by omega) hb, e1, e2, World.ownsRow_nil _ _ _ _, ⟨hgw, by omega, by simp, by have := hg.out.size; omega⟩⟩
          rw [← hB12]
          generalize (wr.alloc (.cells #[.int .u8 (t.sort.toNat : Int), .string ⟨t.name.toArray⟩, .slice A4 t.fields.length c4] 133)).alloc (.cells #[.int .u8 (t.sort.toNat : Int), .string ⟨t.name.toArray⟩, .slice none 0 0] 133) = W5 at HO0 ⊢
          have hg12 : g < B12 := by omega
          obtain ⟨wo, rfl⟩ : ∃ wo : World, wo = wr := ⟨_, rfl⟩
          clear hB12 X0 X1 X2 x0 x1 x2
          go_loopw [53, 14] (fun i la wr => ∃ (j last q' : Nat) (fs : List Fd) (fv : Value), i = .int .i64 j ∧ la = .int .i64 last ∧ j ≤ t.fields.length ∧ last ≤ 200 ∧ fs.length ≤ 2 * j ∧ q' ≤ q + 25 * j ∧ Hid (∀ f ∈ fs, FShort t.sort f) ∧ Hid (OldSt g B12 (B12 + 1) (.int .u8 (t.sort.toNat : Int)) (.string ⟨t.name.toArray⟩) (.slice A4 t.fields.length c4) w4 wr fs fv q')) (fun i _ _ => t.fields.length - (intOf i).toNat)
          case atStart => exact ⟨0, 0, q, [], _, rfl, rfl, Nat.zero_le _, by omega, by simp, by omega, (fun f hf => by cases hf), HO0.out⟩
          case round =>
            obtain ⟨j, last, q', fs, fv', rfl, rfl, hj, hla, hfl, hq', hsh, hO⟩ := hrel
            have j1 : (0 : Int) ≤ (j : Int) := by omega
            have b12l : B12 < wr.heap.size := by have := hO.out.lt; omega
            have b13l : B12 + 1 < wr.heap.size := hO.out.lt.2.2.1
            have y0 : wr.cell? ⟨B12, 0, none⟩ = some (.int .u8 (t.sort.toNat : Int)) := by simpa using rangeAt_cell hO.out.old 0 rfl
            have y2 : wr.cell? ⟨B12, 2, none⟩ = some (.slice A4 t.fields.length c4) := by simpa using rangeAt_cell hO.out.old 2 rfl
            obtain ⟨A3, n3, c3, e3⟩ := own_slice hO.out.row
            subst e3
            by_cases hjl : j < t.fields.length
            · have j2 : (j : Int) < (t.fields.length : Int) := by omega
              obtain ⟨A5, c5, e5, _, hrow5⟩ := Hfx.out.grown HR4.out hO.out.grown
              injection e5 with eA5 _ ec5
              subst eA5 ec5
              obtain ⟨bb, off2, rfl, hbb, g0, g1, g2, g3⟩ := SFds.at_ hrow5 hjl
              have Hgm := Lib.hid (fd_short (Hto.out.2.2.1.1 _ (List.getElem_mem hjl)))
              have hft1 := (Hto.out.2.2.1.1 _ (List.getElem_mem hjl)).1
              have hft2 := (Hto.out.2.2.1.1 _ (List.getElem_mem hjl)).2.1
              clear hrow5
              generalize t.fields[j] = f at *
              have n12 : ¬ (B12 = wr.heap.size) := by omega
              obtain ⟨B16, hB16⟩ : ∃ B16, B16 = wr.heap.size := ⟨_, rfl⟩
              have hba : Below wr.heap.size wr (wr.alloc (.cells #[.int .i64 (f.tag : Int), .string ⟨f.name.toArray⟩, .string ⟨(kdB f.kind).toArray⟩, .string ⟨f.given.toArray⟩] 135)) := (Below.refl _ _).alloc (Nat.le_refl _) _
              have HO6 := Lib.hid (hO.out.below hba)
              have HF6 := Lib.hid (show FBox B16 f (B12 + 1) (.slice A3 n3 c3) (wr.alloc (.cells #[.int .i64 (f.tag : Int), .string ⟨f.name.toArray⟩, .string ⟨(kdB f.kind).toArray⟩, .string ⟨f.given.toArray⟩] 135)) from by
                rw [hB16]
                exact ⟨rangeAt_new wr (sfc f) 135, there_new wr (sfc f) 135, ⟨b13l, by simp⟩, fun e => by have := hO.out.block _ e; omega⟩)
              have Hsh := Lib.hid hsh.out
              go_upto_region 15 with fail
              rw [← hB16]
              generalize (wr.alloc (.cells #[.int .i64 (f.tag : Int), .string ⟨f.name.toArray⟩, .string ⟨(kdB f.kind).toArray⟩, .string ⟨f.given.toArray⟩] 135)) = W6 at HO6 HF6 ⊢
              clear hba hB16 y0 y2 g0 g1 g2 g3
              have y0 : W6.cell? ⟨B12, 0, none⟩ = some (.int .u8 (t.sort.toNat : Int)) := by simpa using rangeAt_cell HO6.out.old 0 rfl
              go_cut [53, 65] from 53 to 114 (fun ix b wx => ∃ (bq : Bool) (q3 : Nat), ix = .int .i64 (j : Int) ∧ b = .bool bq ∧ q3 ≤ q' + 1 ∧ Hid (OldSt g B12 (B12 + 1) (.int .u8 (t.sort.toNat : Int)) (.string ⟨t.name.toArray⟩) (.slice (some ⟨bb, off2, none⟩) t.fields.length c4) w4 wx fs (.slice A3 n3 c3) q3) ∧ Hid (FBox B16 f (B12 + 1) (.slice A3 n3 c3) wx))
              case first =>
                by_cases h82 : t.sort = 82
                · have t82 : ((t.sort.toNat : Int) == 82) = true := by have := byte_eq (d := 82) h82; simpa using this
                  clear h82
                  go_wp2_with fail
                  refine (pick_any g q' 4 _ HO6.out.rdr (by omega) (by omega) (by omega)).mono ?_
                  rintro e w7 ⟨x, rfl, hx1, _, hR7, hg7⟩
                  have HO7 := Lib.hid (HO6.out.pick hg7 hR7)
                  have HF7 := Lib.hid (HF6.out.grown hg7 (by omega))
                  clear hR7 hg7 y0
                  go_wp2_with fail
                  go_meet
                  exact ⟨_, q' + 1, rfl, rfl, by omega, HO7.out, HF7.out⟩
                · have t82 : ((t.sort.toNat : Int) == 82) = false := by have := byte_ne (d := 82) h82; simpa using this
                  clear h82
                  go_wp2_with fail
                  go_meet
                  exact ⟨false, q', rfl, rfl, by omega, HO6.out, HF6.out⟩
              case rest =>
                obtain ⟨w7, rfl⟩ : ∃ w7 : World, w7 = wc := ⟨_, rfl⟩
                obtain ⟨bq, q3, rfl, rfl, hq3, HO7, HF7⟩ := hcut
                clear y0 HO6 HF6
                cases bq with
                | true =>
                  go_wp2_with fail
                  go_roundw
                  case rel => exact ⟨j + 1, last, q3, fs, _, by go_num, rfl, by omega, hla, by omega, by omega, Hsh.out, HO7.out⟩
                  case measure => simp [intOf]; omega
                | false =>
                  have y0 : w7.cell? ⟨B16, 0, none⟩ = some (.int .i64 (f.tag : Int)) := by simpa using rangeAt_cell HF7.out.cells 0 rfl
                  go_upto_region 16 with fail
                  go_cut [53, 75] from 53 to 114 (fun ix b wx => ∃ (bi : Bool) (q4 : Nat), ix = .int .i64 (j : Int) ∧ b = .bool bi ∧ q4 ≤ q3 + 1 ∧ Hid (bi = true → last + 1 < f.tag) ∧ Hid (OldSt g B12 (B12 + 1) (.int .u8 (t.sort.toNat : Int)) (.string ⟨t.name.toArray⟩) (.slice (some ⟨bb, off2, none⟩) t.fields.length c4) w4 wx fs (.slice A3 n3 c3) q4) ∧ Hid (FBox B16 f (B12 + 1) (.slice A3 n3 c3) wx))
                  case first =>
                    go_wp2_with fail
                    refine (pick_any g q3 6 _ HO7.out.rdr (by omega) (by omega) (by omega)).mono ?_
                    rintro e w8 ⟨x, rfl, hx1, _, hR8, hg8⟩
                    have HO8 := Lib.hid (HO7.out.pick hg8 hR8)
                    have HF8 := Lib.hid (HF7.out.grown hg8 (by omega))
                    clear hR8 hg8 y0 hx1
                    have y0 : w8.cell? ⟨B16, 0, none⟩ = some (.int .i64 (f.tag : Int)) := by simpa using rangeAt_cell HF8.out.cells 0 rfl
                    by_cases hx0 : x = 0
                    · subst hx0
                      go_wp2_with fail
                      go_meet
                      exact ⟨decide ((last : Int) + 1 < (f.tag : Int)), q3 + 1, rfl, rfl, by omega, fun h => (by have := of_decide_eq_true h; omega), HO8.out, HF8.out⟩
                    · have tx : ((x : Int) == 0) = false := by simp; omega
                      clear hx0
                      go_wp2_with fail
                      go_meet
                      exact ⟨false, q3 + 1, rfl, rfl, by omega, (fun h => Bool.noConfusion h), HO8.out, HF8.out⟩
                  case rest =>
                    obtain ⟨w8, rfl⟩ : ∃ w8 : World, w8 = wc := ⟨_, rfl⟩
                    obtain ⟨bi, q4, rfl, rfl, hq4, Hbi, HO8, HF8⟩ := hcut
                    clear y0 HO7 HF7
                    go_upto_if 75 with fail
                    go_cut [53] from 53 to 114 (fun ix wx => ∃ (fs2 : List Fd) (A : Option Addr) (n c' q5 : Nat), ix = .int .i64 (j : Int) ∧ q5 ≤ q4 + 1 ∧ fs2.length ≤ fs.length + 1 ∧ Hid (∀ f ∈ fs2, FShort t.sort f) ∧ Hid (OldSt g B12 (B12 + 1) (.int .u8 (t.sort.toNat : Int)) (.string ⟨t.name.toArray⟩) (.slice (some ⟨bb, off2, none⟩) t.fields.length c4) w4 wx fs2 (.slice A n c') q5) ∧ Hid (FBox B16 f (B12 + 1) (.slice A n c') wx))
                    case first =>
                      cases bi with
                      | false =>
                        go_wp2_with fail
                        go_meet
                        exact ⟨fs, A3, n3, c3, q4, rfl, by omega, by omega, Hsh.out, HO8.out, HF8.out⟩
                      | true =>
                        have hlt2 := Hbi.out rfl
                        go_upto_region 17 with fail
                        have HO := HO8
                        have HF := Lib.hid (show FBoxO (some (B16, f)) (B12 + 1) (.slice A3 n3 c3) w8 from fun b f' e => (by injection e with e; injection e with e1 e2; subst e1 e2; exact HF8.out))
                        have hob : Hid (∃ ob, ob = some (B16, f)) := ⟨_, rfl⟩
                        obtain ⟨ob, hob⟩ := hob.out
                        rw [← hob] at HF
                        have Hob := Lib.hid hob
                        obtain ⟨qr, hqr⟩ : ∃ qr, qr = q4 := ⟨_, rfl⟩
                        rw [← hqr] at HO
                        have hcv := fun W g0 => Tryz.conv1 W g0 1 (byteOf (101 + j))
                        have hu8 : IntKind.u8.wrap (101 + (j : Int)) = ((101 + j : Nat) : Int) := by rw [IntWalk.u8_in _ (by omega)]; omega
                        have Hne := Lib.hid hlt2
                        have w2i : IntKind.i64.wrap (101 + (j : Int)) = 101 + (j : Int) := IntWalk.i64_in _ (by omega)
                        have w1i : IntKind.i64.wrap ((f.tag : Int) - 1) = (f.tag : Int) - 1 := IntWalk.i64_in _ (by omega)
                        clear hlt2 Hbi hob HO8 HF8
                        refine wp_region_slots3 [76, 77, 78, 79, 80, 81, 82, 83, 84, 85, 86, 87, 88, 89, 90, 91, 92, 93, 999] (by kernel_rfl) (by kernel_rfl) (by kernel_rfl) (fun u => by dsimp only [frameOf, setMany, List.set, Nat.zero_add, Nat.reduceAdd])
                          (fun ix v W => match ix with | 0 => v = .pointer (some ⟨B12 + 1, 2, none⟩) | 1 => v = .slice A3 n3 c3 | 2 => v = .pointer (some ⟨B16, 0, none⟩) | 3 => v = .int .i64 (f.tag : Int) | 4 => v = .int .i64 ((f.tag : Int) - 1) | 5 => v = .int .i64 (j : Int) | 6 => v = .int .i64 (101 + (j : Int)) | 7 => v = .int .u8 ((101 + j : Nat) : Int) | 8 => ∃ b, v = .slice (some ⟨b, 0, none⟩) 1 1 | 9 => v = .string ⟨([byteOf (101 + j)] : List UInt8).toArray⟩ | 10 => v = .pointer (some ⟨B12, 0, none⟩) | 11 => v = .int .u8 (t.sort.toNat : Int) | 12 => v = .bool (decide (t.sort = 69)) | 13 => v = .string ⟨(if decide (t.sort = 69) = true then [] else [110] : List UInt8).toArray⟩ | 14 => ∃ f2 : Fd, v = .agg (sfc f2).toArray ∧ FShort t.sort f2 | 15 => ∃ b, v = .slice (some ⟨b, 0, none⟩) 1 1 | 16 => ∃ A n c, v = .slice A n c | 17 => v = .pointer (some ⟨B12 + 1, 2, none⟩) | 18 => v = undef | _ => True)
                          (fun L U W => ((L 8 = true → L 15 = false → ∃ g8, U 8 = .slice (some ⟨g8, 0, none⟩) 1 1 ∧ g8 < W.heap.size ∧ W.cell? ⟨g8, 0, none⟩ = some (.int .u8 ((101 + j : Nat) : Int))) ∧ W.rangeAt B12 0 [.int .u8 (t.sort.toNat : Int), .string ⟨t.name.toArray⟩, .slice (some ⟨bb, off2, none⟩) t.fields.length c4] ∧ (∀ b f, ob = some (b, f) → W.rangeAt b 0 (sfc f)) ∧ (L 18 = false → W.rangeAt (B12 + 1) 0 [.int .u8 (t.sort.toNat : Int), .string ⟨t.name.toArray⟩, (.slice A3 n3 c3)])) ∧ (L 15 = false → ∃ q5, q5 ≤ qr + 1 ∧ OldSt g B12 (B12 + 1) (.int .u8 (t.sort.toNat : Int)) (.string ⟨t.name.toArray⟩) (.slice (some ⟨bb, off2, none⟩) t.fields.length c4) w4 W fs (.slice A3 n3 c3) q5 ∧ FBoxO ob (B12 + 1) (.slice A3 n3 c3) W) ∧ (L 15 = true → L 16 = false → ∃ W7 f2 q5, q5 ≤ qr + 1 ∧ W = W7.alloc (.cells (sfc f2).toArray 135) ∧ U 15 = .slice (some ⟨W7.heap.size, 0, none⟩) 1 1 ∧ OldSt g B12 (B12 + 1) (.int .u8 (t.sort.toNat : Int)) (.string ⟨t.name.toArray⟩) (.slice (some ⟨bb, off2, none⟩) t.fields.length c4) w4 W7 fs (.slice A3 n3 c3) q5 ∧ FBoxO ob (B12 + 1) (.slice A3 n3 c3) W7 ∧ FShort t.sort f2) ∧ (L 16 = true → L 18 = false → L 15 = true ∧ ∃ f2 q5, q5 ≤ qr + 1 ∧ OldApp g B12 (B12 + 1) (.int .u8 (t.sort.toNat : Int)) (.string ⟨t.name.toArray⟩) (.slice (some ⟨bb, off2, none⟩) t.fields.length c4) w4 W fs (.slice A3 n3 c3) q5 ob f2 (U 16) ∧ FShort t.sort f2) ∧ (L 18 = true → ∃ f2 fv2 q5, q5 ≤ qr + 1 ∧ OldSt g B12 (B12 + 1) (.int .u8 (t.sort.toNat : Int)) (.string ⟨t.name.toArray⟩) (.slice (some ⟨bb, off2, none⟩) t.fields.length c4) w4 W (fs ++ [f2]) fv2 q5 ∧ FBoxO ob (B12 + 1) fv2 W ∧ FShort t.sort f2)) (fun _ _ => True) (fun _ _ _ _ _ h => h) (⟨⟨fun h => Bool.noConfusion h, HO.out.old, fun b f e => (HF.out b f e).cells, fun _ => HO.out.new⟩, fun _ => ⟨qr, by omega, HO.out.below (Below.refl _ _).drew, HF.out.below (Below.refl _ _).drew⟩, fun h => Bool.noConfusion h, fun h => Bool.noConfusion h, fun h => Bool.noConfusion h⟩) ?_ ?_
                        · repeat (first | exact Steps.nil | (refine Steps.cons ?_ ?_; rotate_left))
                          all_goals
                            rintro L U W hL hpre hR hun hdep K hK
                            have HR := Lib.hid hR
                            obtain ⟨⟨Rx, Ra, Rb, Rc⟩, R1, R2, R3, R4⟩ := HR.out
                            have a12 : W.cell? ⟨B12, 0, none⟩ = some (.int .u8 (t.sort.toNat : Int)) := by simpa using rangeAt_cell Ra 0 rfl
                            have a16 : W.cell? ⟨B16, 0, none⟩ = some (.int .i64 (f.tag : Int)) := by simpa using rangeAt_cell (Rb B16 f Hob.out) 0 rfl
                            have Hdep := Lib.hid hdep
                            clear hun hdep hR
                            first | (simp [Region.binds] at hpre; done) | simp [Region.binds] at hpre | clear hpre
                          · go_simp
                            first | exact hK _ _ _ rfl trivial HR.out rfl | exact hK _ _ _ rfl trivial HR.out (by simp [Act.put, hpre, w1i, w2i, hu8]) | exact hK undef _ _ trivial trivial HR.out (by simp [Act.put, hpre, w1i, w2i, hu8]) | exact hK _ _ _ trivial trivial HR.out rfl | exact hK _ _ _ trivial trivial HR.out (by simp [Act.put, hpre, w1i, w2i, hu8])
                          · have h16 : L 16 = false := Hdep.out 16 _ rfl { on := 1, ground := Ground.data } (by simp) (by rfl) hL
                            have h18 : L 18 = false := Hdep.out 18 _ rfl { on := 16, ground := Ground.data } (by simp) (by rfl) h16
                            have a13 : W.cell? ⟨B12 + 1, 2, none⟩ = some (.slice A3 n3 c3) := by simpa using rangeAt_cell (Rc h18) 2 rfl
                            go_simp
                            exact hK _ _ _ rfl trivial HR.out (by simp [Act.put, hpre])
                          iterate 2
                            · go_simp
                              first | exact hK _ _ _ rfl trivial HR.out rfl | exact hK _ _ _ rfl trivial HR.out (by simp [Act.put, hpre, w1i, w2i, hu8]) | exact hK undef _ _ trivial trivial HR.out (by simp [Act.put, hpre, w1i, w2i, hu8]) | exact hK _ _ _ trivial trivial HR.out rfl | exact hK _ _ _ trivial trivial HR.out (by simp [Act.put, hpre, w1i, w2i, hu8])
                          · go_simp
                            exact hK (.int .i64 ((f.tag : Int) - 1)) _ _ rfl trivial HR.out (by simp [Act.put, hpre, w1i])
                          · go_simp
                            first | exact hK _ _ _ rfl trivial HR.out rfl | exact hK _ _ _ rfl trivial HR.out (by simp [Act.put, hpre, w1i, w2i, hu8]) | exact hK undef _ _ trivial trivial HR.out (by simp [Act.put, hpre, w1i, w2i, hu8]) | exact hK _ _ _ trivial trivial HR.out rfl | exact hK _ _ _ trivial trivial HR.out (by simp [Act.put, hpre, w1i, w2i, hu8])
                          · go_simp
                            exact hK (.int .i64 (101 + (j : Int))) _ _ rfl trivial HR.out (by simp [Act.put, hpre, w2i])
                          · go_simp
                            exact hK (.int .u8 ((101 + j : Nat) : Int)) _ _ rfl trivial HR.out (by simp [Act.put, hpre, hu8])
                          · have h9 : L 9 = false := Hdep.out 9 _ rfl { on := 8, ground := Ground.data } (by simp) (by rfl) hL
                            have h14 : L 14 = false := Hdep.out 14 _ rfl { on := 9, ground := Ground.data } (by simp) (by rfl) h9
                            have h15 : L 15 = false := Hdep.out 15 _ rfl { on := 14, ground := Ground.data } (by simp) (by rfl) h14
                            have h16 : L 16 = false := Hdep.out 16 _ rfl { on := 15, ground := Ground.data } (by simp) (by rfl) h15
                            have h18 : L 18 = false := Hdep.out 18 _ rfl { on := 16, ground := Ground.data } (by simp) (by rfl) h16
                            obtain ⟨q5, hq5, o5, b5⟩ := R1 h15
                            have hba : Below W.heap.size W (W.alloc (.cells #[.int .u8 ((101 + j : Nat) : Int)] 5)) := (Below.refl _ _).alloc (Nat.le_refl _) _
                            go_simp
                            exact hK _ _ _ ⟨W.heap.size, rfl⟩ trivial ⟨⟨fun _ _ => ⟨W.heap.size, by simp, by simp, by simp⟩, rangeAt_below Ra (by have := o5.lt; omega) hba, fun b f e => rangeAt_below (Rb b f e) (b5 b f e).lt.2 hba, fun h => rangeAt_below (Rc h18) o5.lt.2.2.1 hba⟩, fun _ => ⟨q5, hq5, o5.below hba, b5.below hba⟩, fun h => absurd (h15.symm.trans (by simpa using h)) (by decide), fun h => absurd (h16.symm.trans (by simpa using h)) (by decide), fun h => absurd (h18.symm.trans (by simpa using h)) (by decide)⟩ (by simp [Act.put, hpre])
                          · obtain ⟨l8, _⟩ := hpre
                            have h14 : L 14 = false := Hdep.out 14 _ rfl { on := 9, ground := Ground.data } (by simp) (by rfl) hL
                            have h15 : L 15 = false := Hdep.out 15 _ rfl { on := 14, ground := Ground.data } (by simp) (by rfl) h14
                            obtain ⟨g8, u8', hg8, hc8⟩ := Rx l8 h15
                            have hcv := Tryz.conv1 W g8 1 (byteOf (101 + j)) (by rw [byteOf_toNat (by omega)]; exact hc8)
                            go_simp
                            exact hK _ _ _ rfl trivial HR.out (by simp [Act.put, u8'])
                          iterate 2
                            · go_simp
                              first | exact hK _ _ _ rfl trivial HR.out rfl | exact hK _ _ _ rfl trivial HR.out (by simp [Act.put, hpre, w1i, w2i, hu8]) | exact hK undef _ _ trivial trivial HR.out (by simp [Act.put, hpre, w1i, w2i, hu8]) | exact hK _ _ _ trivial trivial HR.out rfl | exact hK _ _ _ trivial trivial HR.out (by simp [Act.put, hpre, w1i, w2i, hu8])
                          · by_cases h69 : t.sort = 69
                            · have t69 : ((t.sort.toNat : Int) == 69) = true := by have := byte_eq (d := 69) h69; simpa using this
                              have E69 := Lib.hid (decide_eq_true h69)
                              clear h69
                              go_simp
                              exact hK (.bool true) _ _ (show Value.bool true = .bool (decide (t.sort = 69)) by rw [E69.out]) trivial HR.out (by simp [Act.put, hpre, t69])
                            · have t69 : ((t.sort.toNat : Int) == 69) = false := by have := byte_ne (d := 69) h69; simpa using this
                              have E69 := Lib.hid (decide_eq_false h69)
                              clear h69
                              go_simp
                              exact hK (.bool false) _ _ (show Value.bool false = .bool (decide (t.sort = 69)) by rw [E69.out]) trivial HR.out (by simp [Act.put, hpre, t69])
                          · have h14 : L 14 = false := Hdep.out 14 _ rfl { on := 13, ground := Ground.data } (by simp) (by rfl) hL
                            have h15 : L 15 = false := Hdep.out 15 _ rfl { on := 14, ground := Ground.data } (by simp) (by rfl) h14
                            have h16 : L 16 = false := Hdep.out 16 _ rfl { on := 15, ground := Ground.data } (by simp) (by rfl) h15
                            have h18 : L 18 = false := Hdep.out 18 _ rfl { on := 16, ground := Ground.data } (by simp) (by rfl) h16
                            obtain ⟨q5, hq5, o5, b5⟩ := R1 h15
                            obtain ⟨_, u12⟩ := hpre
                            go_simp
                            refine (l6If_any (decide (t.sort = 69)) [] [110] W).mono ?_
                            rintro e w' ⟨rfl, hba⟩
                            exact hK _ _ _ rfl trivial ⟨⟨fun h8 h9 => by obtain ⟨g8, q1, q2, q3⟩ := Rx (by simpa using h8) (by simpa using h9); exact ⟨g8, by simpa using q1, Nat.lt_of_lt_of_le q2 hba.size, (hba.cell (p := ⟨g8, 0, none⟩) q2).trans q3⟩, rangeAt_below Ra (by have := o5.lt; omega) hba, fun b f e => rangeAt_below (Rb b f e) (b5 b f e).lt.2 hba, fun h => rangeAt_below (Rc h18) o5.lt.2.2.1 hba⟩, fun _ => ⟨q5, hq5, o5.below hba, b5.below hba⟩, fun h => absurd (h15.symm.trans (by simpa using h)) (by decide), fun h => absurd (h16.symm.trans (by simpa using h)) (by decide), fun h => absurd (h18.symm.trans (by simpa using h)) (by decide)⟩ (by simp [Act.put, u12])
                          · obtain ⟨⟨_, u4⟩, ⟨_, u9⟩, _, u13⟩ := hpre
                            obtain ⟨f2, ef2, hs2⟩ := any_fd (st := t.sort) (n := f.tag - 1) (nm := [byteOf (101 + j)]) (kd := if decide (t.sort = 69) = true then [] else [110]) (by omega) (by simp) (by split <;> simp) (by split <;> decide)
                            rw [show ((f.tag - 1 : Nat) : Int) = (f.tag : Int) - 1 by have := Hne.out; omega] at ef2
                            go_simp
                            exact hK _ _ _ ⟨f2, ef2, hs2⟩ trivial HR.out (by simp [Act.put, u4, u9, u13])
                          · obtain ⟨lb, f2, ub, hs2⟩ := hpre
                            obtain ⟨q5, hq5, o5, b5⟩ := R1 hL
                            have h1 : L 16 = false := Hdep.out 16 _ rfl { on := 15, ground := Ground.data } (by simp) (by rfl) hL
                            have h2 : L 18 = false := Hdep.out 18 _ rfl { on := 16, ground := Ground.data } (by simp) (by rfl) h1
                            have u2 : ∀ y ∈ sfc f2, y.oneCell' = true := fun y hy => sfc_one [f2] y (by simpa using hy)
                            have ub' := ub
                            simp only [sfc] at ub'
                            go_simp
                            have hba : Below W.heap.size W (W.alloc (.cells (sfc f2).toArray 135)) := (Below.refl _ _).alloc (Nat.le_refl _) _
                            exact hK _ _ _ ⟨W.heap.size, rfl⟩ trivial ⟨⟨fun _ h => by simp at h, rangeAt_below Ra (by have := o5.lt; omega) hba, fun b f e => rangeAt_below (Rb b f e) (b5 b f e).lt.2 hba, fun h => rangeAt_below (Rc h2) o5.lt.2.2.1 hba⟩, fun h => by simp at h, fun _ _ => ⟨W, f2, q5, hq5, rfl, rfl, o5, b5, hs2⟩, fun h => absurd (h1.symm.trans (by simpa using h)) (by decide), fun h => absurd (h2.symm.trans (by simpa using h)) (by decide)⟩ (by simp [Act.put, ub])
                          · obtain ⟨lv, uv⟩ : L 1 = true ∧ U 1 = (.slice A3 n3 c3) := by
                              first | exact hpre.1 | exact hpre.2.1 | exact hpre.2.2 | exact hpre.2.2.1
                            obtain ⟨ls, bs, us⟩ : L 15 = true ∧ ∃ b, U 15 = .slice (some ⟨b, 0, none⟩) 1 1 := by
                              first | exact hpre.2 | exact hpre.2.1 | exact hpre.1 | exact hpre.2.2 | exact hpre.2.2.1
                            have h2 : L 18 = false := Hdep.out 18 _ rfl { on := 16, ground := Ground.data } (by simp) (by rfl) hL
                            obtain ⟨W7, f2, q5, hq5, rfl, u7, o5, b5, hs2⟩ := R2 ls hL
                            rw [if_pos (by rfl)]
                            refine wp_appKW W7 (.tmp 77) (.tmp 91) 131 rfl (B12 + 1 + 1) 135 sf0 4 56 Tryz.underlying131 Tryz.infoSf rfl (by decide) (sfc f2) rfl (fun y hy => sfc_one [f2] y (by simpa using hy)) (.slice A3 n3 c3) fs.length (fs.flatMap sfc) uv u7 o5.row (by unfold maxLen; omega) (by omega) (by have := o5.lt; omega) ?_
                            intro v' w' hown hg hwh
                            obtain ⟨A5', n5', c5', rfl⟩ := own_slice hown
                            have oa := o5.app b5 hown hg hwh
                            exact hK _ _ _ ⟨A5', n5', c5', rfl⟩ trivial ⟨⟨fun _ h => absurd (ls.symm.trans (by simpa using h)) (by decide), oa.old, fun b f e => (oa.box b f e).cells, fun _ => oa.new⟩, fun h => absurd (ls.symm.trans (by simpa using h)) (by decide), fun _ h => by simp at h, fun _ _ => ⟨by simpa using ls, f2, q5, hq5, oa, hs2⟩, fun h => absurd (h2.symm.trans (by simpa using h)) (by decide)⟩ rfl
                          · go_simp
                            first | exact hK _ _ _ rfl trivial HR.out rfl | exact hK _ _ _ rfl trivial HR.out (by simp [Act.put, hpre, w1i, w2i, hu8]) | exact hK undef _ _ trivial trivial HR.out (by simp [Act.put, hpre, w1i, w2i, hu8]) | exact hK _ _ _ trivial trivial HR.out rfl | exact hK _ _ _ trivial trivial HR.out (by simp [Act.put, hpre, w1i, w2i, hu8])
                          · obtain ⟨lp, la, A5', n5', c5', ua⟩ : (∃ h : True, True) ∧ L 16 = true ∧ ∃ A n c, U 16 = .slice A n c := by
                              first | exact ⟨⟨trivial, trivial⟩, hpre.1.1, hpre.1.2⟩ | exact ⟨⟨trivial, trivial⟩, hpre.2.1.1, hpre.2.1.2⟩ | exact ⟨⟨trivial, trivial⟩, hpre.2.1, hpre.2.2⟩
                            obtain ⟨ls, f2, q5, hq5, oa, hs2⟩ := R3 la hL
                            have up : U 17 = .pointer (some ⟨B12 + 1, 2, none⟩) := by
                              first | exact hpre.1.2 | exact hpre.2.1.2 | exact hpre.2.2
                            rw [ua] at oa
                            have hcell : (W.cell? ⟨B12 + 1, 2, none⟩) = some (.slice A3 n3 c3) := by simpa using rangeAt_cell oa.new 2 rfl
                            have hfz : W.frozen? ⟨B12 + 1, 2, none⟩ = false := by simpa using (oa.there 2 (by decide)).2
                            obtain ⟨os, bs⟩ := oa.store
                            go_simp
                            exact hK undef _ _ rfl trivial ⟨⟨fun _ h => absurd (ls.symm.trans (by simpa using h)) (by decide), os.old, fun b f e => (bs b f e).cells, fun h => by simp at h⟩, fun h => absurd (ls.symm.trans (by simpa using h)) (by decide), fun _ h => absurd (la.symm.trans (by simpa using h)) (by decide), fun _ h => by simp at h, fun _ => ⟨f2, _, q5, hq5, os, bs, hs2⟩⟩ (by simp [Act.put, hpre, up, ua])
                        · rintro L U W hL hφ hR
                          clear hφ
                          have h18 := hL 18 (by decide)
                          obtain ⟨_, _, _, _, R4⟩ := hR
                          obtain ⟨f2, fv2, q5, hq5, os, bs, hs2⟩ := R4 h18
                          obtain ⟨A9, n9, c9, rfl⟩ := own_slice os.row
                          have Hob' := Hob.out
                          clear hL R4 HO HF
                          go_wp2_with fail
                          go_meet
                          exact ⟨fs ++ [f2], A9, n9, c9, q5, rfl, by omega, by simp, fun f' hf' => by rcases List.mem_append.1 hf' with h | h; exact Hsh.out f' h; simp at h; subst h; exact hs2, os, bs B16 f Hob'⟩
                    case rest =>
                      obtain ⟨w9, rfl⟩ : ∃ w9 : World, w9 = wc := ⟨_, rfl⟩
                      obtain ⟨fs2, A, n, c', q5, rfl, hq5, hfl2, Hsh2, HO9, HF9⟩ := hcut
                      clear HO8 HF8
                      go_upto_region 18 with fail
                      go_cut [53, 101] from 53 to 114 (fun ix b wx => ∃ (bq : Bool) (q6 : Nat), ix = .int .i64 (j : Int) ∧ b = .bool bq ∧ q6 ≤ q5 + 1 ∧ Hid (bq = true → t.sort ≠ 69) ∧ Hid (OldSt g B12 (B12 + 1) (.int .u8 (t.sort.toNat : Int)) (.string ⟨t.name.toArray⟩) (.slice (some ⟨bb, off2, none⟩) t.fields.length c4) w4 wx fs2 (.slice A n c') q6) ∧ Hid (FBox B16 f (B12 + 1) (.slice A n c') wx))
                      case first =>
                        go_wp2_with fail
                        refine (pick_any g q5 12 _ HO9.out.rdr (by omega) (by omega) (by omega)).mono ?_
                        rintro e w10 ⟨x, rfl, hx1, _, hR10, hg10⟩
                        have HO10 := Lib.hid (HO9.out.pick hg10 hR10)
                        have HF10 := Lib.hid (HF9.out.grown hg10 (by omega))
                        clear hR10 hg10 hx1
                        have y0 : w10.cell? ⟨B12, 0, none⟩ = some (.int .u8 (t.sort.toNat : Int)) := by simpa using rangeAt_cell HO10.out.old 0 rfl
                        by_cases hx0 : x = 0
                        · subst hx0
                          by_cases h69 : t.sort = 69
                          · have t69 : ((t.sort.toNat : Int) != 69) = false := by have := byte_eq (d := 69) h69; simpa using this
                            clear h69
                            go_wp2_with fail
                            go_meet
                            exact ⟨false, q5 + 1, rfl, rfl, by omega, (fun h => Bool.noConfusion h), HO10.out, HF10.out⟩
                          · have t69 : ((t.sort.toNat : Int) != 69) = true := by have := byte_ne (d := 69) h69; simpa using this
                            have H69 := Lib.hid h69
                            clear h69
                            go_wp2_with fail
                            go_meet
                            exact ⟨true, q5 + 1, rfl, rfl, by omega, (fun _ => H69.out), HO10.out, HF10.out⟩
                        · have tx : ((x : Int) == 0) = false := by simp; omega
                          clear hx0
                          go_wp2_with fail
                          go_meet
                          exact ⟨false, q5 + 1, rfl, rfl, by omega, (fun h => Bool.noConfusion h), HO10.out, HF10.out⟩
                      case rest =>
                        obtain ⟨w10, rfl⟩ : ∃ w10 : World, w10 = wc := ⟨_, rfl⟩
                        obtain ⟨bq, q6, rfl, rfl, hq6, Hbq, HO10, HF10⟩ := hcut
                        clear HO9 HF9
                        go_upto_if 101 with fail
                        go_cut [53] from 53 to 114 (fun ix wx => ∃ (f3 : Fd) (q7 : Nat), ix = .int .i64 (j : Int) ∧ q7 ≤ q6 + 8 ∧ Hid (FShort t.sort f3) ∧ Hid (OldSt g B12 (B12 + 1) (.int .u8 (t.sort.toNat : Int)) (.string ⟨t.name.toArray⟩) (.slice (some ⟨bb, off2, none⟩) t.fields.length c4) w4 wx fs2 (.slice A n c') q7) ∧ Hid (FBox B16 f3 (B12 + 1) (.slice A n c') wx))
                        case first =>
                          cases bq with
                          | false =>
                            go_wp2_with fail
                            go_meet
                            exact ⟨f, q6, rfl, by omega, Hgm.out, HO10.out, HF10.out⟩
                          | true =>
                            have H69 := Lib.hid (Hbq.out rfl)
                            clear Hbq
                            go_wp2_with fail
                            refine (l91Kind_any g q6 _ HO10.out.rdr (by omega)).mono ?_
                            rintro e w11 ⟨l, q7, rfl, hl, hq7, hR11, hg11⟩
                            have HO11 := Lib.hid (HO10.out.pick hg11 hR11)
                            have HF11 := Lib.hid (HF10.out.grown hg11 (by omega))
                            have Hl := Lib.hid hl
                            clear hR11 hg11 hl
                            have z2 : w11.cell? ⟨B16, 2, none⟩ = some (.string ⟨(kdB f.kind).toArray⟩) := by simpa using rangeAt_cell HF11.out.cells 2 rfl
                            have z3 : w11.cell? ⟨B16, 3, none⟩ = some (.string ⟨f.given.toArray⟩) := by simpa using rangeAt_cell HF11.out.cells 3 rfl
                            have zf2 : w11.frozen? ⟨B16, 2, none⟩ = false := by simpa using (HF11.out.there 2 (by decide)).2
                            have zf3 : w11.frozen? ⟨B16, 3, none⟩ = false := by simpa using (HF11.out.there 3 (by decide)).2
                            go_wp2_with fail
                            go_meet
                            exact ⟨{ f with kind := ⟨[], l, []⟩, given := [] }, q7, rfl, by omega, ⟨Hgm.out.1, Hgm.out.2.1, by show (kdB ⟨[], l, []⟩).length ≤ 100; unfold kdB coreB; rw [if_neg Hl.out.ne]; have := Hl.out.len; show ([] ++ l).length ≤ 100; simp; omega, by simp, fun h => rfl⟩, (HO11.out.setBox HF11.out.lt.1 HF11.out.own 2 _).setBox HF11.out.lt.1 HF11.out.own 3 _, HF11.out.set l Hl.out.ne⟩
                        case rest =>
                          obtain ⟨w12, rfl⟩ : ∃ w12 : World, w12 = wc := ⟨_, rfl⟩
                          obtain ⟨f3, q7, rfl, hq7, Hsh3, HO12, HF12⟩ := hcut
                          clear HO10 HF10 Hbq
                          have m13 : w12.cell? ⟨B12 + 1, 2, none⟩ = some (.slice A n c') := by simpa using rangeAt_cell HO12.out.new 2 rfl
                          have z0 : w12.cell? ⟨B16, 0, none⟩ = some (.int .i64 (f3.tag : Int)) := by simpa using rangeAt_cell HF12.out.cells 0 rfl
                          have z1 : w12.cell? ⟨B16, 1, none⟩ = some (.string ⟨f3.name.toArray⟩) := by simpa using rangeAt_cell HF12.out.cells 1 rfl
                          have z2 : w12.cell? ⟨B16, 2, none⟩ = some (.string ⟨(kdB f3.kind).toArray⟩) := by simpa using rangeAt_cell HF12.out.cells 2 rfl
                          have z3 : w12.cell? ⟨B16, 3, none⟩ = some (.string ⟨f3.given.toArray⟩) := by simpa using rangeAt_cell HF12.out.cells 3 rfl
                          have l13 : B12 + 1 < w12.heap.size := HO12.out.lt.2.2.1
                          have l16 : B16 < w12.heap.size := HF12.out.lt.2
                          have n16 : ¬ (B16 = B12 + 1) := by have := HF12.out.lt.1; omega
                          have n13 : ¬ (B12 + 1 = B16) := by omega
                          have hft3 : f3.tag ≤ 200 := Hsh3.out.1
                          have HFO := Lib.hid (show FBoxO (some (B16, f3)) (B12 + 1) (.slice A n c') w12 from fun b f' e => (by injection e with e; injection e with e1 e2; subst e1 e2; exact HF12.out))
                          go_wp2_with (at_builtin; go_loud (refine wpList_appKW w12 rfl (.tmp 107) (.tmp 109) 131 rfl (B12 + 1 + 1) 135 sf0 4 56 Tryz.underlying131 Tryz.infoSf rfl (by decide) [.int .i64 (f3.tag : Int), .string ⟨f3.name.toArray⟩, .string ⟨(kdB f3.kind).toArray⟩, .string ⟨f3.given.toArray⟩] rfl (by intro y hy; simp at hy; rcases hy with rfl | rfl | rfl | rfl <;> rfl) (.slice A n c') fs2.length (fs2.flatMap sfc) rfl rfl HO12.out.row (by unfold maxLen; omega) (by omega) (by omega) ?_); intro v5 w5 hown5 hg5 hwh5; obtain ⟨A5, n5, c5, e5⟩ := own_slice hown5; subst e5; have HA := Lib.hid (OldSt.app (f2 := f3) HO12.out HFO.out hown5 hg5 hwh5); have f5 : w5.frozen? ⟨B12 + 1, 2, none⟩ = false := (by simpa using (HA.out.there 2 (by decide)).2); have p5 : w5.cell? ⟨B12 + 1, 2, none⟩ = some (.slice A n c') := (by simpa using rangeAt_cell HA.out.new 2 rfl); have p6 : w5.cell? ⟨B16, 0, none⟩ = some (.int .i64 (f3.tag : Int)) := (by simpa using rangeAt_cell (HA.out.box B16 f3 rfl).cells 0 rfl); clear hown5 hg5 hwh5)
                          go_roundw
                          case rel => exact ⟨j + 1, f3.tag, q7, fs2 ++ [f3], _, by go_num, rfl, by omega, hft3, by rw [List.length_append]; simp; omega, by omega, (fun f' hf' => by rcases List.mem_append.1 hf' with h | h; exact Hsh2.out f' h; simp at h; subst h; exact Hsh3.out), HA.out.store.1⟩
                          case measure => simp [intOf]; omega
            · obtain rfl : j = t.fields.length := by omega
              clear y0 y2
              have hf17 : fs.length ≤ 16 := by omega
              have Hsh := Lib.hid hsh.out
              have HO6 := Lib.hid hO.out
              obtain ⟨w6, hw6⟩ : ∃ w6 : World, w6 = wr := ⟨_, rfl⟩
              rw [← hw6] at HO6 ⊢
              clear hw6 hO hsh b12l b13l
              go_upto_region 24 with fail
              go_cut [41, 121] from 41 to 141 (fun ix b wx => ∃ (bq : Bool) (q8 : Nat), ix = .int .i64 (m : Int) ∧ b = .bool bq ∧ q8 ≤ q' + 1 ∧ Hid (bq = true → last < 190) ∧ Hid (OldSt g B12 (B12 + 1) (.int .u8 (t.sort.toNat : Int)) (.string ⟨t.name.toArray⟩) (.slice A4 t.fields.length c4) w4 wx fs (.slice A3 n3 c3) q8))
              case first =>
                go_wp2_with fail
                refine (pick_any g q' 3 _ HO6.out.rdr (by omega) (by omega) (by omega)).mono ?_
                rintro e w8 ⟨x, rfl, hx1, _, hR8, hg8⟩
                have HO8 := Lib.hid (HO6.out.pick hg8 hR8)
                clear hR8 hg8 hx1
                by_cases hx0 : x = 0
                · subst hx0
                  go_wp2_with fail
                  go_meet
                  exact ⟨decide ((last : Int) < 190), q' + 1, rfl, rfl, by omega, fun h => (by have := of_decide_eq_true h; omega), HO8.out⟩
                · have tx : ((x : Int) == 0) = false := by simp; omega
                  clear hx0
                  go_wp2_with fail
                  go_meet
                  exact ⟨false, q' + 1, rfl, rfl, by omega, (fun h => Bool.noConfusion h), HO8.out⟩
              case rest =>
                obtain ⟨w8, rfl⟩ : ∃ w8 : World, w8 = wc := ⟨_, rfl⟩
                obtain ⟨bq, q8, rfl, rfl, hq8, Hbq, HO8⟩ := hcut
                clear HO6
                go_upto_if 121 with fail
                go_cut [41] from 41 to 141 (fun ix wx => ∃ (fs2 : List Fd) (A : Option Addr) (n c' q9 : Nat), ix = .int .i64 (m : Int) ∧ q9 ≤ q8 + 1 ∧ fs2.length ≤ fs.length + 1 ∧ Hid (∀ f ∈ fs2, FShort t.sort f) ∧ Hid (OldSt g B12 (B12 + 1) (.int .u8 (t.sort.toNat : Int)) (.string ⟨t.name.toArray⟩) (.slice A4 t.fields.length c4) w4 wx fs2 (.slice A n c') q9))
                case first =>
                  cases bq with
                  | false =>
                    go_wp2_with fail
                    go_meet
                    exact ⟨fs, A3, n3, c3, q8, rfl, by omega, by omega, Hsh.out, HO8.out⟩
                  | true =>
                    have hlt2 := Hbq.out rfl
                    go_upto_region 25 with fail
                    have HO := HO8
                    obtain ⟨ob, hob⟩ : ∃ ob : Option (Nat × Fd), ob = none := ⟨_, rfl⟩
                    have HF := Lib.hid (show FBoxO ob (B12 + 1) (.slice A3 n3 c3) w8 from fun b f' e => by rw [hob] at e; cases e)
                    obtain ⟨qr, hqr⟩ : ∃ qr, qr = q8 := ⟨_, rfl⟩
                    rw [← hqr] at HO
                    have w1i : IntKind.i64.wrap ((last : Int) + 1) = (last : Int) + 1 := IntWalk.i64_in _ (by omega)
                    clear Hbq hob HO8
                    refine wp_region_slots3 [122, 123, 124, 125, 126, 127, 128, 129, 130, 131, 132, 133, 134, 135, 136, 999] (by kernel_rfl) (by kernel_rfl) (by kernel_rfl) (fun u => by dsimp only [frameOf, setMany, List.set, Nat.zero_add, Nat.reduceAdd])
                      (fun ix v W => match ix with | 0 => v = .pointer (some ⟨B12 + 1, 2, none⟩) | 1 => v = .slice A3 n3 c3 | 2 => v = .int .i64 (last : Int) | 3 => v = .int .i64 ((last : Int) + 1) | 4 => v = .pointer (some ⟨g, 0, none⟩) | 5 => ∃ x : Nat, v = .int .i64 (x : Int) ∧ x < 3 | 6 => ∃ x : Nat, v = .int .i64 ((last : Int) + 1 + (x : Int)) ∧ x < 3 | 7 => v = .pointer (some ⟨B12, 0, none⟩) | 8 => v = .int .u8 (t.sort.toNat : Int) | 9 => v = .bool (decide (t.sort = 69)) | 10 => v = .string ⟨(if decide (t.sort = 69) = true then [] else [116] : List UInt8).toArray⟩ | 11 => ∃ f2 : Fd, v = .agg (sfc f2).toArray ∧ FShort t.sort f2 | 12 => ∃ b, v = .slice (some ⟨b, 0, none⟩) 1 1 | 13 => ∃ A n c, v = .slice A n c | 14 => v = .pointer (some ⟨B12 + 1, 2, none⟩) | 15 => v = undef | _ => True)
                      (fun L U W => ((L 5 = false → L 12 = false → ∃ q5, q5 ≤ qr ∧ OldSt g B12 (B12 + 1) (.int .u8 (t.sort.toNat : Int)) (.string ⟨t.name.toArray⟩) (.slice A4 t.fields.length c4) w4 W fs (.slice A3 n3 c3) q5 ∧ FBoxO ob (B12 + 1) (.slice A3 n3 c3) W) ∧ W.rangeAt B12 0 [.int .u8 (t.sort.toNat : Int), .string ⟨t.name.toArray⟩, .slice A4 t.fields.length c4] ∧ (∀ b f, ob = some (b, f) → W.rangeAt b 0 (sfc f)) ∧ (L 15 = false → W.rangeAt (B12 + 1) 0 [.int .u8 (t.sort.toNat : Int), .string ⟨t.name.toArray⟩, (.slice A3 n3 c3)])) ∧ (L 12 = false → ∃ q5, q5 ≤ qr + 1 ∧ OldSt g B12 (B12 + 1) (.int .u8 (t.sort.toNat : Int)) (.string ⟨t.name.toArray⟩) (.slice A4 t.fields.length c4) w4 W fs (.slice A3 n3 c3) q5 ∧ FBoxO ob (B12 + 1) (.slice A3 n3 c3) W) ∧ (L 12 = true → L 13 = false → ∃ W7 f2 q5, q5 ≤ qr + 1 ∧ W = W7.alloc (.cells (sfc f2).toArray 135) ∧ U 12 = .slice (some ⟨W7.heap.size, 0, none⟩) 1 1 ∧ OldSt g B12 (B12 + 1) (.int .u8 (t.sort.toNat : Int)) (.string ⟨t.name.toArray⟩) (.slice A4 t.fields.length c4) w4 W7 fs (.slice A3 n3 c3) q5 ∧ FBoxO ob (B12 + 1) (.slice A3 n3 c3) W7 ∧ FShort t.sort f2) ∧ (L 13 = true → L 15 = false → L 12 = true ∧ ∃ f2 q5, q5 ≤ qr + 1 ∧ OldApp g B12 (B12 + 1) (.int .u8 (t.sort.toNat : Int)) (.string ⟨t.name.toArray⟩) (.slice A4 t.fields.length c4) w4 W fs (.slice A3 n3 c3) q5 ob f2 (U 13) ∧ FShort t.sort f2) ∧ (L 15 = true → ∃ f2 fv2 q5, q5 ≤ qr + 1 ∧ OldSt g B12 (B12 + 1) (.int .u8 (t.sort.toNat : Int)) (.string ⟨t.name.toArray⟩) (.slice A4 t.fields.length c4) w4 W (fs ++ [f2]) fv2 q5 ∧ FBoxO ob (B12 + 1) fv2 W ∧ FShort t.sort f2)) (fun _ _ => True) (fun _ _ _ _ _ h => h) (⟨⟨fun _ _ => ⟨qr, Nat.le_refl _, HO.out.below (Below.refl _ _).drew, HF.out.below (Below.refl _ _).drew⟩, HO.out.old, fun b f e => (HF.out b f e).cells, fun _ => HO.out.new⟩, fun _ => ⟨qr, by omega, HO.out.below (Below.refl _ _).drew, HF.out.below (Below.refl _ _).drew⟩, fun h => Bool.noConfusion h, fun h => Bool.noConfusion h, fun h => Bool.noConfusion h⟩) ?_ ?_
                    · repeat (first | exact Steps.nil | (refine Steps.cons ?_ ?_; rotate_left))
                      all_goals
                        rintro L U W hL hpre hR hun hdep K hK
                        have HR := Lib.hid hR
                        obtain ⟨⟨Rx, Ra, Rb, Rc⟩, R1, R2, R3, R4⟩ := HR.out
                        have a12 : W.cell? ⟨B12, 0, none⟩ = some (.int .u8 (t.sort.toNat : Int)) := by simpa using rangeAt_cell Ra 0 rfl
                        have Hdep := Lib.hid hdep
                        clear hun hdep hR
                        first | (simp [Region.binds] at hpre; done) | simp [Region.binds] at hpre | clear hpre
                      · go_simp
                        first | exact hK _ _ _ rfl trivial HR.out rfl | exact hK _ _ _ rfl trivial HR.out (by simp [Act.put, hpre, w1i]) | exact hK undef _ _ trivial trivial HR.out (by simp [Act.put, hpre, w1i]) | exact hK _ _ _ trivial trivial HR.out rfl | exact hK _ _ _ trivial trivial HR.out (by simp [Act.put, hpre, w1i])
                      · have h16 : L 13 = false := Hdep.out 13 _ rfl { on := 1, ground := Ground.data } (by simp) (by rfl) hL
                        have h18 : L 15 = false := Hdep.out 15 _ rfl { on := 13, ground := Ground.data } (by simp) (by rfl) h16
                        have a13 : W.cell? ⟨B12 + 1, 2, none⟩ = some (.slice A3 n3 c3) := by simpa using rangeAt_cell (Rc h18) 2 rfl
                        go_simp
                        exact hK _ _ _ rfl trivial HR.out (by simp [Act.put, hpre])
                      · go_simp
                        first | exact hK _ _ _ rfl trivial HR.out rfl | exact hK _ _ _ rfl trivial HR.out (by simp [Act.put, hpre, w1i]) | exact hK undef _ _ trivial trivial HR.out (by simp [Act.put, hpre, w1i]) | exact hK _ _ _ trivial trivial HR.out rfl | exact hK _ _ _ trivial trivial HR.out (by simp [Act.put, hpre, w1i])
                      · go_simp
                        exact hK (.int .i64 ((last : Int) + 1)) _ _ rfl trivial HR.out (by simp [Act.put, hpre, w1i])
                      · go_simp
                        first | exact hK _ _ _ rfl trivial HR.out rfl | exact hK _ _ _ rfl trivial HR.out (by simp [Act.put, hpre, w1i]) | exact hK undef _ _ trivial trivial HR.out (by simp [Act.put, hpre, w1i]) | exact hK _ _ _ trivial trivial HR.out rfl | exact hK _ _ _ trivial trivial HR.out (by simp [Act.put, hpre, w1i])
                      · have h6 : L 6 = false := Hdep.out 6 _ rfl { on := 5, ground := Ground.data } (by simp) (by rfl) hL
                        have h11 : L 11 = false := Hdep.out 11 _ rfl { on := 6, ground := Ground.data } (by simp) (by rfl) h6
                        have h12 : L 12 = false := Hdep.out 12 _ rfl { on := 11, ground := Ground.data } (by simp) (by rfl) h11
                        have h13 : L 13 = false := Hdep.out 13 _ rfl { on := 12, ground := Ground.data } (by simp) (by rfl) h12
                        have h15 : L 15 = false := Hdep.out 15 _ rfl { on := 13, ground := Ground.data } (by simp) (by rfl) h13
                        obtain ⟨⟨q5, hq5, o5, b5⟩, h5⟩ : (∃ q5, q5 ≤ qr ∧ OldSt g B12 (B12 + 1) (.int .u8 (t.sort.toNat : Int)) (.string ⟨t.name.toArray⟩) (.slice A4 t.fields.length c4) w4 W fs (.slice A3 n3 c3) q5 ∧ FBoxO ob (B12 + 1) (.slice A3 n3 c3) W) ∧ True := ⟨Rx hL h12, trivial⟩
                        go_simp
                        refine (pick_any g q5 3 W o5.rdr (by omega) (by omega) (by omega)).mono ?_
                        rintro e w' ⟨x, rfl, hx1, _, hRx, hgx⟩
                        have o6 := o5.pick hgx hRx
                        have b6 := b5.grown hgx (by have := o5.lt; omega)
                        exact hK _ _ _ ⟨x, rfl, by omega⟩ trivial ⟨⟨fun h => by simp at h, o6.old, fun b f e => (b6 b f e).cells, fun _ => o6.new⟩, fun _ => ⟨q5 + 1, by omega, o6, b6⟩, fun h => absurd (h12.symm.trans (by simpa using h)) (by decide), fun h => absurd (h13.symm.trans (by simpa using h)) (by decide), fun h => absurd (h15.symm.trans (by simpa using h)) (by decide)⟩ (by simp [Act.put, hpre])
                      · obtain ⟨⟨_, u3⟩, _, x, u5, hx⟩ := hpre
                        have w2i : IntKind.i64.wrap ((last : Int) + 1 + (x : Int)) = (last : Int) + 1 + (x : Int) := IntWalk.i64_in _ (by omega)
                        go_simp
                        exact hK (.int .i64 ((last : Int) + 1 + (x : Int))) _ _ ⟨x, rfl, hx⟩ trivial HR.out (by simp [Act.put, u3, u5, w2i])
                      iterate 2
                        · go_simp
                          first | exact hK _ _ _ rfl trivial HR.out rfl | exact hK _ _ _ rfl trivial HR.out (by simp [Act.put, hpre, w1i]) | exact hK undef _ _ trivial trivial HR.out (by simp [Act.put, hpre, w1i]) | exact hK _ _ _ trivial trivial HR.out rfl | exact hK _ _ _ trivial trivial HR.out (by simp [Act.put, hpre, w1i])
                      · by_cases h69 : t.sort = 69
                        · have t69 : ((t.sort.toNat : Int) == 69) = true := by have := byte_eq (d := 69) h69; simpa using this
                          have E69 := Lib.hid (decide_eq_true h69)
                          clear h69
                          go_simp
                          exact hK (.bool true) _ _ (show Value.bool true = .bool (decide (t.sort = 69)) by rw [E69.out]) trivial HR.out (by simp [Act.put, hpre, t69])
                        · have t69 : ((t.sort.toNat : Int) == 69) = false := by have := byte_ne (d := 69) h69; simpa using this
                          have E69 := Lib.hid (decide_eq_false h69)
                          clear h69
                          go_simp
                          exact hK (.bool false) _ _ (show Value.bool false = .bool (decide (t.sort = 69)) by rw [E69.out]) trivial HR.out (by simp [Act.put, hpre, t69])
                      · have h11 : L 11 = false := Hdep.out 11 _ rfl { on := 10, ground := Ground.data } (by simp) (by rfl) hL
                        have h12 : L 12 = false := Hdep.out 12 _ rfl { on := 11, ground := Ground.data } (by simp) (by rfl) h11
                        have h13 : L 13 = false := Hdep.out 13 _ rfl { on := 12, ground := Ground.data } (by simp) (by rfl) h12
                        have h15 : L 15 = false := Hdep.out 15 _ rfl { on := 13, ground := Ground.data } (by simp) (by rfl) h13
                        have u9 : U 9 = .bool (decide (t.sort = 69)) := by
                          first | exact hpre.2 | exact hpre.1.2 | exact hpre.2.2 | exact hpre.2.1.2
                        go_simp
                        refine (l6If_any (decide (t.sort = 69)) [] [116] W).mono ?_
                        rintro e w' ⟨rfl, hba⟩
                        obtain ⟨q5, hq5, o5, b5⟩ := R1 h12
                        exact hK _ _ _ rfl trivial ⟨⟨fun h5 h12' => by obtain ⟨q6, e6, o6, b6⟩ := Rx (by simpa using h5) (by simpa using h12'); exact ⟨q6, e6, o6.below hba, b6.below hba⟩, rangeAt_below Ra (by have := o5.lt; omega) hba, fun b f e => rangeAt_below (Rb b f e) (b5 b f e).lt.2 hba, fun h => rangeAt_below (Rc h15) o5.lt.2.2.1 hba⟩, fun _ => ⟨q5, hq5, o5.below hba, b5.below hba⟩, fun h => absurd (h12.symm.trans (by simpa using h)) (by decide), fun h => absurd (h13.symm.trans (by simpa using h)) (by decide), fun h => absurd (h15.symm.trans (by simpa using h)) (by decide)⟩ (by simp [Act.put, hpre, u9])
                      · obtain ⟨⟨_, x, u6, hx⟩, _, u10⟩ := hpre
                        obtain ⟨f2, ef2, hs2⟩ := any_fd (st := t.sort) (n := last + 1 + x) (nm := [122, 122]) (kd := if decide (t.sort = 69) = true then [] else [116]) (by omega) (by simp) (by split <;> simp) (by split <;> decide)
                        rw [show ((last + 1 + x : Nat) : Int) = (last : Int) + 1 + (x : Int) by omega] at ef2
                        go_simp
                        exact hK _ _ _ ⟨f2, ef2, hs2⟩ trivial HR.out (by simp [Act.put, u6, u10])
                      · obtain ⟨lb, f2, ub, hs2⟩ := hpre
                        obtain ⟨q5, hq5, o5, b5⟩ := R1 hL
                        have h1 : L 13 = false := Hdep.out 13 _ rfl { on := 12, ground := Ground.data } (by simp) (by rfl) hL
                        have h2 : L 15 = false := Hdep.out 15 _ rfl { on := 13, ground := Ground.data } (by simp) (by rfl) h1
                        have u2 : ∀ y ∈ sfc f2, y.oneCell' = true := fun y hy => sfc_one [f2] y (by simpa using hy)
                        have ub' := ub
                        simp only [sfc] at ub'
                        go_simp
                        have hba : Below W.heap.size W (W.alloc (.cells (sfc f2).toArray 135)) := (Below.refl _ _).alloc (Nat.le_refl _) _
                        exact hK _ _ _ ⟨W.heap.size, rfl⟩ trivial ⟨⟨fun _ h => by simp at h, rangeAt_below Ra (by have := o5.lt; omega) hba, fun b f e => rangeAt_below (Rb b f e) (b5 b f e).lt.2 hba, fun h => rangeAt_below (Rc h2) o5.lt.2.2.1 hba⟩, fun h => by simp at h, fun _ _ => ⟨W, f2, q5, hq5, rfl, rfl, o5, b5, hs2⟩, fun h => absurd (h1.symm.trans (by simpa using h)) (by decide), fun h => absurd (h2.symm.trans (by simpa using h)) (by decide)⟩ (by simp [Act.put, ub])
                      · obtain ⟨lv, uv⟩ : L 1 = true ∧ U 1 = (.slice A3 n3 c3) := by
                          first | exact hpre.1 | exact hpre.2.1 | exact hpre.2.2 | exact hpre.2.2.1
                        obtain ⟨ls, bs, us⟩ : L 12 = true ∧ ∃ b, U 12 = .slice (some ⟨b, 0, none⟩) 1 1 := by
                          first | exact hpre.2 | exact hpre.2.1 | exact hpre.1 | exact hpre.2.2 | exact hpre.2.2.1
                        have h2 : L 15 = false := Hdep.out 15 _ rfl { on := 13, ground := Ground.data } (by simp) (by rfl) hL
                        obtain ⟨W7, f2, q5, hq5, rfl, u7, o5, b5, hs2⟩ := R2 ls hL
                        rw [if_pos (by rfl)]
                        refine wp_appKW W7 (.tmp 123) (.tmp 134) 131 rfl (B12 + 1 + 1) 135 sf0 4 56 Tryz.underlying131 Tryz.infoSf rfl (by decide) (sfc f2) rfl (fun y hy => sfc_one [f2] y (by simpa using hy)) (.slice A3 n3 c3) fs.length (fs.flatMap sfc) uv u7 o5.row (by unfold maxLen; omega) (by omega) (by have := o5.lt; omega) ?_
                        intro v' w' hown hg hwh
                        obtain ⟨A5', n5', c5', rfl⟩ := own_slice hown
                        have oa := o5.app b5 hown hg hwh
                        exact hK _ _ _ ⟨A5', n5', c5', rfl⟩ trivial ⟨⟨fun _ h => absurd (ls.symm.trans (by simpa using h)) (by decide), oa.old, fun b f e => (oa.box b f e).cells, fun _ => oa.new⟩, fun h => absurd (ls.symm.trans (by simpa using h)) (by decide), fun _ h => by simp at h, fun _ _ => ⟨by simpa using ls, f2, q5, hq5, oa, hs2⟩, fun h => absurd (h2.symm.trans (by simpa using h)) (by decide)⟩ rfl
                      · go_simp
                        first | exact hK _ _ _ rfl trivial HR.out rfl | exact hK _ _ _ rfl trivial HR.out (by simp [Act.put, hpre, w1i]) | exact hK undef _ _ trivial trivial HR.out (by simp [Act.put, hpre, w1i]) | exact hK _ _ _ trivial trivial HR.out rfl | exact hK _ _ _ trivial trivial HR.out (by simp [Act.put, hpre, w1i])
                      · obtain ⟨lp, la, A5', n5', c5', ua⟩ : (∃ h : True, True) ∧ L 13 = true ∧ ∃ A n c, U 13 = .slice A n c := by
                          first | exact ⟨⟨trivial, trivial⟩, hpre.1.1, hpre.1.2⟩ | exact ⟨⟨trivial, trivial⟩, hpre.2.1.1, hpre.2.1.2⟩ | exact ⟨⟨trivial, trivial⟩, hpre.2.1, hpre.2.2⟩
                        obtain ⟨ls, f2, q5, hq5, oa, hs2⟩ := R3 la hL
                        have up : U 14 = .pointer (some ⟨B12 + 1, 2, none⟩) := by
                          first | exact hpre.1.2 | exact hpre.2.1.2 | exact hpre.2.2
                        rw [ua] at oa
                        have hcell : (W.cell? ⟨B12 + 1, 2, none⟩) = some (.slice A3 n3 c3) := by simpa using rangeAt_cell oa.new 2 rfl
                        have hfz : W.frozen? ⟨B12 + 1, 2, none⟩ = false := by simpa using (oa.there 2 (by decide)).2
                        obtain ⟨os, bs⟩ := oa.store
                        go_simp
                        exact hK undef _ _ rfl trivial ⟨⟨fun _ h => absurd (ls.symm.trans (by simpa using h)) (by decide), os.old, fun b f e => (bs b f e).cells, fun h => by simp at h⟩, fun h => absurd (ls.symm.trans (by simpa using h)) (by decide), fun _ h => absurd (la.symm.trans (by simpa using h)) (by decide), fun _ h => by simp at h, fun _ => ⟨f2, _, q5, hq5, os, bs, hs2⟩⟩ (by simp [Act.put, hpre, up, ua])
                    · rintro L U W hL hφ hR
                      clear hφ
                      have h15 := hL 15 (by decide)
                      obtain ⟨_, _, _, _, R4⟩ := hR
                      obtain ⟨f2, fv2, q5, hq5, os, bs, hs2⟩ := R4 h15
                      obtain ⟨A9, n9, c9, rfl⟩ := own_slice os.row
                      clear hL R4 HO HF
                      go_wp2_with fail
                      go_meet
                      exact ⟨fs ++ [f2], A9, n9, c9, q5, rfl, by omega, by simp, fun f' hf' => by rcases List.mem_append.1 hf' with h | h; exact Hsh.out f' h; simp at h; subst h; exact hs2, os⟩
                case rest =>
                  obtain ⟨w9, rfl⟩ : ∃ w9 : World, w9 = wc := ⟨_, rfl⟩
                  obtain ⟨fs2, A, n, c', q9, rfl, hq9, hfl2, Hsh2, HO9⟩ := hcut
                  clear HO8 Hbq
                  have p0 : w9.cell? ⟨B12 + 1, 0, none⟩ = some (.int .u8 (t.sort.toNat : Int)) := by simpa using rangeAt_cell HO9.out.new 0 rfl
                  have p1 : w9.cell? ⟨B12 + 1, 1, none⟩ = some (.string ⟨t.name.toArray⟩) := by simpa using rangeAt_cell HO9.out.new 1 rfl
                  have p2 : w9.cell? ⟨B12 + 1, 2, none⟩ = some (.slice A n c') := by simpa using rangeAt_cell HO9.out.new 2 rfl
                  have Hsf := Lib.hid (show SFds w9 (.slice A n c') fs2 from own_fds HO9.out.row (by omega))
                  have hnm := (nameOk_iff.1 Hto.out.2.1).2.1
                  have Hout := Lib.hid (fun W (hs : SFds W (.slice A n c') fs2) => sOut20_any ⟨t.sort, t.name, fs2⟩ (.slice A n c') W hs (show fs2.length ≤ 20 by omega) (show t.name.length ≤ 100 by omega) Hsh2.out)
                  have htb := tyB20_len (t := ⟨t.sort, t.name, fs2⟩) (show fs2.length ≤ 20 by omega) (show t.name.length ≤ 100 by omega) Hsh2.out
                  simp only [styV] at Hout
                  generalize tyB ⟨t.sort, t.name, fs2⟩ ++ [10] = tb at Hout htb
                  go_wp2_with fail
                  refine (Hout.out _ Hsf.out).mono ?_
                  rintro e w10 ⟨rfl, hb10⟩
                  have HO10 := Lib.hid (HO9.out.below hb10)
                  have hgl10 := HO10.out.rdr.lt
                  clear hb10 p0 p1 p2
                  go_wp2_with fail
                  go_roundw
                  case rel => exact ⟨m + 1, out ++ tb, q9, by go_num, rfl, by omega, by rw [List.length_append]; omega, by omega, hgl10, HO10.out.rdr, HO10.out.grown⟩
                  case measure => simp [intOf]; omega
        · obtain rfl : m = xs.length := by omega
          have HRf := Lib.hid hR.out
          have Hgf := Lib.hid (dgrown_trans Hg4.out hg.out)
          go_wp2_with fail
          refine bodyPost_ret (v := .tuple #[.string ⟨out.toArray⟩, .string ⟨s2.toArray⟩, .string ⟨s1.toArray⟩, .string ⟨s2.toArray⟩]) (by simp [results, Tryz.results53, go_sem]) rfl ?_
          exact ⟨out, s2, s1, s2, q, rfl, by omega, by omega, by omega, by omega, by omega, HRf.out, Hgf.out⟩
end Go.Proofs.YtcjfgbcdlcdeaaaGreatDoor
/- Versions and registries in memory; those that a law makes of its argument; their sizes; whether they are the same. -/
namespace Go.Proofs.YtcjfgbcdlcdeaaaGreatDoor
open Go.RowKit
set_option maxRecDepth 100000
set_option linter.unusedVariables false
set_option linter.unusedSimpArgs false
attribute [local go_sem] ba_get ba_toList ba_extract take_drop_all ByteArray.mk_append_mk

/-- A version: a schema and a kind, as texts. -/
abbrev Ver := List UInt8 × List UInt8
def verc (v : Ver) : List Value := [.string ⟨v.1.toArray⟩, .string ⟨v.2.toArray⟩]
theorem verc_len (v : Ver) : (verc v).length = 2 := rfl
/-- Cells that lie behind a pointer, if there are any. -/
def CellsAt (w : World) (A : Option Addr) (xs : List Value) : Prop := 0 < xs.length → ∃ b off, A = some ⟨b, off, none⟩ ∧ b < w.heap.size ∧ ∀ j u, xs[j]? = some u → w.cell? ⟨b, off + j, none⟩ = some u
theorem CellsAt.below {w w' : World} {A : Option Addr} {xs : List Value} (h : CellsAt w A xs) (hb : Below w.heap.size w w') : CellsAt w' A xs := fun hn => by
  obtain ⟨b, off, e, hlt, hc⟩ := h hn
  exact ⟨b, off, e, Nat.lt_of_lt_of_le hlt hb.size, fun j u hu => (hb.cell (p := ⟨b, off + j, none⟩) hlt).trans (hc j u hu)⟩
/-- A slice value that reads as versions. -/
def VRow (w : World) (v : Value) (vs : List Ver) : Prop := ∃ A c, v = .slice A vs.length c ∧ vs.length ≤ c ∧ vs.length ≤ maxLen ∧ CellsAt w A (vs.flatMap verc)
theorem VRow.below {w w' : World} {v : Value} {vs : List Ver} (h : VRow w v vs) (hb : Below w.heap.size w w') : VRow w' v vs := by
  obtain ⟨A, c, e, hc, hm, hr⟩ := h
  exact ⟨A, c, e, hc, hm, hr.below hb⟩
theorem VRow.at_ {w : World} {A : Option Addr} {vs : List Ver} (hr : CellsAt w A (vs.flatMap verc)) {i : Nat} (hi : i < vs.length) :
    ∃ b off, A = some ⟨b, off, none⟩ ∧ b < w.heap.size ∧ w.cell? ⟨b, off + i * 2, none⟩ = some (.string ⟨vs[i].1.toArray⟩) ∧ w.cell? ⟨b, off + i * 2 + 1, none⟩ = some (.string ⟨vs[i].2.toArray⟩) := by
  obtain ⟨b, off, e, hlt, hc⟩ := hr (by rw [flatMap_len verc_len]; omega)
  refine ⟨b, off, e, hlt, ?_, ?_⟩
  · have := hc (i * 2 + 0) (.string ⟨vs[i].1.toArray⟩) (by rw [flatMap_get verc_len vs i 0 hi (by decide)]; rfl)
    simpa using this
  · have := hc (i * 2 + 1) (.string ⟨vs[i].2.toArray⟩) (by rw [flatMap_get verc_len vs i 1 hi (by decide)]; rfl)
    simpa [Nat.add_assoc] using this

theorem toVersion_any (a b : ByteArray) (w : World) : Calls Tryz.prog 17 #[.agg #[.string a, .string b]] w fun e w' => e = .returned (.agg #[.string a, .string b]) ∧ Below w.heap.size w w' := by
  go_enter Tryz.func17, Tryz.ntmps17
  go_wp2_with fail
  exact bodyPost_ret (v := .agg #[.string a, .string b]) (by simp [results, Tryz.results17, go_sem]) rfl ⟨rfl, (((Below.refl _ _).alloc (Nat.le_refl _) _).alloc (by simp) _).alloc (by simp; omega) _⟩

theorem there_own {w : World} {base k n : Nat} {e : TypeId} {g cap : Nat} {xs : List Value} (h : w.ownsRow base e k (.slice (some ⟨g, 0, none⟩) n cap) n xs) : w.there g 0 (n * k) := fun j hj => by
  rcases h.2 with ⟨h0, _⟩ | ⟨g', cap', cur, e1, hb, hh, hnc, hcm, hcs, htk⟩
  · cases h0
  · injection e1 with e1 _ e2
    injection e1 with e1
    injection e1 with e1
    subst e1 e2
    have hlt : j < cur.size := by rw [hcs]; exact Nat.lt_of_lt_of_le hj (Nat.mul_le_mul_right _ hnc)
    refine ⟨?_, ?_⟩
    · simp only [World.cell?, hh, Nat.zero_add]
      simp [hlt]
    · simp [World.frozen?, hh]
theorem rangeAt_append {w : World} {b o : Nat} {l1 l2 : List Value} (h1 : w.rangeAt b o l1) (h2 : w.rangeAt b (o + l1.length) l2) : w.rangeAt b o (l1 ++ l2) := fun j v hv => by
  rcases Nat.lt_or_ge j l1.length with h | h
  · rw [List.getElem?_append_left h] at hv; exact h1 j v hv
  · rw [List.getElem?_append_right h] at hv
    have := h2 (j - l1.length) v hv
    rwa [show o + l1.length + (j - l1.length) = o + j by omega] at this
theorem Tryz.infoVer : (Tryz.prog.info? 35).map (fun i => (i.zero, i.size, i.bytes)) = some (some (.agg #[.string ⟨#[]⟩, .string ⟨#[]⟩]), 2, 32) := by kernel_rfl
theorem verc_one (vs : List Ver) : ∀ y ∈ vs.flatMap verc, y.oneCell' = true := by
  intro y hy
  obtain ⟨v, _, hv⟩ := List.mem_flatMap.1 hy
  simp [verc] at hv
  rcases hv with rfl | rfl <;> rfl

/-- A row of versions that the call made. -/
def VOwn (lo : Nat) (w : World) (v : Value) (vs : List Ver) : Prop := ∃ g, v = .slice (some ⟨g, 0, none⟩) vs.length vs.length ∧ lo ≤ g ∧ g < w.heap.size ∧ w.rangeAt g 0 (vs.flatMap verc)
theorem VOwn.row {lo : Nat} {w : World} {v : Value} {vs : List Ver} (h : VOwn lo w v vs) (hn : vs.length ≤ 1048576) : VRow w v vs := by
  obtain ⟨g, e, _, hg, hr⟩ := h
  exact ⟨_, _, e, Nat.le_refl _, by unfold maxLen; omega, fun _ => ⟨g, 0, rfl, hg, hr⟩⟩
theorem VOwn.set {lo : Nat} {w : World} {v : Value} {vs : List Ver} (h : VOwn lo w v vs) {b : Nat} (hb : b < lo) (u : Value) : VOwn lo (w.setCell ⟨b, 0, none⟩ u) v vs := by
  obtain ⟨g, e, h1, hg, hr⟩ := h
  exact ⟨g, e, h1, by simpa using hg, World.rangeAt_setCells_apart hr b 0 [u] (.inl (by omega))⟩

set_option maxHeartbeats 1000000 in
theorem toVersionS_any (v : Value) (vs : List Ver) (w : World) (h : VRow w v vs) (hn : vs.length ≤ 1048576) :
    Calls Tryz.prog 47 #[v] w fun e w' => ∃ v', e = .returned v' ∧ VOwn w.heap.size w' v' vs ∧ Below w.heap.size w w' := by
  obtain ⟨i0, hi, hz0, hz1, hz2⟩ := info_parts Tryz.infoVer
  obtain ⟨A, c, rfl, hcap, hvm, hr⟩ := h
  have Hr := Lib.hid hr
  clear hr
  go_enter Tryz.func47, Tryz.ntmps47
  go_wp2_with (at_make; refine wpList_make_full _ rfl _ _ 29 rfl w.heap.size 35 i0 (.agg #[.string ⟨#[]⟩, .string ⟨#[]⟩]) 2 Tryz.underlying29 hi hz0 hz1 .i64 .i64 _ _ vs.length rfl rfl rfl rfl (by rw [hz2]; omega) (by unfold maxLen; omega) (Nat.le_refl _) ?_; intro w0 hown0 hgrow0)
  have T0 := Lib.hid (there_own hown0)
  have hg0 : w.heap.size < w0.heap.size := (hown0.lt _ rfl).2
  have Hb0 := Lib.hid (show Below w.heap.size w w0 from (Below.refl _ _).grown hgrow0 (Nat.le_refl _) (by simp))
  clear hown0 hgrow0
  go_loopw [4] (fun i wr => ∃ k : Nat, i = .int .i64 k ∧ k ≤ vs.length ∧ Hid (wr.there w.heap.size 0 (vs.length * 2)) ∧ Hid (wr.rangeAt w.heap.size 0 ((vs.take k).flatMap verc)) ∧ Hid (Below w.heap.size w wr) ∧ w.heap.size < wr.heap.size) (fun i _ => vs.length - (intOf i).toNat)
  case atStart => exact ⟨0, rfl, Nat.zero_le _, T0.out, fun j v hv => by simp at hv, Hb0.out, hg0⟩
  case round =>
    obtain ⟨k, rfl, hk, hT, hR, hb, hgz⟩ := hrel
    have k1 : (0 : Int) ≤ (k : Int) := by omega
    by_cases hlt : k < vs.length
    · have k2 : (k : Int) < (vs.length : Int) := by omega
      obtain ⟨b, off, rfl, hbl, c0, c1⟩ := VRow.at_ (Hr.out.below hb.out) hlt
      have Hts := Lib.hid (take_snoc vs k hlt)
      have hlen : ((vs.take k).flatMap verc).length = k * 2 := by rw [flatMap_len verc_len, List.length_take, Nat.min_eq_left hk]
      have Hlen := Lib.hid hlen
      generalize vs[k] = x at c0 c1 Hts
      clear hlen
      go_wp2_with fail
      refine (toVersion_any ⟨x.1.toArray⟩ ⟨x.2.toArray⟩ wr).mono ?_
      rintro e w1 ⟨rfl, hb1⟩
      have T1 := Lib.hid (show w1.there w.heap.size (k * 2) 2 from there_sub (there_below hT.out hgz hb1) (k * 2) 2 (Nat.zero_le _) (by omega))
      have T1' := Lib.hid (there_below hT.out hgz hb1)
      have R1 := Lib.hid (rangeAt_below hR.out hgz hb1)
      have Hb1 := Lib.hid (hb.out.trans (hb1.mono hb.out.size))
      have hz1 : wr.heap.size ≤ w1.heap.size := hb1.size
      clear hb1 c0 c1
      go_wp2_with ((with_reducible refine wpList_store_hid (op := ⟨none, .store 35 _ _, _, _, _, none⟩) rfl 35 _ _ rfl w.heap.size (k * 2) [.string ⟨x.1.toArray⟩, .string ⟨x.2.toArray⟩] ?_ ?_ ?_ ?_ ?_ ?_); (first | rfl | (simp; done)); rfl; (exact T1.out); kernel_rfl; (simp [Value.oneCell']); intro w9 HS9)
      go_roundw
      case rel =>
        refine ⟨k + 1, by go_num, by omega, ?_, ?_, ?_, ?_⟩
        · rw [HS9.out]; exact World.there_setCells T1'.out _ _ _
        · rw [HS9.out, Hts.out, List.flatMap_append]
          refine rangeAt_append (World.rangeAt_setCells_apart R1.out _ _ _ (.inr (.inl (by rw [Hlen.out]; omega)))) ?_
          rw [Hlen.out]
          simpa [verc] using World.rangeAt_setCells_same w1 w.heap.size (k * 2) [.string ⟨x.1.toArray⟩, .string ⟨x.2.toArray⟩] T1.out
        · rw [HS9.out]; exact below_setCells _ (Nat.le_refl _) _ _ _ Hb1.out
        · rw [HS9.out, setCells_size]; omega
      case measure => simp [intOf]; omega
    · obtain rfl : k = vs.length := by omega
      go_wp2_with fail
      go_ret
      have := hR.out
      rw [List.take_length] at this
      exact ⟨_, rfl, ⟨w.heap.size, rfl, Nat.le_refl _, hgz, this⟩, hb.out⟩

set_option maxHeartbeats 1000000 in
theorem toRegistry_any (v : Value) (vs : List Ver) (w : World) (h : VRow w v vs) (hn : vs.length ≤ 1048576) :
    Calls Tryz.prog 16 #[.agg #[v]] w fun e w' => ∃ v', e = .returned (.agg #[v']) ∧ VRow w' v' vs ∧ Below w.heap.size w w' := by
  have H := Lib.hid h
  obtain ⟨A, c, rfl, _⟩ := h
  go_enter Tryz.func16, Tryz.ntmps16
  go_wp2_with fail
  refine (toVersionS_any _ vs _ (H.out.below ((((Below.refl _ _).alloc (Nat.le_refl _) _).alloc (by simp) _).alloc (by simp; omega) _)) hn).mono ?_
  rintro e w1 ⟨v', rfl, hv, hb1⟩
  obtain ⟨hc1, hf1, hz⟩ := bcell hb1
  have T1 := Lib.hid (show w1.cell? ⟨w.heap.size + 1, 0, none⟩ = some (.slice none 0 0) from (hc1 (w.heap.size + 1) 0 (by simp)).trans (by simp [go_sem]))
  have t1 := T1.out
  have t2 : w1.cell? ⟨w.heap.size + 1 + 1, 0, none⟩ = some (.slice none 0 0) := (hc1 (w.heap.size + 1 + 1) 0 (by simp)).trans (by simp [go_sem])
  have u1 : w1.frozen? ⟨w.heap.size + 1, 0, none⟩ = false := (hf1 (w.heap.size + 1) 0 (by simp)).trans (by simp [go_sem])
  have u2 : w1.frozen? ⟨w.heap.size + 1 + 1, 0, none⟩ = false := (hf1 (w.heap.size + 1 + 1) 0 (by simp)).trans (by simp [go_sem])
  have hz1 : w.heap.size + 1 + 1 < w1.heap.size := hz _ (by simp)
  have Hv := Lib.hid hv
  obtain ⟨g1, rfl, hg1, _, _⟩ := hv
  simp at hg1
  have Hb1 := Lib.hid (show Below w.heap.size w w1 from ((((Below.refl _ _).alloc (Nat.le_refl _) _).alloc (by simp) _).alloc (by simp; omega) _).trans (hb1.mono (by simp; omega)))
  clear hb1 hc1 hf1 hz
  have hne : ¬ (w.heap.size + 1 + 1 = w.heap.size + 1) := by omega
  go_wp2_with fail
  refine bodyPost_ret (v := .agg #[.slice (some ⟨g1, 0, none⟩) vs.length vs.length]) (by simp [results, Tryz.results16, go_sem, t1, t2, u1, u2, hne, hz1]) rfl ?_
  exact ⟨_, rfl, ((Hv.out.set (by simp) _).set (by simp) _).row hn, (Hb1.out.setCell (by simp; omega) _).setCell (by simp) _⟩

/-! ### sizes -/
/-- What a size leaves: what is left, or -1; where something is left, the texts are short. -/
def SzPost (P : Int → Prop) (left : Int) (w : World) (e : Ending) (w' : World) : Prop := ∃ r : Int, e = .returned (.int .i64 r) ∧ -1 ≤ r ∧ r ≤ left ∧ (0 ≤ r → P left) ∧ Below w.heap.size w w'
set_option maxHeartbeats 1000000 in
theorem szVersion_any (a b : List UInt8) (left : Int) (w : World) (ha : a.length ≤ maxLen) (hb : b.length ≤ maxLen) (h0 : 0 ≤ left) (h1 : left ≤ 1048576) :
    Calls Tryz.prog 14 #[.agg #[.string ⟨a.toArray⟩, .string ⟨b.toArray⟩], .int .i64 left] w (SzPost (fun l => (a.length : Int) ≤ l ∧ (b.length : Int) ≤ l) left w) := by
  unfold maxLen at ha hb
  go_enter Tryz.func14, Tryz.ntmps14
  by_cases hl : left - (a.length : Int) < 0
  · go_wp2_with fail
    go_ret
    exact ⟨-1, rfl, by omega, by omega, fun h => by omega, (Below.refl _ _).alloc (Nat.le_refl _) _⟩
  · by_cases hl2 : left - (a.length : Int) - (b.length : Int) < 0
    · go_wp2_with fail
      go_ret
      exact ⟨-1, rfl, by omega, by omega, fun h => by omega, (Below.refl _ _).alloc (Nat.le_refl _) _⟩
    · go_wp2_with fail
      go_ret
      exact ⟨left - (a.length : Int) - (b.length : Int), rfl, by omega, by omega, fun h => ⟨by omega, by omega⟩, (Below.refl _ _).alloc (Nat.le_refl _) _⟩
set_option maxHeartbeats 1000000 in
theorem szVersionS_any (v : Value) (vs : List Ver) (w : World) (h : VRow w v vs) (hl : ∀ x ∈ vs, x.1.length ≤ maxLen ∧ x.2.length ≤ maxLen) :
    Calls Tryz.prog 45 #[v, .int .i64 1048576] w (SzPost (fun l => (vs.length : Int) ≤ l ∧ ∀ x ∈ vs, (x.1.length : Int) ≤ l ∧ (x.2.length : Int) ≤ l) 1048576 w) := by
  obtain ⟨A, c, rfl, hcap, hvm, hr⟩ := h
  have Hr := Lib.hid hr
  have Hl := Lib.hid hl
  have hlen := hvm
  unfold maxLen at hlen
  clear hr hl
  go_enter Tryz.func45, Tryz.ntmps45
  by_cases hbig : 1048576 - (vs.length : Int) < 0
  · go_wp2_with fail
    go_ret
    exact ⟨-1, rfl, by omega, by omega, fun h => by omega, Below.refl _ _⟩
  · go_wp2_with fail
    go_loopw [5, 1] (fun i l wr => ∃ (k : Nat) (r : Int), i = .int .i64 k ∧ l = .int .i64 r ∧ k ≤ vs.length ∧ 0 ≤ r ∧ r ≤ 1048576 ∧ Hid (∀ x ∈ vs.take k, (x.1.length : Int) ≤ 1048576 ∧ (x.2.length : Int) ≤ 1048576) ∧ Hid (Below w.heap.size w wr)) (fun i _ _ => vs.length - (intOf i).toNat)
    case atStart => exact ⟨0, 1048576 - (vs.length : Int), rfl, rfl, Nat.zero_le _, by omega, by omega, by intro x hx; simp at hx, Below.refl _ _⟩
    case round =>
      obtain ⟨k, r, rfl, rfl, hk, hr0, hr1, hin, hb⟩ := hrel
      have k1 : (0 : Int) ≤ (k : Int) := by omega
      by_cases hlt : k < vs.length
      · have k2 : (k : Int) < (vs.length : Int) := by omega
        obtain ⟨b, off, rfl, hbl, c0, c1⟩ := VRow.at_ (Hr.out.below hb.out) hlt
        have Hts := Lib.hid (take_snoc vs k hlt)
        have hxl := Hl.out _ (List.getElem_mem hlt)
        generalize vs[k] = x at c0 c1 Hts hxl
        have Hxl := Lib.hid hxl
        clear hxl
        go_wp2_with fail
        refine (szVersion_any x.1 x.2 r wr Hxl.out.1 Hxl.out.2 hr0 hr1).mono ?_
        rintro e w1 ⟨r', rfl, q1, q2, q3, hb1⟩
        have Hq := Lib.hid q3
        have Hb1 := Lib.hid (hb.out.trans (hb1.mono hb.out.size))
        clear q3 hb1 c0 c1
        by_cases hneg : r' < 0
        · go_wp2_with fail
          go_ret
          exact ⟨-1, rfl, by omega, by omega, fun h => by omega, Hb1.out⟩
        · have Hin := Lib.hid (show ∀ y ∈ vs.take (k + 1), (y.1.length : Int) ≤ 1048576 ∧ (y.2.length : Int) ≤ 1048576 from by
            intro y hy
            rw [Hts.out] at hy
            rcases List.mem_append.1 hy with hy | hy
            · exact hin.out y hy
            · simp at hy; subst hy; have := Hq.out (by omega); exact ⟨by omega, by omega⟩)
          go_wp2_with fail
          go_roundw
          case rel => exact ⟨k + 1, r', by go_num, rfl, by omega, by omega, by omega, Hin.out, Hb1.out⟩
          case measure => simp [intOf]; omega
      · obtain rfl : k = vs.length := by omega
        have Hall := Lib.hid hin.out
        rw [List.take_length] at Hall
        go_wp2_with fail
        go_ret
        exact ⟨r, rfl, by omega, hr1, fun _ => ⟨by omega, Hall.out⟩, hb.out⟩
set_option maxHeartbeats 1000000 in
theorem szRegistry_any (v : Value) (vs : List Ver) (w : World) (h : VRow w v vs) (hl : ∀ x ∈ vs, x.1.length ≤ maxLen ∧ x.2.length ≤ maxLen) :
    Calls Tryz.prog 13 #[.agg #[v], .int .i64 1048576] w (SzPost (fun l => (vs.length : Int) ≤ l ∧ ∀ x ∈ vs, (x.1.length : Int) ≤ l ∧ (x.2.length : Int) ≤ l) 1048576 w) := by
  have H := Lib.hid h
  have Hl := Lib.hid hl
  obtain ⟨A, c, rfl, _⟩ := h
  clear hl
  go_enter Tryz.func13, Tryz.ntmps13
  go_wp2_with fail
  refine (szVersionS_any _ vs _ (H.out.below ((Below.refl _ _).alloc (Nat.le_refl _) _)) Hl.out).mono ?_
  rintro e w1 ⟨r, rfl, q1, q2, q3, hb1⟩
  have Hq := Lib.hid q3
  have Hb1 := Lib.hid (((Below.refl w.heap.size w).alloc (Nat.le_refl _) _).trans (hb1.mono (by simp)))
  clear q3 hb1
  by_cases hneg : r < 0
  · go_wp2_with fail
    go_ret
    exact ⟨-1, rfl, by omega, by omega, fun h => by omega, Hb1.out⟩
  · go_wp2_with fail
    go_ret
    exact ⟨r, rfl, q1, q2, Hq.out, Hb1.out⟩

/-! ### the same -/
theorem eqVersion_any (a b : List UInt8) (w : World) : Calls Tryz.prog 81 #[.agg #[.string ⟨a.toArray⟩, .string ⟨b.toArray⟩], .agg #[.string ⟨a.toArray⟩, .string ⟨b.toArray⟩]] w fun e w' => e = .returned (.bool true) ∧ Below w.heap.size w w' := by
  go_enter Tryz.func81, Tryz.ntmps81
  have t1 : (!(a == a)) = false := by simp
  have t2 : (!(b == b)) = false := by simp
  go_wp2_with fail
  go_ret
  exact ⟨rfl, ((Below.refl _ _).alloc (Nat.le_refl _) _).alloc (by simp) _⟩
end Go.Proofs.YtcjfgbcdlcdeaaaGreatDoor
/- The reference's EvolveReads and EvolveBoth. -/
namespace Go.Proofs.YtcjfgbcdlcdeaaaGreatDoor
open Go.RowKit
set_option maxRecDepth 100000
set_option linter.unusedVariables false
set_option linter.unusedSimpArgs false
attribute [local go_sem] ba_get ba_toList ba_extract take_drop_all ByteArray.mk_append_mk

theorem sAsk_any (w0 : World) (v1 v2 : Value) (xs ys : List (Ty × Value)) (hx : SSc w0 v1 xs) (hy : SSc w0 v2 ys) (hS : scOk (tysOf xs)) (hT : scOk (tysOf ys)) : ∀ (n : Nat) (a b : Kd) (m : List Pair) (w : World) (mv : Value),
    kdOk a → kdOk b → refOk (tysOf xs) a → refOk (tysOf ys) b → Asks (tysOf xs) (tysOf ys) m → 64 < n + m.length → AskSt w0 v1 v2 w m mv →
      Calls Tryz.prog 123 #[.pointer (some ⟨w0.heap.size, 0, none⟩), .string ⟨(kdB a).toArray⟩, .string ⟨(kdB b).toArray⟩] w (AkPost w0 v1 v2 (evK (tysOf xs) (tysOf ys) n a b m) w mv) := by
  have h8 : (tysOf xs).length * (tysOf ys).length ≤ 64 := by
    have h1 := hS.1.2.1
    have h2 := hT.1.2.1
    exact Nat.le_trans (Nat.mul_le_mul h1 h2) (by decide)
  intro n
  induction n with
  | zero =>
    intro a b m w mv _ _ _ _ hm hn _
    have := hm.len
    omega
  | succ n ih =>
    intro a b m w mv ha hb hra hrb hm hn hst
    have hml : m.length ≤ 64 := Nat.le_trans hm.len h8
    refine sAsk_kinds w0 v1 v2 xs ys hx hy n a b m w mv ha hb hra hrb hml hst (fun t fv u gv W mv' htm hum hW h1 h2 hnin => ?_)
    have hm2 : Asks (tysOf xs) (tysOf ys) (m ++ [(a.name, b.name)]) := hm.snoc (findTy_isSome.1 (by rw [h1]; rfl)) (findTy_isSome.1 (by rw [h2]; rfl)) hnin
    exact sAsk_types w0 v1 v2 xs ys hx hy hS hT n t u fv gv htm hum (fun a' b' m' W' mv'' h1 h2 h3 h4 h5 h6 h7 => ih a' b' m' W' mv'' h1 h2 h3 h4 h5 h6 h7) _ hm2 (by simp; omega) W mv' hW

/-- What reading both schemas and asking leaves. -/
def LrPost (o1 o2 : Option (List Ty × Kd)) (w : World) (e : Ending) (w' : World) : Prop :=
  ∃ v1 v2, e = .returned (.tuple #[v1, v2, .bool (evolveL o1 o2)]) ∧ Below w.heap.size w w' ∧ (∃ A n c, v1 = .slice A n c) ∧ (∃ A n c, v2 = .slice A n c) ∧
    (match o1, o2 with
    | some x, some y => ∃ xs ys, tysOf xs = x.1 ∧ tysOf ys = y.1 ∧ SSc w' v1 xs ∧ SSc w' v2 ys
    | _, _ => True)

set_option maxHeartbeats 2000000 in
theorem sRead8_any (s1 d1 s2 d2 : List UInt8) (w : World) (h1 : s1.length ≤ 4000000) (h2 : d1.length ≤ 4000000) (h3 : s2.length ≤ 4000000) (h4 : d2.length ≤ 4000000) :
    Calls Tryz.prog 91 #[.string ⟨s1.toArray⟩, .string ⟨d1.toArray⟩, .string ⟨s2.toArray⟩, .string ⟨d2.toArray⟩] w (LrPost (bothL s1 d1) (bothL s2 d2) w) := by
  have Hk1 := Lib.hid (fun W => sKind_any s1 d1 W h1 h2)
  have Hk2 := Lib.hid (fun W => sKind_any s2 d2 W h3 h4)
  have Hg1 := Lib.hid (fun S k (h : bothL s1 d1 = some (S, k)) => bothL_good h)
  have Hg2 := Lib.hid (fun S k (h : bothL s2 d2 = some (S, k)) => bothL_good h)
  generalize bothL s1 d1 = o1 at *
  generalize bothL s2 d2 = o2 at *
  go_enter Tryz.func91, Tryz.ntmps91
  go_wp2_with fail
  refine (Hk1.out _).mono ?_
  rintro e w1 ⟨hc1, hb1⟩
  have Hb1 := Lib.hid hb1
  clear hb1
  cases o1 with
  | none =>
    obtain ⟨A, n, c, rfl⟩ := hc1
    go_wp2_with fail
    refine (Hk2.out _).mono ?_
    rintro e w2 ⟨hc2, hb2⟩
    have Hb2 := Lib.hid (Hb1.out.trans (hb2.mono Hb1.out.size))
    clear hb2
    cases o2 with
    | none =>
      obtain ⟨A2, n2, c2, rfl⟩ := hc2
      go_wp2_with fail
      refine bodyPost_ret (v := .tuple #[.slice none 0 0, .slice none 0 0, .bool false]) (by simp [results, Tryz.results91, go_sem]) rfl ?_
      exact ⟨_, _, rfl, Hb2.out, ⟨_, _, _, rfl⟩, ⟨_, _, _, rfl⟩, trivial⟩
    | some y =>
      obtain ⟨v, ys, rfl, hys, hsc⟩ := hc2
      clear hsc
      go_wp2_with fail
      refine bodyPost_ret (v := .tuple #[.slice none 0 0, .slice none 0 0, .bool false]) (by simp [results, Tryz.results91, go_sem]) rfl ?_
      exact ⟨_, _, rfl, Hb2.out, ⟨_, _, _, rfl⟩, ⟨_, _, _, rfl⟩, trivial⟩
  | some x =>
    obtain ⟨S, k⟩ := x
    obtain ⟨v, xs, rfl, hxs, hsc⟩ := hc1
    simp only at hxs
    have Hxs := Lib.hid hxs
    have Hsc := Lib.hid hsc
    clear hsc hxs
    go_wp2_with fail
    refine (Hk2.out _).mono ?_
    rintro e w2 ⟨hc2, hb2⟩
    have Hsc2 := Lib.hid (Hsc.out.below hb2)
    have Hb2 := Lib.hid (Hb1.out.trans (hb2.mono Hb1.out.size))
    clear hb2
    cases o2 with
    | none =>
      obtain ⟨A2, n2, c2, rfl⟩ := hc2
      go_wp2_with fail
      refine bodyPost_ret (v := .tuple #[.slice none 0 0, .slice none 0 0, .bool false]) (by simp [results, Tryz.results91, go_sem]) rfl ?_
      exact ⟨_, _, rfl, Hb2.out, ⟨_, _, _, rfl⟩, ⟨_, _, _, rfl⟩, trivial⟩
    | some y =>
      obtain ⟨T, k2⟩ := y
      obtain ⟨v2, ys, rfl, hys, hsc2⟩ := hc2
      simp only at hys
      have Hys := Lib.hid hys
      have Hscy := Lib.hid hsc2
      clear hsc2 hys
      obtain ⟨A1, c1, rfl, _⟩ := Hsc2.out
      obtain ⟨A2, c2, rfl, _⟩ := Hscy.out
      obtain ⟨hS, _, _, hk1, hd1, hr1⟩ := Hg1.out _ _ rfl
      obtain ⟨hT, _, _, hk2, hd2, hr2⟩ := Hg2.out _ _ rfl
      have hfs := Hxs.out
      have hft := Hys.out
      subst hfs hft hd1 hd2
      have Hask := Lib.hid (fun W (h : AskSt w2 (.slice A1 xs.length c1) (.slice A2 ys.length c2) W [] (.slice none 0 0)) => sAsk_any w2 _ _ xs ys Hsc2.out Hscy.out hS hT 65 k k2 [] W _ hk1 hk2 hr1 hr2 (Asks.nil _ _) (by simp) h)
      have Hev : Hid (evolveL (some (tysOf xs, k)) (some (tysOf ys, k2)) = (evK (tysOf xs) (tysOf ys) 65 k k2 []).1) := rfl
      generalize evK (tysOf xs) (tysOf ys) 65 k k2 [] = r at *
      clear hS hT hk1 hk2 hr1 hr2
      go_wp2_with fail
      refine (Hask.out _ ?_).mono ?_
      · refine ⟨(Below.refl _ _).alloc (Nat.le_refl _) _, by simp, by simp, by simp, by simp, ?_, World.ownsRow_nil _ _ _ _⟩
        exact there_new w2 [.slice A1 xs.length c1, .slice A2 ys.length c2, .slice none 0 0] _
      rintro e w3 ⟨rfl, mv, hst, _⟩
      have Hb3 := Lib.hid hst.1
      clear hst
      go_wp2_with fail
      refine bodyPost_ret (v := .tuple #[.slice A1 xs.length c1, .slice A2 ys.length c2, .bool r.1]) (by simp [results, Tryz.results91, go_sem]) rfl ?_
      exact ⟨_, _, by rw [Hev.out], Hb2.out.trans (Hb3.out.mono Hb2.out.size), ⟨_, _, _, rfl⟩, ⟨_, _, _, rfl⟩, ⟨xs, ys, rfl, rfl, Hsc2.out.below Hb3.out, Hscy.out.below Hb3.out⟩⟩

set_option maxHeartbeats 1000000 in
theorem sEvolve_any (s1 d1 s2 d2 : List UInt8) (w : World) (h1 : s1.length ≤ 4000000) (h2 : d1.length ≤ 4000000) (h3 : s2.length ≤ 4000000) (h4 : d2.length ≤ 4000000) :
    Calls Tryz.prog 112 #[.string ⟨s1.toArray⟩, .string ⟨d1.toArray⟩, .string ⟨s2.toArray⟩, .string ⟨d2.toArray⟩] w fun e w' => e = .returned (.bool (evolveL (bothL s1 d1) (bothL s2 d2))) ∧ Below w.heap.size w w' := by
  have Hr := Lib.hid (fun W => sRead8_any s1 d1 s2 d2 W h1 h2 h3 h4)
  generalize bothL s1 d1 = o1 at *
  generalize bothL s2 d2 = o2 at *
  go_enter Tryz.func112, Tryz.ntmps112
  go_wp2_with fail
  refine (Hr.out _).mono ?_
  rintro e w1 ⟨v1, v2, rfl, hb1, _, _, _⟩
  have Hb1 := Lib.hid hb1
  clear hb1
  go_wp2_with fail
  go_ret
  exact ⟨rfl, Hb1.out⟩
end Go.Proofs.YtcjfgbcdlcdeaaaGreatDoor
