/- Texts joined: DOlder, DrawER, App, IType2. Conditions: as each theorem names them. -/
import Derived.Deep.CutRange
import Derived.Deep.DeepCutAuto
import Derived.Laws.AppendOwnNone
import Derived.Test.YtcjfgbcdlcdeaaaDoorK01
import Derived.Test.YtcjfgbcdlcdeaaaDoorK07
import Derived.Test.YtcjfgbcdlcdeaaaDoorK11
import Derived.Test.YtcjfgbcdlcdeaaaDoorK12
import Derived.Test.YtcjfgbcdlcdeaaaDoorK14
import Derived.Test.YtcjfgbcdlcdeaaaDoorK16
/- Drawn older and newer schemas. -/
namespace Go.Proofs.YtcjfgbcdlcdeaaaDoor
open Go.RowKit
set_option maxRecDepth 100000
set_option linter.unusedVariables false
set_option linter.unusedSimpArgs false
attribute [local go_sem] ba_get ba_toList ba_extract take_drop_all ByteArray.mk_append_mk

theorem SFds.grown {w w' : World} {g p : Nat} {v : Value} {fs : List Fd} (h : SFds w v fs) (hR : Rdr w g p) (hg : w.grownBy w' (some g)) : SFds w' v fs := by
  obtain ⟨A, c, e, hl, hr⟩ := h
  refine ⟨A, c, e, hl, hr.grown hg (fun b off e1 hn => ?_)⟩
  rintro rfl
  obtain ⟨b', off', e', _, c0, c1, _, _⟩ := SFds.at_ hr (i := 0) (by omega)
  rw [e1] at e'
  injection e' with e'
  injection e' with e2 e3
  subst e2 e3
  obtain ⟨A2, n2, c2, l2, hh, _⟩ := hR
  rcases (show off = 0 ∨ off = 1 ∨ 2 ≤ off by omega) with ho | ho | ho
  · subst ho; simp [World.cell?, hh] at c0
  · subst ho; simp [World.cell?, hh] at c1
  · obtain ⟨k, rfl⟩ : ∃ k, off = k + 2 := ⟨off - 2, by omega⟩
    simp [World.cell?, hh] at c0
theorem SSc.grown {w w' : World} {g p : Nat} {v : Value} {xs : List (Ty × Value)} (h : SSc w v xs) (hR : Rdr w g p) (hg : w.grownBy w' (some g)) : SSc w' v xs := by
  obtain ⟨A, c, e, hl, hr, hf⟩ := h
  refine ⟨A, c, e, hl, hr.grown hg (fun b off e1 hn => ?_), fun x hx => (hf x hx).grown hR hg⟩
  rintro rfl
  obtain ⟨b', off', e', _, c0, _, _⟩ := SSc.at_ hr (i := 0) (by omega)
  rw [e1] at e'
  injection e' with e'
  injection e' with e2 e3
  subst e2 e3
  obtain ⟨A2, n2, c2, l2, hh, _⟩ := hR
  rcases (show off = 0 ∨ off = 1 ∨ 2 ≤ off by omega) with ho | ho | ho
  · subst ho; simp [World.cell?, hh] at c0
  · subst ho; simp [World.cell?, hh] at c0
  · obtain ⟨k, rfl⟩ : ∃ k, off = k + 2 := ⟨off - 2, by omega⟩
    simp [World.cell?, hh] at c0

/-- A field as it may stand in a drawn type. -/
def FdD (st : UInt8) (f : Fd) : Prop := FShort st f
/-- What the loops over types and fields keep: the reader, the type that is gone through, and the new type with its row of fields. -/
structure OldSt (g B12 B : Nat) (c0 c1 cf : Value) (W0 W : World) (fs : List Fd) (fv : Value) (q : Nat) : Prop where
  rdr : Rdr W g q
  grown : W0.grownBy W (some g)
  old : W.rangeAt B12 0 [c0, c1, cf]
  new : W.rangeAt B 0 [c0, c1, fv]
  there : W.there B 0 3
  row : W.ownsRow (B + 1) 50 4 fv fs.length (fs.flatMap sfc)
  lt : g < B12 ∧ B12 < B ∧ B < W.heap.size ∧ W0.heap.size ≤ B12
theorem rangeAt_gr {W W' : World} {b o : Nat} {cs : List Value} {r : Option Nat} (h : W.rangeAt b o cs) (hb : b < W.heap.size) (hg : W.grownBy W' r) (hne : some b ≠ r) : W'.rangeAt b o cs := fun j v hv =>
  (World.cell?_of_block (a := ⟨b, o + j, none⟩) (hg.block b hb hne)).trans (h j v hv)
theorem there_gr {W W' : World} {b o n : Nat} {r : Option Nat} (h : W.there b o n) (hb : b < W.heap.size) (hg : W.grownBy W' r) (hne : some b ≠ r) : W'.there b o n := fun j hj => by
  obtain ⟨h1, h2⟩ := h j hj
  have e := hg.block b hb hne
  refine ⟨by rw [World.cell?_of_block (a := ⟨b, o + j, none⟩) e]; exact h1, ?_⟩
  have e2 : W'.frozen? ⟨b, o + j, none⟩ = W.frozen? ⟨b, o + j, none⟩ := by simp only [World.frozen?, e]
  rw [e2]; exact h2
theorem OldSt.pick {g B12 B : Nat} {c0 c1 cf : Value} {W0 W W' : World} {fs : List Fd} {fv : Value} {q q' : Nat} (h : OldSt g B12 B c0 c1 cf W0 W fs fv q) (hg : W.grownBy W' (some g)) (hR : Rdr W' g q') : OldSt g B12 B c0 c1 cf W0 W' fs fv q' := by
  obtain ⟨l1, l2, l3, l4⟩ := h.lt
  have hz := hg.size
  exact ⟨hR, dgrown_trans h.grown hg, rangeAt_gr h.old (by omega) hg (fun e => by injection e with e; omega), rangeAt_gr h.new (by omega) hg (fun e => by injection e with e; omega), there_gr h.there (by omega) hg (fun e => by injection e with e; omega),
    h.row.kept hg (.inr fun e => by have := (h.row.lt _ e).1; omega), ⟨l1, l2, by omega, l4⟩⟩
theorem OldSt.below {g B12 B : Nat} {c0 c1 cf : Value} {W0 W W' : World} {fs : List Fd} {fv : Value} {q : Nat} (h : OldSt g B12 B c0 c1 cf W0 W fs fv q) (hb : Below W.heap.size W W') : OldSt g B12 B c0 c1 cf W0 W' fs fv q :=
  h.pick (dgrown_below hb _) (h.rdr.below hb)

theorem OldSt.block {g B12 B : Nat} {c0 c1 cf : Value} {W0 W : World} {fs : List Fd} {fv : Value} {q : Nat} (h : OldSt g B12 B c0 c1 cf W0 W fs fv q) : ∀ k, fv.ownBlock = some k → B < k ∧ k < W.heap.size := fun k hk => by
  have := h.row.lt k hk; omega
/-- The box of a field. -/
structure FBox (B16 : Nat) (f : Fd) (B : Nat) (fv : Value) (W : World) : Prop where
  cells : W.rangeAt B16 0 (sfc f)
  there : W.there B16 0 4
  lt : B < B16 ∧ B16 < W.heap.size
  own : fv.ownBlock ≠ some B16
theorem FBox.grown {B16 B g : Nat} {f : Fd} {fv : Value} {W W' : World} (h : FBox B16 f B fv W) (hg : W.grownBy W' (some g)) (hgb : g < B) : FBox B16 f B fv W' := by
  obtain ⟨l1, l2⟩ := h.lt
  have hz := hg.size
  exact ⟨rangeAt_grown h.cells hg (fun e => by injection e with e; omega), there_grown h.there hg l2 (fun e => by injection e with e; omega), ⟨l1, by omega⟩, h.own⟩
theorem FBox.below {B16 B : Nat} {f : Fd} {fv : Value} {W W' : World} (h : FBox B16 f B fv W) (hb : Below W.heap.size W W') : FBox B16 f B fv W' :=
  ⟨rangeAt_below h.cells h.lt.2 hb, there_below h.there h.lt.2 hb, ⟨h.lt.1, Nat.lt_of_lt_of_le h.lt.2 hb.size⟩, h.own⟩
/-- A box, or none. -/
def FBoxO (o : Option (Nat × Fd)) (B : Nat) (fv : Value) (W : World) : Prop := ∀ b f, o = some (b, f) → FBox b f B fv W
theorem FBoxO.below {o : Option (Nat × Fd)} {B : Nat} {fv : Value} {W W' : World} (h : FBoxO o B fv W) (hb : Below W.heap.size W W') : FBoxO o B fv W' := fun b f e => (h b f e).below hb
theorem FBoxO.grown {o : Option (Nat × Fd)} {B g : Nat} {fv : Value} {W W' : World} (h : FBoxO o B fv W) (hg : W.grownBy W' (some g)) (hgb : g < B) : FBoxO o B fv W' := fun b f e => (h b f e).grown hg hgb
/-- Behind an append, ahead of the store. -/
structure OldApp (g B12 B : Nat) (c0 c1 cf : Value) (W0 W : World) (fs : List Fd) (fv : Value) (q : Nat) (o : Option (Nat × Fd)) (f2 : Fd) (v : Value) : Prop where
  rdr : Rdr W g q
  grown : W0.grownBy W (some g)
  old : W.rangeAt B12 0 [c0, c1, cf]
  new : W.rangeAt B 0 [c0, c1, fv]
  there : W.there B 0 3
  row : W.ownsRow (B + 1) 50 4 v (fs.length + 1) (fs.flatMap sfc ++ sfc f2)
  lt : g < B12 ∧ B12 < B ∧ B < W.heap.size ∧ W0.heap.size ≤ B12
  box : FBoxO o B v W
theorem OldSt.app {g B12 B : Nat} {c0 c1 cf : Value} {W0 W7 w5 : World} {fs : List Fd} {fv v5 : Value} {q : Nat} {o : Option (Nat × Fd)} {f2 : Fd} (h : OldSt g B12 B c0 c1 cf W0 W7 fs fv q) (hb : FBoxO o B fv W7)
    (hown : w5.ownsRow (B + 1) 50 4 v5 (fs.length + 1) (fs.flatMap sfc ++ sfc f2)) (hg : W7.grownBy w5 fv.ownBlock) (hw : v5.ownBlock = fv.ownBlock ∨ ∃ k, v5.ownBlock = some k ∧ W7.heap.size ≤ k) : OldApp g B12 B c0 c1 cf W0 w5 fs fv q o f2 v5 := by
  obtain ⟨l1, l2, l3, l4⟩ := h.lt
  have hz := hg.size
  have hfv := h.block
  have ne : ∀ b, b ≤ B → some b ≠ fv.ownBlock := fun b hbB e => by have := (hfv b e.symm).1; omega
  have hgb : Below (B + 1) W7 w5 := (Below.refl _ _).grown hg (by omega) (fun k hk => by have := (hfv k hk).1; omega)
  refine ⟨h.rdr.belowg (hgb.mono (by omega)) hz, ⟨hg.os.trans h.grown.os, hg.tape.trans h.grown.tape, hg.output.trans h.grown.output, Nat.le_trans h.grown.size hz, fun i hi hne => (hg.block i (Nat.lt_of_lt_of_le hi h.grown.size) (ne i (by omega))).trans (h.grown.block i hi hne)⟩, rangeAt_grown h.old hg (ne B12 (by omega)), rangeAt_grown h.new hg (ne B (by omega)), there_grown h.there hg (by omega) (ne B (by omega)), hown, ⟨l1, l2, by omega, l4⟩, fun b f e => ?_⟩
  obtain ⟨b1, b2, b3, b4⟩ := hb b f e
  refine ⟨rangeAt_grown b1 hg (fun e => b4 e.symm), there_grown b2 hg b3.2 (fun e => b4 e.symm), ⟨b3.1, by omega⟩, fun e => ?_⟩
  rcases hw with hw | ⟨k, hk, hk2⟩
  · exact b4 (hw.symm.trans e)
  · rw [hk] at e; injection e with e; omega
theorem OldApp.store {g B12 B : Nat} {c0 c1 cf : Value} {W0 W : World} {fs : List Fd} {fv v : Value} {q : Nat} {o : Option (Nat × Fd)} {f2 : Fd} (h : OldApp g B12 B c0 c1 cf W0 W fs fv q o f2 v) :
    OldSt g B12 B c0 c1 cf W0 (W.setCell ⟨B, 2, none⟩ v) (fs ++ [f2]) v q ∧ FBoxO o B v (W.setCell ⟨B, 2, none⟩ v) := by
  obtain ⟨l1, l2, l3, l4⟩ := h.lt
  have hg := grown_set W ⟨B, 2, none⟩ v
  refine ⟨⟨h.rdr.belowg (((Below.refl _ _).setCell (show g + 1 ≤ B by omega) _)) (by simp), ⟨h.grown.os, h.grown.tape, h.grown.output, by simp; exact h.grown.size, fun i hi hne => (hg.block i (Nat.lt_of_lt_of_le hi h.grown.size) (fun e => by injection e with e; simp at e; omega)).trans (h.grown.block i hi hne)⟩, ?_, ?_, World.there_setCells h.there B 2 [_], ?_, ⟨l1, l2, by simpa using l3, l4⟩⟩, fun b f e => ?_⟩
  · exact rangeAt_grown h.old hg (fun e => by injection e with e; simp at e; omega)
  · exact rangeAt_setCells_in (l2' := [v]) [c0, c1] [fv] [] h.new rfl
  · rw [List.length_append, List.flatMap_append]
    have e : [f2].flatMap sfc = sfc f2 := by simp
    rw [e]
    exact h.row.kept hg (.inr fun e => absurd (h.row.lt _ e).1 (by simp))
  · obtain ⟨b1, b2, b3, b4⟩ := h.box b f e
    exact ⟨rangeAt_grown b1 hg (fun e => by injection e with e; simp at e; omega), there_grown b2 hg b3.2 (fun e => by injection e with e; simp at e; omega), ⟨b3.1, by simpa using b3.2⟩, b4⟩
theorem fd_short {st : UInt8} {f : Fd} (h : fdOk st f) : FShort st f := by
  have hg := given_len h
  obtain ⟨h1, h2, h3, h4, h5⟩ := h
  have hn := (nameOk_iff.1 h3).2.1
  by_cases hs : st = 69
  · exact ⟨h2, by omega, by rw [(h4 hs).1]; decide, by omega, fun _ => (h4 hs).2⟩
  · exact ⟨h2, by omega, by have := (h5 hs).1.2.2; omega, by omega, fun h => absurd h hs⟩

theorem any_fd {st : UInt8} {n : Nat} {nm kd : List UInt8} (hn : n ≤ 200) (h1 : nm.length ≤ 100) (h2 : kd.length ≤ 100) (h3 : kd ≠ [64]) : ∃ f2 : Fd, (.agg #[.int .i64 (n : Int), .string ⟨nm.toArray⟩, .string ⟨kd.toArray⟩, .string ⟨#[]⟩] : Value) = .agg (sfc f2).toArray ∧ FShort st f2 := by
  have e : kdB ⟨[], kd, []⟩ = kd := by unfold kdB coreB; rw [if_neg h3]; rfl
  refine ⟨⟨n, nm, ⟨[], kd, []⟩, []⟩, ?_, hn, h1, by rw [e]; exact h2, by simp, fun _ => rfl⟩
  show _ = Value.agg #[.int .i64 (n : Int), .string ⟨nm.toArray⟩, .string ⟨(kdB ⟨[], kd, []⟩).toArray⟩, .string ⟨#[]⟩]
  rw [e]
theorem DK.ne {l : List UInt8} (h : DK l) : l ≠ [64] := by
  rcases h with ⟨sg, b, rfl, _, h2, h3⟩ | h
  · cases sg with
    | nil => exact (show ∀ b ∈ baseTs, b ≠ [64] by decide) b h3
    | cons c r =>
      intro e
      rw [List.cons_append] at e
      injection e with e1 e2
      have hb := (show ∀ b ∈ baseTs, b ≠ [] by decide) b h3
      have := congrArg List.length e2
      simp only [List.length_append, List.length_nil] at this
      exact hb (List.eq_nil_of_length_eq_zero (by omega))
  · exact (show ∀ b ∈ weirdTs, b ≠ [64] by decide) l h
theorem l6If_any (b : Bool) (x y : List UInt8) (w : World) :
    Calls Tryd.prog 15 #[.bool b, .string ⟨x.toArray⟩, .string ⟨y.toArray⟩] w fun e w' => e = .returned (.string ⟨(if b = true then x else y).toArray⟩) ∧ Below w.heap.size w w' := by
  cases b with
  | true =>
    go_enter Tryd.func15, Tryd.ntmps15
    go_wp2_with fail
    go_ret
    exact ⟨rfl, Below.refl _ _⟩
  | false =>
    go_enter Tryd.func15, Tryd.ntmps15
    go_wp2_with fail
    go_ret
    exact ⟨rfl, Below.refl _ _⟩

theorem OldSt.setBox {g B12 B B16 : Nat} {c0 c1 cf : Value} {W0 W : World} {fs : List Fd} {fv : Value} {q : Nat} (h : OldSt g B12 B c0 c1 cf W0 W fs fv q) (hB : B < B16) (hne : fv.ownBlock ≠ some B16) (o : Nat) (v : Value) : OldSt g B12 B c0 c1 cf W0 (W.setCell ⟨B16, o, none⟩ v) fs fv q := by
  obtain ⟨l1, l2, l3, l4⟩ := h.lt
  have hg := grown_set W ⟨B16, o, none⟩ v
  exact ⟨h.rdr.belowg (((Below.refl _ _).setCell (show g + 1 ≤ B16 by omega) _)) (by simp), ⟨h.grown.os, h.grown.tape, h.grown.output, by simp; exact h.grown.size, fun i hi hne => (hg.block i (Nat.lt_of_lt_of_le hi h.grown.size) (fun e => by injection e with e; simp at e; omega)).trans (h.grown.block i hi hne)⟩,
    rangeAt_grown h.old hg (fun e => by injection e with e; simp at e; omega), rangeAt_grown h.new hg (fun e => by injection e with e; simp at e; omega), World.there_setCells h.there B16 o [_], h.row.kept hg (.inr hne), ⟨l1, l2, by simpa using l3, l4⟩⟩
theorem FBox.set {B16 B : Nat} {f : Fd} {fv : Value} {W : World} (h : FBox B16 f B fv W) (l : List UInt8) (hl : l ≠ [64]) : FBox B16 { f with kind := ⟨[], l, []⟩, given := [] } B fv ((W.setCell ⟨B16, 2, none⟩ (.string ⟨l.toArray⟩)).setCell ⟨B16, 3, none⟩ (.string ⟨#[]⟩)) := by
  have ek : kdB ⟨[], l, []⟩ = l := by unfold kdB coreB; rw [if_neg hl]; rfl
  have r1 : (W.setCell ⟨B16, 2, none⟩ (.string ⟨l.toArray⟩)).rangeAt B16 0 [.int .i64 (f.tag : Int), .string ⟨f.name.toArray⟩, .string ⟨l.toArray⟩, .string ⟨f.given.toArray⟩] :=
    rangeAt_setCells_in (l2' := [.string ⟨l.toArray⟩]) [.int .i64 (f.tag : Int), .string ⟨f.name.toArray⟩] [.string ⟨(kdB f.kind).toArray⟩] [.string ⟨f.given.toArray⟩] h.cells rfl
  have r2 : ((W.setCell ⟨B16, 2, none⟩ (.string ⟨l.toArray⟩)).setCell ⟨B16, 3, none⟩ (.string ⟨#[]⟩)).rangeAt B16 0 [.int .i64 (f.tag : Int), .string ⟨f.name.toArray⟩, .string ⟨l.toArray⟩, .string ⟨#[]⟩] :=
    rangeAt_setCells_in (l2' := [.string ⟨#[]⟩]) [.int .i64 (f.tag : Int), .string ⟨f.name.toArray⟩, .string ⟨l.toArray⟩] [.string ⟨f.given.toArray⟩] [] r1 rfl
  refine ⟨?_, World.there_setCells (World.there_setCells h.there B16 2 [_]) B16 3 [_], ⟨h.lt.1, by simpa using h.lt.2⟩, h.own⟩
  show World.rangeAt _ _ _ [.int .i64 (f.tag : Int), .string ⟨f.name.toArray⟩, .string ⟨(kdB ⟨[], l, []⟩).toArray⟩, .string ⟨#[]⟩]
  rw [ek]; exact r2

theorem tyB20_len {t : Ty} (h8 : t.fields.length ≤ 20) (hn : t.name.length ≤ 100) (hs : ∀ f ∈ t.fields, FShort t.sort f) : (tyB t ++ [10]).length ≤ 8200 := by
  have h := joinL_len 44 400 (t.fields.map (fdB t.sort)) (fun p hp => by obtain ⟨f, hf, rfl⟩ := List.mem_map.1 hp; exact fdB_len (hs f hf))
  rw [List.length_map] at h
  unfold tyB
  simp
  omega

theorem own_fds {W : World} {B : Nat} {A : Option Addr} {n c : Nat} {fs : List Fd} (h : W.ownsRow B 50 4 (.slice A n c) fs.length (fs.flatMap sfc)) (hl : fs.length ≤ 1000) : SFds W (.slice A n c) fs := by
  obtain ⟨A9, c9, e9, hr9⟩ := RowAt.ownK h (by unfold maxLen; omega)
  exact ⟨A9, c9, e9, hl, hr9⟩

def OldPost (w : World) (g p : Nat) (e : Ending) (w' : World) : Prop :=
  ∃ (a b c d : List UInt8) (q : Nat), e = .returned (.tuple #[.string ⟨a.toArray⟩, .string ⟨b.toArray⟩, .string ⟨c.toArray⟩, .string ⟨d.toArray⟩]) ∧ a.length ≤ 100000 ∧ b.length ≤ 15 ∧ c.length ≤ 270 ∧ d.length ≤ 15 ∧ q ≤ p + 3000 ∧ Rdr w' g q ∧ w.grownBy w' (some g)

set_option maxHeartbeats 8000000 in
theorem l91Older_any (g p : Nat) (w : World) (h : Rdr w g p) (hp : p ≤ 100000) :
    Calls Tryd.prog 8 #[.pointer (some ⟨g, 0, none⟩)] w (OldPost w g p) := by
  have hgl := h.lt
  have HR := Lib.hid h
  have Hg0 := Lib.hid (World.grownBy.refl w (some g))
  clear h
  go_enter Tryd.func8, Tryd.ntmps8
  go_wp2_with fail
  refine (l91Schema_any g p _ HR.out (by omega)).mono ?_
  rintro e w1 ⟨s1, q1, rfl, hs1, hq1, hR1, hg1⟩
  have HR1 := Lib.hid hR1
  have Hg1 := Lib.hid (dgrown_trans Hg0.out hg1)
  have hl1 := hs1.1
  have hgl1 := hR1.lt
  clear hR1 hg1 hs1
  go_wp2_with fail
  refine (l91Some_any g q1 s1 _ HR1.out (by omega) (by omega)).mono ?_
  rintro e w2 ⟨s2, q2, rfl, hs2, hq2, hR2, hg2⟩
  have HR2 := Lib.hid hR2
  have Hg2 := Lib.hid (dgrown_trans Hg1.out hg2)
  have hl2 := hs2.len
  have hgl2 := hR2.lt
  clear hR2 hg2 hs2
  have Ho := Lib.hid (fun W => sOf_any s1 W (by omega))
  have Hgood := Lib.hid (fun S (h : schemaL s1 = some S) => (schemaL_some.1 h).1)
  generalize schemaL s1 = o at *
  go_wp2_with fail
  refine (Ho.out _).mono ?_
  rintro e w3 ⟨hc3, hb3⟩
  have HR3 := Lib.hid (HR2.out.below hb3)
  have Hg3 := Lib.hid (dgrown_trans Hg2.out (dgrown_below hb3 (some g)))
  have hgl3 := HR3.out.lt
  clear hb3 HR HR1 HR2 Hg0 Hg1 Hg2 Ho
  cases o with
  | none =>
    obtain ⟨A, n, c, rfl⟩ := hc3
    go_wp2_with fail
    refine (l91Schema_any g q2 _ HR3.out (by omega)).mono ?_
    rintro e w4 ⟨s4, q4, rfl, hs4, hq4, hR4, hg4⟩
    have HR4 := Lib.hid hR4
    have Hg4 := Lib.hid (dgrown_trans Hg3.out hg4)
    have hl4 := hs4.1
    have hgl4 := hR4.lt
    clear hR4 hg4 hs4
    go_wp2_with fail
    refine bodyPost_ret (v := .tuple #[.string ⟨s4.toArray⟩, .string ⟨s2.toArray⟩, .string ⟨s1.toArray⟩, .string ⟨s2.toArray⟩]) (by simp [results, Tryd.results8, go_sem]) rfl ?_
    exact ⟨s4, s2, s1, s2, q4, rfl, by omega, by omega, by omega, by omega, by omega, HR4.out, Hg4.out⟩
  | some S =>
    obtain ⟨v, xs, rfl, hxs, hsc⟩ := hc3
    have Hok := Lib.hid (Hgood.out S rfl)
    have hx8 : xs.length ≤ 8 := by have := Hok.out.1.2.1; rw [← hxs] at this; simpa [tysOf] using this
    have Hsc := Lib.hid hsc
    have Hxs := Lib.hid hxs
    obtain ⟨A, c, rfl, _⟩ := hsc
    clear hxs Hgood
    go_wp2_with fail
    refine (pick_any g q2 8 _ HR3.out (by omega) (by omega) (by omega)).mono ?_
    rintro e w4 ⟨x, rfl, hx1, _, hR4, hg4⟩
    have HR4 := Lib.hid hR4
    have Hg4 := Lib.hid (dgrown_trans Hg3.out hg4)
    have Hsc4 := Lib.hid (Hsc.out.grown HR3.out hg4)
    have hgl4 := hR4.lt
    clear hR4 hg4 hx1 HR3 Hg3 Hsc
    by_cases hx0 : x = 0
    · subst hx0
      go_wp2_with fail
      refine (l91Schema_any g (q2 + 1) _ HR4.out (by omega)).mono ?_
      rintro e w5 ⟨s5, q5, rfl, hs5, hq5, hR5, hg5⟩
      have HR5 := Lib.hid hR5
      have Hg5 := Lib.hid (dgrown_trans Hg4.out hg5)
      have hl5 := hs5.1
      have hgl5 := hR5.lt
      clear hR5 hg5 hs5
      go_wp2_with fail
      refine bodyPost_ret (v := .tuple #[.string ⟨s5.toArray⟩, .string ⟨s2.toArray⟩, .string ⟨s1.toArray⟩, .string ⟨s2.toArray⟩]) (by simp [results, Tryd.results8, go_sem]) rfl ?_
      exact ⟨s5, s2, s1, s2, q5, rfl, by omega, by omega, by omega, by omega, by omega, HR5.out, Hg5.out⟩
    · have tx : ((x : Int) == 0) = false := by simp; omega
      clear hx0
      go_wp2_with fail
      go_loopw [41, 10] (fun i o wr => ∃ (m : Nat) (out : List UInt8) (q : Nat), i = .int .i64 m ∧ o = .string ⟨out.toArray⟩ ∧ m ≤ xs.length ∧ out.length ≤ 8200 * m ∧ q ≤ q2 + 1 + 300 * m ∧ g < wr.heap.size ∧ Hid (Rdr wr g q) ∧ Hid (w4.grownBy wr (some g))) (fun i _ _ => xs.length - (intOf i).toNat)
      case atStart => exact ⟨0, [], q2 + 1, rfl, rfl, Nat.zero_le _, by simp, by omega, hgl4, HR4.out, World.grownBy.refl _ _⟩
      case round =>
        obtain ⟨m, out, q, rfl, rfl, hm, hol, hq, hgw, hR, hg⟩ := hrel
        have m1 : (0 : Int) ≤ (m : Int) := by omega
        by_cases hlt : m < xs.length
        · have m2 : (m : Int) < (xs.length : Int) := by omega
          obtain ⟨A', c', e', _, hrow, hfds⟩ := Hsc4.out.grown HR4.out hg.out
          injection e' with eA _ ec
          subst eA ec
          have hxm := List.getElem_mem hlt
          have hfx := hfds _ hxm
          have hfx4 : SFds w4 xs[m].2 xs[m].1.fields := by obtain ⟨_, _, _, _, _, hf⟩ := Hsc4.out; exact hf _ hxm
          have Hto := Lib.hid (Hok.out.1.1 xs[m].1 (by rw [← Hxs.out]; exact List.mem_map_of_mem (f := (·.1)) hxm))
          obtain ⟨b1, o1, rfl, hb1l, x0, x1, x2⟩ := SSc.at_ hrow hlt
          clear hrow hfds hxm
          generalize xs[m] = tx at *
          obtain ⟨t, fv⟩ := tx
          simp only at x0 x1 x2 Hto hfx hfx4
          have hf8 : t.fields.length ≤ 8 := Hto.out.2.2.2.1
          have hfx' := hfx
          obtain ⟨A4, c4, rfl, _, hrow4⟩ := hfx
          have Hfx := Lib.hid hfx4
          have X0 := Lib.hid x0
          have X1 := Lib.hid x1
          have X2 := Lib.hid x2
          clear hfx' hfx4 hrow4
          have htl := t.sort.toNat_lt
          have hz12 : ∃ B12, B12 = wr.heap.size := ⟨_, rfl⟩
          obtain ⟨B12, hB12⟩ := hz12
          go_wp2_with fail
          have HO0 : Hid (OldSt g B12 (B12 + 1) (.int .u8 (t.sort.toNat : Int)) (.string ⟨t.name.toArray⟩) (.slice A4 t.fields.length c4) w4 ((wr.alloc (.cells #[.int .u8 (t.sort.toNat : Int), .string ⟨t.name.toArray⟩, .slice A4 t.fields.length c4] 48)).alloc (.cells #[.int .u8 (t.sort.toNat : Int), .string ⟨t.name.toArray⟩, .slice none 0 0] 48)) [] (.slice none 0 0) q) := by
            have ha : Below wr.heap.size wr (wr.alloc (.cells #[.int .u8 (t.sort.toNat : Int), .string ⟨t.name.toArray⟩, .slice A4 t.fields.length c4] 48)) := (Below.refl _ _).alloc (Nat.le_refl _) _
            have hb : Below (wr.heap.size + 1) (wr.alloc (.cells #[.int .u8 (t.sort.toNat : Int), .string ⟨t.name.toArray⟩, .slice A4 t.fields.length c4] 48)) ((wr.alloc (.cells #[.int .u8 (t.sort.toNat : Int), .string ⟨t.name.toArray⟩, .slice A4 t.fields.length c4] 48)).alloc (.cells #[.int .u8 (t.sort.toNat : Int), .string ⟨t.name.toArray⟩, .slice none 0 0] 48)) := ((Below.refl _ _).alloc (by simp) _)
            have e1 := rangeAt_new (wr.alloc (.cells #[.int .u8 (t.sort.toNat : Int), .string ⟨t.name.toArray⟩, .slice A4 t.fields.length c4] 48)) [.int .u8 (t.sort.toNat : Int), .string ⟨t.name.toArray⟩, .slice none 0 0] 48
            have e2 := there_new (wr.alloc (.cells #[.int .u8 (t.sort.toNat : Int), .string ⟨t.name.toArray⟩, .slice A4 t.fields.length c4] 48)) [.int .u8 (t.sort.toNat : Int), .string ⟨t.name.toArray⟩, .slice none 0 0] 48
            rw [World.size_alloc] at e1 e2
            rw [hB12]
            exact ⟨(hR.out.below ha).below (hb.mono (by simp)), dgrown_trans hg.out (dgrown_below (ha.trans (hb.mono (by omega))) _), rangeAt_below (rangeAt_new wr [.int .u8 (t.sort.toNat : Int), .string ⟨t.name.toArray⟩, .slice A4 t.fields.length c4] 48) (by omega) hb, e1, e2, World.ownsRow_nil _ _ _ _, ⟨hgw, by omega, by simp, by have := hg.out.size; omega⟩⟩
          rw [← hB12]
          generalize (wr.alloc (.cells #[.int .u8 (t.sort.toNat : Int), .string ⟨t.name.toArray⟩, .slice A4 t.fields.length c4] 48)).alloc (.cells #[.int .u8 (t.sort.toNat : Int), .string ⟨t.name.toArray⟩, .slice none 0 0] 48) = W5 at HO0 ⊢
          have hg12 : g < B12 := by omega
          obtain ⟨wo, rfl⟩ : ∃ wo : World, wo = wr := ⟨_, rfl⟩
          clear hB12 X0 X1 X2 x0 x1 x2
          go_loopw [53, 14] (fun i la wr => ∃ (j last q' : Nat) (fs : List Fd) (fv : Value), i = .int .i64 j ∧ la = .int .i64 last ∧ j ≤ t.fields.length ∧ last ≤ 200 ∧ fs.length ≤ 2 * j ∧ q' ≤ q + 25 * j ∧ Hid (∀ f ∈ fs, FShort t.sort f) ∧ Hid (OldSt g B12 (B12 + 1) (.int .u8 (t.sort.toNat : Int)) (.string ⟨t.name.toArray⟩) (.slice A4 t.fields.length c4) w4 wr fs fv q')) (fun i _ _ => t.fields.length - (intOf i).toNat)
          case atStart => exact ⟨0, 0, q, [], _, rfl, rfl, Nat.zero_le _, by omega, by simp, by omega, (fun f hf => by cases hf), HO0.out⟩
          case round =>
            obtain ⟨j, last, q', fs, fv', rfl, rfl, hj, hla, hfl, hq', hsh, hO⟩ := hrel
            have j1 : (0 : Int) ≤ (j : Int) := by omega
            have b12l : B12 < wr.heap.size := by have := hO.out.lt; omega
            have b13l : B12 + 1 < wr.heap.size := hO.out.lt.2.2.1
            have y0 : wr.cell? ⟨B12, 0, none⟩ = some (.int .u8 (t.sort.toNat : Int)) := by simpa using rangeAt_cell hO.out.old 0 rfl
            have y2 : wr.cell? ⟨B12, 2, none⟩ = some (.slice A4 t.fields.length c4) := by simpa using rangeAt_cell hO.out.old 2 rfl
            obtain ⟨A3, n3, c3, e3⟩ := own_slice hO.out.row
            subst e3
            by_cases hjl : j < t.fields.length
            · have j2 : (j : Int) < (t.fields.length : Int) := by omega
              obtain ⟨A5, c5, e5, _, hrow5⟩ := Hfx.out.grown HR4.out hO.out.grown
              injection e5 with eA5 _ ec5
              subst eA5 ec5
              obtain ⟨bb, off2, rfl, hbb, g0, g1, g2, g3⟩ := SFds.at_ hrow5 hjl
              have Hgm := Lib.hid (fd_short (Hto.out.2.2.1.1 _ (List.getElem_mem hjl)))
              have hft1 := (Hto.out.2.2.1.1 _ (List.getElem_mem hjl)).1
              have hft2 := (Hto.out.2.2.1.1 _ (List.getElem_mem hjl)).2.1
              clear hrow5
              generalize t.fields[j] = f at *
              have n12 : ¬ (B12 = wr.heap.size) := by omega
              obtain ⟨B16, hB16⟩ : ∃ B16, B16 = wr.heap.size := ⟨_, rfl⟩
              have hba : Below wr.heap.size wr (wr.alloc (.cells #[.int .i64 (f.tag : Int), .string ⟨f.name.toArray⟩, .string ⟨(kdB f.kind).toArray⟩, .string ⟨f.given.toArray⟩] 50)) := (Below.refl _ _).alloc (Nat.le_refl _) _
              have HO6 := Lib.hid (hO.out.below hba)
              have HF6 := Lib.hid (show FBox B16 f (B12 + 1) (.slice A3 n3 c3) (wr.alloc (.cells #[.int .i64 (f.tag : Int), .string ⟨f.name.toArray⟩, .string ⟨(kdB f.kind).toArray⟩, .string ⟨f.given.toArray⟩] 50)) from by
                rw [hB16]
                exact ⟨rangeAt_new wr (sfc f) 50, there_new wr (sfc f) 50, ⟨b13l, by simp⟩, fun e => by have := hO.out.block _ e; omega⟩)
              have Hsh := Lib.hid hsh.out
              go_upto_region 15 with fail
              rw [← hB16]
              generalize (wr.alloc (.cells #[.int .i64 (f.tag : Int), .string ⟨f.name.toArray⟩, .string ⟨(kdB f.kind).toArray⟩, .string ⟨f.given.toArray⟩] 50)) = W6 at HO6 HF6 ⊢
              clear hba hB16 y0 y2 g0 g1 g2 g3
              have y0 : W6.cell? ⟨B12, 0, none⟩ = some (.int .u8 (t.sort.toNat : Int)) := by simpa using rangeAt_cell HO6.out.old 0 rfl
              go_cut [53, 65] from 53 to 114 (fun ix b wx => ∃ (bq : Bool) (q3 : Nat), ix = .int .i64 (j : Int) ∧ b = .bool bq ∧ q3 ≤ q' + 1 ∧ Hid (OldSt g B12 (B12 + 1) (.int .u8 (t.sort.toNat : Int)) (.string ⟨t.name.toArray⟩) (.slice (some ⟨bb, off2, none⟩) t.fields.length c4) w4 wx fs (.slice A3 n3 c3) q3) ∧ Hid (FBox B16 f (B12 + 1) (.slice A3 n3 c3) wx))
              case first =>
                by_cases h82 : t.sort = 82
                · have t82 : ((t.sort.toNat : Int) == 82) = true := by have := byte_eq (d := 82) h82; simpa using this
                  clear h82
                  go_wp2_with fail
                  refine (pick_any g q' 4 _ HO6.out.rdr (by omega) (by omega) (by omega)).mono ?_
                  rintro e w7 ⟨x, rfl, hx1, _, hR7, hg7⟩
                  have HO7 := Lib.hid (HO6.out.pick hg7 hR7)
                  have HF7 := Lib.hid (HF6.out.grown hg7 (by omega))
                  clear hR7 hg7 y0
                  go_wp2_with fail
                  go_meet
                  exact ⟨_, q' + 1, rfl, rfl, by omega, HO7.out, HF7.out⟩
                · have t82 : ((t.sort.toNat : Int) == 82) = false := by have := byte_ne (d := 82) h82; simpa using this
                  clear h82
                  go_wp2_with fail
                  go_meet
                  exact ⟨false, q', rfl, rfl, by omega, HO6.out, HF6.out⟩
              case rest =>
                obtain ⟨w7, rfl⟩ : ∃ w7 : World, w7 = wc := ⟨_, rfl⟩
                obtain ⟨bq, q3, rfl, rfl, hq3, HO7, HF7⟩ := hcut
                clear y0 HO6 HF6
                cases bq with
                | true =>
                  go_wp2_with fail
                  go_roundw
                  case rel => exact ⟨j + 1, last, q3, fs, _, by go_num, rfl, by omega, hla, by omega, by omega, Hsh.out, HO7.out⟩
                  case measure => simp [intOf]; omega
                | false =>
                  have y0 : w7.cell? ⟨B16, 0, none⟩ = some (.int .i64 (f.tag : Int)) := by simpa using rangeAt_cell HF7.out.cells 0 rfl
                  go_upto_region 16 with fail
                  go_cut [53, 75] from 53 to 114 (fun ix b wx => ∃ (bi : Bool) (q4 : Nat), ix = .int .i64 (j : Int) ∧ b = .bool bi ∧ q4 ≤ q3 + 1 ∧ Hid (bi = true → last + 1 < f.tag) ∧ Hid (OldSt g B12 (B12 + 1) (.int .u8 (t.sort.toNat : Int)) (.string ⟨t.name.toArray⟩) (.slice (some ⟨bb, off2, none⟩) t.fields.length c4) w4 wx fs (.slice A3 n3 c3) q4) ∧ Hid (FBox B16 f (B12 + 1) (.slice A3 n3 c3) wx))
                  case first =>
                    go_wp2_with fail
                    refine (pick_any g q3 6 _ HO7.out.rdr (by omega) (by omega) (by omega)).mono ?_
                    rintro e w8 ⟨x, rfl, hx1, _, hR8, hg8⟩
                    have HO8 := Lib.hid (HO7.out.pick hg8 hR8)
                    have HF8 := Lib.hid (HF7.out.grown hg8 (by omega))
                    clear hR8 hg8 y0 hx1
                    have y0 : w8.cell? ⟨B16, 0, none⟩ = some (.int .i64 (f.tag : Int)) := by simpa using rangeAt_cell HF8.out.cells 0 rfl
                    by_cases hx0 : x = 0
                    · subst hx0
                      go_wp2_with fail
                      go_meet
                      exact ⟨decide ((last : Int) + 1 < (f.tag : Int)), q3 + 1, rfl, rfl, by omega, fun h => (by have := of_decide_eq_true h; omega), HO8.out, HF8.out⟩
                    · have tx : ((x : Int) == 0) = false := by simp; omega
                      clear hx0
                      go_wp2_with fail
                      go_meet
                      exact ⟨false, q3 + 1, rfl, rfl, by omega, (fun h => Bool.noConfusion h), HO8.out, HF8.out⟩
                  case rest =>
                    obtain ⟨w8, rfl⟩ : ∃ w8 : World, w8 = wc := ⟨_, rfl⟩
                    obtain ⟨bi, q4, rfl, rfl, hq4, Hbi, HO8, HF8⟩ := hcut
                    clear y0 HO7 HF7
                    go_upto_if 75 with fail
                    go_cut [53] from 53 to 114 (fun ix wx => ∃ (fs2 : List Fd) (A : Option Addr) (n c' q5 : Nat), ix = .int .i64 (j : Int) ∧ q5 ≤ q4 + 1 ∧ fs2.length ≤ fs.length + 1 ∧ Hid (∀ f ∈ fs2, FShort t.sort f) ∧ Hid (OldSt g B12 (B12 + 1) (.int .u8 (t.sort.toNat : Int)) (.string ⟨t.name.toArray⟩) (.slice (some ⟨bb, off2, none⟩) t.fields.length c4) w4 wx fs2 (.slice A n c') q5) ∧ Hid (FBox B16 f (B12 + 1) (.slice A n c') wx))
                    case first =>
                      cases bi with
                      | false =>
                        go_wp2_with fail
                        go_meet
                        exact ⟨fs, A3, n3, c3, q4, rfl, by omega, by omega, Hsh.out, HO8.out, HF8.out⟩
                      | true =>
                        have hlt2 := Hbi.out rfl
                        go_upto_region 17 with fail
                        have HO := HO8
                        have HF := Lib.hid (show FBoxO (some (B16, f)) (B12 + 1) (.slice A3 n3 c3) w8 from fun b f' e => (by injection e with e; injection e with e1 e2; subst e1 e2; exact HF8.out))
                        have hob : Hid (∃ ob, ob = some (B16, f)) := ⟨_, rfl⟩
                        obtain ⟨ob, hob⟩ := hob.out
                        rw [← hob] at HF
                        have Hob := Lib.hid hob
                        obtain ⟨qr, hqr⟩ : ∃ qr, qr = q4 := ⟨_, rfl⟩
                        rw [← hqr] at HO
                        have hcv := fun W g0 => Tryd.conv1 W g0 1 (byteOf (101 + j))
                        have hu8 : IntKind.u8.wrap (101 + (j : Int)) = ((101 + j : Nat) : Int) := by rw [IntWalk.u8_in _ (by omega)]; omega
                        have Hne := Lib.hid hlt2
                        have w2i : IntKind.i64.wrap (101 + (j : Int)) = 101 + (j : Int) := IntWalk.i64_in _ (by omega)
                        have w1i : IntKind.i64.wrap ((f.tag : Int) - 1) = (f.tag : Int) - 1 := IntWalk.i64_in _ (by omega)
                        clear hlt2 Hbi hob HO8 HF8
                        refine wp_region_slots3 [76, 77, 78, 79, 80, 81, 82, 83, 84, 85, 86, 87, 88, 89, 90, 91, 92, 93, 999] (by kernel_rfl) (by kernel_rfl) (by kernel_rfl) (fun u => by dsimp only [frameOf, setMany, List.set, Nat.zero_add, Nat.reduceAdd])
                          (fun ix v W => match ix with | 0 => v = .pointer (some ⟨B12 + 1, 2, none⟩) | 1 => v = .slice A3 n3 c3 | 2 => v = .pointer (some ⟨B16, 0, none⟩) | 3 => v = .int .i64 (f.tag : Int) | 4 => v = .int .i64 ((f.tag : Int) - 1) | 5 => v = .int .i64 (j : Int) | 6 => v = .int .i64 (101 + (j : Int)) | 7 => v = .int .u8 ((101 + j : Nat) : Int) | 8 => ∃ b, v = .slice (some ⟨b, 0, none⟩) 1 1 | 9 => v = .string ⟨([byteOf (101 + j)] : List UInt8).toArray⟩ | 10 => v = .pointer (some ⟨B12, 0, none⟩) | 11 => v = .int .u8 (t.sort.toNat : Int) | 12 => v = .bool (decide (t.sort = 69)) | 13 => v = .string ⟨(if decide (t.sort = 69) = true then [] else [110] : List UInt8).toArray⟩ | 14 => ∃ f2 : Fd, v = .agg (sfc f2).toArray ∧ FShort t.sort f2 | 15 => ∃ b, v = .slice (some ⟨b, 0, none⟩) 1 1 | 16 => ∃ A n c, v = .slice A n c | 17 => v = .pointer (some ⟨B12 + 1, 2, none⟩) | 18 => v = undef | _ => True)
                          (fun L U W => ((L 8 = true → L 15 = false → ∃ g8, U 8 = .slice (some ⟨g8, 0, none⟩) 1 1 ∧ g8 < W.heap.size ∧ W.cell? ⟨g8, 0, none⟩ = some (.int .u8 ((101 + j : Nat) : Int))) ∧ W.rangeAt B12 0 [.int .u8 (t.sort.toNat : Int), .string ⟨t.name.toArray⟩, .slice (some ⟨bb, off2, none⟩) t.fields.length c4] ∧ (∀ b f, ob = some (b, f) → W.rangeAt b 0 (sfc f)) ∧ (L 18 = false → W.rangeAt (B12 + 1) 0 [.int .u8 (t.sort.toNat : Int), .string ⟨t.name.toArray⟩, (.slice A3 n3 c3)])) ∧ (L 15 = false → ∃ q5, q5 ≤ qr + 1 ∧ OldSt g B12 (B12 + 1) (.int .u8 (t.sort.toNat : Int)) (.string ⟨t.name.toArray⟩) (.slice (some ⟨bb, off2, none⟩) t.fields.length c4) w4 W fs (.slice A3 n3 c3) q5 ∧ FBoxO ob (B12 + 1) (.slice A3 n3 c3) W) ∧ (L 15 = true → L 16 = false → ∃ W7 f2 q5, q5 ≤ qr + 1 ∧ W = W7.alloc (.cells (sfc f2).toArray 50) ∧ U 15 = .slice (some ⟨W7.heap.size, 0, none⟩) 1 1 ∧ OldSt g B12 (B12 + 1) (.int .u8 (t.sort.toNat : Int)) (.string ⟨t.name.toArray⟩) (.slice (some ⟨bb, off2, none⟩) t.fields.length c4) w4 W7 fs (.slice A3 n3 c3) q5 ∧ FBoxO ob (B12 + 1) (.slice A3 n3 c3) W7 ∧ FShort t.sort f2) ∧ (L 16 = true → L 18 = false → L 15 = true ∧ ∃ f2 q5, q5 ≤ qr + 1 ∧ OldApp g B12 (B12 + 1) (.int .u8 (t.sort.toNat : Int)) (.string ⟨t.name.toArray⟩) (.slice (some ⟨bb, off2, none⟩) t.fields.length c4) w4 W fs (.slice A3 n3 c3) q5 ob f2 (U 16) ∧ FShort t.sort f2) ∧ (L 18 = true → ∃ f2 fv2 q5, q5 ≤ qr + 1 ∧ OldSt g B12 (B12 + 1) (.int .u8 (t.sort.toNat : Int)) (.string ⟨t.name.toArray⟩) (.slice (some ⟨bb, off2, none⟩) t.fields.length c4) w4 W (fs ++ [f2]) fv2 q5 ∧ FBoxO ob (B12 + 1) fv2 W ∧ FShort t.sort f2)) (fun _ _ => True) (fun _ _ _ _ _ h => h) (⟨⟨fun h => Bool.noConfusion h, HO.out.old, fun b f e => (HF.out b f e).cells, fun _ => HO.out.new⟩, fun _ => ⟨qr, by omega, HO.out.below (Below.refl _ _).drew, HF.out.below (Below.refl _ _).drew⟩, fun h => Bool.noConfusion h, fun h => Bool.noConfusion h, fun h => Bool.noConfusion h⟩) ?_ ?_
                        · repeat (first | exact Steps.nil | (refine Steps.cons ?_ ?_; rotate_left))
                          all_goals
                            rintro L U W hL hpre hR hun hdep K hK
                            have HR := Lib.hid hR
                            obtain ⟨⟨Rx, Ra, Rb, Rc⟩, R1, R2, R3, R4⟩ := HR.out
                            have a12 : W.cell? ⟨B12, 0, none⟩ = some (.int .u8 (t.sort.toNat : Int)) := by simpa using rangeAt_cell Ra 0 rfl
                            have a16 : W.cell? ⟨B16, 0, none⟩ = some (.int .i64 (f.tag : Int)) := by simpa using rangeAt_cell (Rb B16 f Hob.out) 0 rfl
                            have Hdep := Lib.hid hdep
                            clear hun hdep hR
                            first | (simp [Region.binds] at hpre; done) | simp [Region.binds] at hpre | clear hpre
                          · go_simp
                            first | exact hK _ _ _ rfl trivial HR.out rfl | exact hK _ _ _ rfl trivial HR.out (by simp [Act.put, hpre, w1i, w2i, hu8]) | exact hK undef _ _ trivial trivial HR.out (by simp [Act.put, hpre, w1i, w2i, hu8]) | exact hK _ _ _ trivial trivial HR.out rfl | exact hK _ _ _ trivial trivial HR.out (by simp [Act.put, hpre, w1i, w2i, hu8])
                          · have h16 : L 16 = false := Hdep.out 16 _ rfl { on := 1, ground := Ground.data } (by simp) (by rfl) hL
                            have h18 : L 18 = false := Hdep.out 18 _ rfl { on := 16, ground := Ground.data } (by simp) (by rfl) h16
                            have a13 : W.cell? ⟨B12 + 1, 2, none⟩ = some (.slice A3 n3 c3) := by simpa using rangeAt_cell (Rc h18) 2 rfl
                            go_simp
                            exact hK _ _ _ rfl trivial HR.out (by simp [Act.put, hpre])
                          iterate 2
                            · go_simp
                              first | exact hK _ _ _ rfl trivial HR.out rfl | exact hK _ _ _ rfl trivial HR.out (by simp [Act.put, hpre, w1i, w2i, hu8]) | exact hK undef _ _ trivial trivial HR.out (by simp [Act.put, hpre, w1i, w2i, hu8]) | exact hK _ _ _ trivial trivial HR.out rfl | exact hK _ _ _ trivial trivial HR.out (by simp [Act.put, hpre, w1i, w2i, hu8])
                          · go_simp
                            exact hK (.int .i64 ((f.tag : Int) - 1)) _ _ rfl trivial HR.out (by simp [Act.put, hpre, w1i])
                          · go_simp
                            first | exact hK _ _ _ rfl trivial HR.out rfl | exact hK _ _ _ rfl trivial HR.out (by simp [Act.put, hpre, w1i, w2i, hu8]) | exact hK undef _ _ trivial trivial HR.out (by simp [Act.put, hpre, w1i, w2i, hu8]) | exact hK _ _ _ trivial trivial HR.out rfl | exact hK _ _ _ trivial trivial HR.out (by simp [Act.put, hpre, w1i, w2i, hu8])
                          · go_simp
                            exact hK (.int .i64 (101 + (j : Int))) _ _ rfl trivial HR.out (by simp [Act.put, hpre, w2i])
                          · go_simp
                            exact hK (.int .u8 ((101 + j : Nat) : Int)) _ _ rfl trivial HR.out (by simp [Act.put, hpre, hu8])
                          · have h9 : L 9 = false := Hdep.out 9 _ rfl { on := 8, ground := Ground.data } (by simp) (by rfl) hL
                            have h14 : L 14 = false := Hdep.out 14 _ rfl { on := 9, ground := Ground.data } (by simp) (by rfl) h9
                            have h15 : L 15 = false := Hdep.out 15 _ rfl { on := 14, ground := Ground.data } (by simp) (by rfl) h14
                            have h16 : L 16 = false := Hdep.out 16 _ rfl { on := 15, ground := Ground.data } (by simp) (by rfl) h15
                            have h18 : L 18 = false := Hdep.out 18 _ rfl { on := 16, ground := Ground.data } (by simp) (by rfl) h16
                            obtain ⟨q5, hq5, o5, b5⟩ := R1 h15
                            have hba : Below W.heap.size W (W.alloc (.cells #[.int .u8 ((101 + j : Nat) : Int)] 5)) := (Below.refl _ _).alloc (Nat.le_refl _) _
                            go_simp
                            exact hK _ _ _ ⟨W.heap.size, rfl⟩ trivial ⟨⟨fun _ _ => ⟨W.heap.size, by simp, by simp, by simp⟩, rangeAt_below Ra (by have := o5.lt; omega) hba, fun b f e => rangeAt_below (Rb b f e) (b5 b f e).lt.2 hba, fun h => rangeAt_below (Rc h18) o5.lt.2.2.1 hba⟩, fun _ => ⟨q5, hq5, o5.below hba, b5.below hba⟩, fun h => absurd (h15.symm.trans (by simpa using h)) (by decide), fun h => absurd (h16.symm.trans (by simpa using h)) (by decide), fun h => absurd (h18.symm.trans (by simpa using h)) (by decide)⟩ (by simp [Act.put, hpre])
                          · obtain ⟨l8, _⟩ := hpre
                            have h14 : L 14 = false := Hdep.out 14 _ rfl { on := 9, ground := Ground.data } (by simp) (by rfl) hL
                            have h15 : L 15 = false := Hdep.out 15 _ rfl { on := 14, ground := Ground.data } (by simp) (by rfl) h14
                            obtain ⟨g8, u8', hg8, hc8⟩ := Rx l8 h15
                            have hcv := Tryd.conv1 W g8 1 (byteOf (101 + j)) (by rw [byteOf_toNat (by omega)]; exact hc8)
                            go_simp
                            exact hK _ _ _ rfl trivial HR.out (by simp [Act.put, u8'])
                          iterate 2
                            · go_simp
                              first | exact hK _ _ _ rfl trivial HR.out rfl | exact hK _ _ _ rfl trivial HR.out (by simp [Act.put, hpre, w1i, w2i, hu8]) | exact hK undef _ _ trivial trivial HR.out (by simp [Act.put, hpre, w1i, w2i, hu8]) | exact hK _ _ _ trivial trivial HR.out rfl | exact hK _ _ _ trivial trivial HR.out (by simp [Act.put, hpre, w1i, w2i, hu8])
                          · by_cases h69 : t.sort = 69
                            · have t69 : ((t.sort.toNat : Int) == 69) = true := by have := byte_eq (d := 69) h69; simpa using this
                              have E69 := Lib.hid (decide_eq_true h69)
                              clear h69
                              go_simp
                              exact hK (.bool true) _ _ (show Value.bool true = .bool (decide (t.sort = 69)) by rw [E69.out]) trivial HR.out (by simp [Act.put, hpre, t69])
                            · have t69 : ((t.sort.toNat : Int) == 69) = false := by have := byte_ne (d := 69) h69; simpa using this
                              have E69 := Lib.hid (decide_eq_false h69)
                              clear h69
                              go_simp
                              exact hK (.bool false) _ _ (show Value.bool false = .bool (decide (t.sort = 69)) by rw [E69.out]) trivial HR.out (by simp [Act.put, hpre, t69])
                          · have h14 : L 14 = false := Hdep.out 14 _ rfl { on := 13, ground := Ground.data } (by simp) (by rfl) hL
                            have h15 : L 15 = false := Hdep.out 15 _ rfl { on := 14, ground := Ground.data } (by simp) (by rfl) h14
                            have h16 : L 16 = false := Hdep.out 16 _ rfl { on := 15, ground := Ground.data } (by simp) (by rfl) h15
                            have h18 : L 18 = false := Hdep.out 18 _ rfl { on := 16, ground := Ground.data } (by simp) (by rfl) h16
                            obtain ⟨q5, hq5, o5, b5⟩ := R1 h15
                            obtain ⟨_, u12⟩ := hpre
                            go_simp
                            refine (l6If_any (decide (t.sort = 69)) [] [110] W).mono ?_
                            rintro e w' ⟨rfl, hba⟩
                            exact hK _ _ _ rfl trivial ⟨⟨fun h8 h9 => by obtain ⟨g8, q1, q2, q3⟩ := Rx (by simpa using h8) (by simpa using h9); exact ⟨g8, by simpa using q1, Nat.lt_of_lt_of_le q2 hba.size, (hba.cell (p := ⟨g8, 0, none⟩) q2).trans q3⟩, rangeAt_below Ra (by have := o5.lt; omega) hba, fun b f e => rangeAt_below (Rb b f e) (b5 b f e).lt.2 hba, fun h => rangeAt_below (Rc h18) o5.lt.2.2.1 hba⟩, fun _ => ⟨q5, hq5, o5.below hba, b5.below hba⟩, fun h => absurd (h15.symm.trans (by simpa using h)) (by decide), fun h => absurd (h16.symm.trans (by simpa using h)) (by decide), fun h => absurd (h18.symm.trans (by simpa using h)) (by decide)⟩ (by simp [Act.put, u12])
                          · obtain ⟨⟨_, u4⟩, ⟨_, u9⟩, _, u13⟩ := hpre
                            obtain ⟨f2, ef2, hs2⟩ := any_fd (st := t.sort) (n := f.tag - 1) (nm := [byteOf (101 + j)]) (kd := if decide (t.sort = 69) = true then [] else [110]) (by omega) (by simp) (by split <;> simp) (by split <;> decide)
                            rw [show ((f.tag - 1 : Nat) : Int) = (f.tag : Int) - 1 by have := Hne.out; omega] at ef2
                            go_simp
                            exact hK _ _ _ ⟨f2, ef2, hs2⟩ trivial HR.out (by simp [Act.put, u4, u9, u13])
                          · obtain ⟨lb, f2, ub, hs2⟩ := hpre
                            obtain ⟨q5, hq5, o5, b5⟩ := R1 hL
                            have h1 : L 16 = false := Hdep.out 16 _ rfl { on := 15, ground := Ground.data } (by simp) (by rfl) hL
                            have h2 : L 18 = false := Hdep.out 18 _ rfl { on := 16, ground := Ground.data } (by simp) (by rfl) h1
                            have u2 : ∀ y ∈ sfc f2, y.oneCell' = true := fun y hy => sfc_one [f2] y (by simpa using hy)
                            have ub' := ub
                            simp only [sfc] at ub'
                            go_simp
                            have hba : Below W.heap.size W (W.alloc (.cells (sfc f2).toArray 50)) := (Below.refl _ _).alloc (Nat.le_refl _) _
                            exact hK _ _ _ ⟨W.heap.size, rfl⟩ trivial ⟨⟨fun _ h => by simp at h, rangeAt_below Ra (by have := o5.lt; omega) hba, fun b f e => rangeAt_below (Rb b f e) (b5 b f e).lt.2 hba, fun h => rangeAt_below (Rc h2) o5.lt.2.2.1 hba⟩, fun h => by simp at h, fun _ _ => ⟨W, f2, q5, hq5, rfl, rfl, o5, b5, hs2⟩, fun h => absurd (h1.symm.trans (by simpa using h)) (by decide), fun h => absurd (h2.symm.trans (by simpa using h)) (by decide)⟩ (by simp [Act.put, ub])
                          · obtain ⟨lv, uv⟩ : L 1 = true ∧ U 1 = (.slice A3 n3 c3) := by
                              first | exact hpre.1 | exact hpre.2.1 | exact hpre.2.2 | exact hpre.2.2.1
                            obtain ⟨ls, bs, us⟩ : L 15 = true ∧ ∃ b, U 15 = .slice (some ⟨b, 0, none⟩) 1 1 := by
                              first | exact hpre.2 | exact hpre.2.1 | exact hpre.1 | exact hpre.2.2 | exact hpre.2.2.1
                            have h2 : L 18 = false := Hdep.out 18 _ rfl { on := 16, ground := Ground.data } (by simp) (by rfl) hL
                            obtain ⟨W7, f2, q5, hq5, rfl, u7, o5, b5, hs2⟩ := R2 ls hL
                            rw [if_pos (by rfl)]
                            refine wp_appKW W7 (.tmp 77) (.tmp 91) 46 rfl (B12 + 1 + 1) 50 sf0 4 56 Tryd.underlying46 Tryd.infoSf rfl (by decide) (sfc f2) rfl (fun y hy => sfc_one [f2] y (by simpa using hy)) (.slice A3 n3 c3) fs.length (fs.flatMap sfc) uv u7 o5.row (by unfold maxLen; omega) (by omega) (by have := o5.lt; omega) ?_
                            intro v' w' hown hg hwh
                            obtain ⟨A5', n5', c5', rfl⟩ := own_slice hown
                            have oa := o5.app b5 hown hg hwh
                            exact hK _ _ _ ⟨A5', n5', c5', rfl⟩ trivial ⟨⟨fun _ h => absurd (ls.symm.trans (by simpa using h)) (by decide), oa.old, fun b f e => (oa.box b f e).cells, fun _ => oa.new⟩, fun h => absurd (ls.symm.trans (by simpa using h)) (by decide), fun _ h => by simp at h, fun _ _ => ⟨by simpa using ls, f2, q5, hq5, oa, hs2⟩, fun h => absurd (h2.symm.trans (by simpa using h)) (by decide)⟩ rfl
                          · go_simp
                            first | exact hK _ _ _ rfl trivial HR.out rfl | exact hK _ _ _ rfl trivial HR.out (by simp [Act.put, hpre, w1i, w2i, hu8]) | exact hK undef _ _ trivial trivial HR.out (by simp [Act.put, hpre, w1i, w2i, hu8]) | exact hK _ _ _ trivial trivial HR.out rfl | exact hK _ _ _ trivial trivial HR.out (by simp [Act.put, hpre, w1i, w2i, hu8])
                          · obtain ⟨lp, la, A5', n5', c5', ua⟩ : (∃ h : True, True) ∧ L 16 = true ∧ ∃ A n c, U 16 = .slice A n c := by
                              first | exact ⟨⟨trivial, trivial⟩, hpre.1.1, hpre.1.2⟩ | exact ⟨⟨trivial, trivial⟩, hpre.2.1.1, hpre.2.1.2⟩ | exact ⟨⟨trivial, trivial⟩, hpre.2.1, hpre.2.2⟩
                            obtain ⟨ls, f2, q5, hq5, oa, hs2⟩ := R3 la hL
                            have up : U 17 = .pointer (some ⟨B12 + 1, 2, none⟩) := by
                              first | exact hpre.1.2 | exact hpre.2.1.2 | exact hpre.2.2
                            rw [ua] at oa
                            have hcell : (W.cell? ⟨B12 + 1, 2, none⟩) = some (.slice A3 n3 c3) := by simpa using rangeAt_cell oa.new 2 rfl
                            have hfz : W.frozen? ⟨B12 + 1, 2, none⟩ = false := by simpa using (oa.there 2 (by decide)).2
                            obtain ⟨os, bs⟩ := oa.store
                            go_simp
                            exact hK undef _ _ rfl trivial ⟨⟨fun _ h => absurd (ls.symm.trans (by simpa using h)) (by decide), os.old, fun b f e => (bs b f e).cells, fun h => by simp at h⟩, fun h => absurd (ls.symm.trans (by simpa using h)) (by decide), fun _ h => absurd (la.symm.trans (by simpa using h)) (by decide), fun _ h => by simp at h, fun _ => ⟨f2, _, q5, hq5, os, bs, hs2⟩⟩ (by simp [Act.put, hpre, up, ua])
                        · rintro L U W hL hφ hR
                          clear hφ
                          have h18 := hL 18 (by decide)
                          obtain ⟨_, _, _, _, R4⟩ := hR
                          obtain ⟨f2, fv2, q5, hq5, os, bs, hs2⟩ := R4 h18
                          obtain ⟨A9, n9, c9, rfl⟩ := own_slice os.row
                          have Hob' := Hob.out
                          clear hL R4 HO HF
                          go_wp2_with fail
                          go_meet
                          exact ⟨fs ++ [f2], A9, n9, c9, q5, rfl, by omega, by simp, fun f' hf' => by rcases List.mem_append.1 hf' with h | h; exact Hsh.out f' h; simp at h; subst h; exact hs2, os, bs B16 f Hob'⟩
                    case rest =>
                      obtain ⟨w9, rfl⟩ : ∃ w9 : World, w9 = wc := ⟨_, rfl⟩
                      obtain ⟨fs2, A, n, c', q5, rfl, hq5, hfl2, Hsh2, HO9, HF9⟩ := hcut
                      clear HO8 HF8
                      go_upto_region 18 with fail
                      go_cut [53, 101] from 53 to 114 (fun ix b wx => ∃ (bq : Bool) (q6 : Nat), ix = .int .i64 (j : Int) ∧ b = .bool bq ∧ q6 ≤ q5 + 1 ∧ Hid (bq = true → t.sort ≠ 69) ∧ Hid (OldSt g B12 (B12 + 1) (.int .u8 (t.sort.toNat : Int)) (.string ⟨t.name.toArray⟩) (.slice (some ⟨bb, off2, none⟩) t.fields.length c4) w4 wx fs2 (.slice A n c') q6) ∧ Hid (FBox B16 f (B12 + 1) (.slice A n c') wx))
                      case first =>
                        go_wp2_with fail
                        refine (pick_any g q5 12 _ HO9.out.rdr (by omega) (by omega) (by omega)).mono ?_
                        rintro e w10 ⟨x, rfl, hx1, _, hR10, hg10⟩
                        have HO10 := Lib.hid (HO9.out.pick hg10 hR10)
                        have HF10 := Lib.hid (HF9.out.grown hg10 (by omega))
                        clear hR10 hg10 hx1
                        have y0 : w10.cell? ⟨B12, 0, none⟩ = some (.int .u8 (t.sort.toNat : Int)) := by simpa using rangeAt_cell HO10.out.old 0 rfl
                        by_cases hx0 : x = 0
                        · subst hx0
                          by_cases h69 : t.sort = 69
                          · have t69 : ((t.sort.toNat : Int) != 69) = false := by have := byte_eq (d := 69) h69; simpa using this
                            clear h69
                            go_wp2_with fail
                            go_meet
                            exact ⟨false, q5 + 1, rfl, rfl, by omega, (fun h => Bool.noConfusion h), HO10.out, HF10.out⟩
                          · have t69 : ((t.sort.toNat : Int) != 69) = true := by have := byte_ne (d := 69) h69; simpa using this
                            have H69 := Lib.hid h69
                            clear h69
                            go_wp2_with fail
                            go_meet
                            exact ⟨true, q5 + 1, rfl, rfl, by omega, (fun _ => H69.out), HO10.out, HF10.out⟩
                        · have tx : ((x : Int) == 0) = false := by simp; omega
                          clear hx0
                          go_wp2_with fail
                          go_meet
                          exact ⟨false, q5 + 1, rfl, rfl, by omega, (fun h => Bool.noConfusion h), HO10.out, HF10.out⟩
                      case rest =>
                        obtain ⟨w10, rfl⟩ : ∃ w10 : World, w10 = wc := ⟨_, rfl⟩
                        obtain ⟨bq, q6, rfl, rfl, hq6, Hbq, HO10, HF10⟩ := hcut
                        clear HO9 HF9
                        go_upto_if 101 with fail
                        go_cut [53] from 53 to 114 (fun ix wx => ∃ (f3 : Fd) (q7 : Nat), ix = .int .i64 (j : Int) ∧ q7 ≤ q6 + 8 ∧ Hid (FShort t.sort f3) ∧ Hid (OldSt g B12 (B12 + 1) (.int .u8 (t.sort.toNat : Int)) (.string ⟨t.name.toArray⟩) (.slice (some ⟨bb, off2, none⟩) t.fields.length c4) w4 wx fs2 (.slice A n c') q7) ∧ Hid (FBox B16 f3 (B12 + 1) (.slice A n c') wx))
                        case first =>
                          cases bq with
                          | false =>
                            go_wp2_with fail
                            go_meet
                            exact ⟨f, q6, rfl, by omega, Hgm.out, HO10.out, HF10.out⟩
                          | true =>
                            have H69 := Lib.hid (Hbq.out rfl)
                            clear Hbq
                            go_wp2_with fail
                            refine (l91Kind_any g q6 _ HO10.out.rdr (by omega)).mono ?_
                            rintro e w11 ⟨l, q7, rfl, hl, hq7, hR11, hg11⟩
                            have HO11 := Lib.hid (HO10.out.pick hg11 hR11)
                            have HF11 := Lib.hid (HF10.out.grown hg11 (by omega))
                            have Hl := Lib.hid hl
                            clear hR11 hg11 hl
                            have z2 : w11.cell? ⟨B16, 2, none⟩ = some (.string ⟨(kdB f.kind).toArray⟩) := by simpa using rangeAt_cell HF11.out.cells 2 rfl
                            have z3 : w11.cell? ⟨B16, 3, none⟩ = some (.string ⟨f.given.toArray⟩) := by simpa using rangeAt_cell HF11.out.cells 3 rfl
                            have zf2 : w11.frozen? ⟨B16, 2, none⟩ = false := by simpa using (HF11.out.there 2 (by decide)).2
                            have zf3 : w11.frozen? ⟨B16, 3, none⟩ = false := by simpa using (HF11.out.there 3 (by decide)).2
                            go_wp2_with fail
                            go_meet
                            exact ⟨{ f with kind := ⟨[], l, []⟩, given := [] }, q7, rfl, by omega, ⟨Hgm.out.1, Hgm.out.2.1, by show (kdB ⟨[], l, []⟩).length ≤ 100; unfold kdB coreB; rw [if_neg Hl.out.ne]; have := Hl.out.len; show ([] ++ l).length ≤ 100; simp; omega, by simp, fun h => rfl⟩, (HO11.out.setBox HF11.out.lt.1 HF11.out.own 2 _).setBox HF11.out.lt.1 HF11.out.own 3 _, HF11.out.set l Hl.out.ne⟩
                        case rest =>
                          obtain ⟨w12, rfl⟩ : ∃ w12 : World, w12 = wc := ⟨_, rfl⟩
                          obtain ⟨f3, q7, rfl, hq7, Hsh3, HO12, HF12⟩ := hcut
                          clear HO10 HF10 Hbq
                          have m13 : w12.cell? ⟨B12 + 1, 2, none⟩ = some (.slice A n c') := by simpa using rangeAt_cell HO12.out.new 2 rfl
                          have z0 : w12.cell? ⟨B16, 0, none⟩ = some (.int .i64 (f3.tag : Int)) := by simpa using rangeAt_cell HF12.out.cells 0 rfl
                          have z1 : w12.cell? ⟨B16, 1, none⟩ = some (.string ⟨f3.name.toArray⟩) := by simpa using rangeAt_cell HF12.out.cells 1 rfl
                          have z2 : w12.cell? ⟨B16, 2, none⟩ = some (.string ⟨(kdB f3.kind).toArray⟩) := by simpa using rangeAt_cell HF12.out.cells 2 rfl
                          have z3 : w12.cell? ⟨B16, 3, none⟩ = some (.string ⟨f3.given.toArray⟩) := by simpa using rangeAt_cell HF12.out.cells 3 rfl
                          have l13 : B12 + 1 < w12.heap.size := HO12.out.lt.2.2.1
                          have l16 : B16 < w12.heap.size := HF12.out.lt.2
                          have n16 : ¬ (B16 = B12 + 1) := by have := HF12.out.lt.1; omega
                          have n13 : ¬ (B12 + 1 = B16) := by omega
                          have hft3 : f3.tag ≤ 200 := Hsh3.out.1
                          have HFO := Lib.hid (show FBoxO (some (B16, f3)) (B12 + 1) (.slice A n c') w12 from fun b f' e => (by injection e with e; injection e with e1 e2; subst e1 e2; exact HF12.out))
                          go_wp2_with (at_builtin; go_loud (refine wpList_appKW w12 rfl (.tmp 107) (.tmp 109) 46 rfl (B12 + 1 + 1) 50 sf0 4 56 Tryd.underlying46 Tryd.infoSf rfl (by decide) [.int .i64 (f3.tag : Int), .string ⟨f3.name.toArray⟩, .string ⟨(kdB f3.kind).toArray⟩, .string ⟨f3.given.toArray⟩] rfl (by intro y hy; simp at hy; rcases hy with rfl | rfl | rfl | rfl <;> rfl) (.slice A n c') fs2.length (fs2.flatMap sfc) rfl rfl HO12.out.row (by unfold maxLen; omega) (by omega) (by omega) ?_); intro v5 w5 hown5 hg5 hwh5; obtain ⟨A5, n5, c5, e5⟩ := own_slice hown5; subst e5; have HA := Lib.hid (OldSt.app (f2 := f3) HO12.out HFO.out hown5 hg5 hwh5); have f5 : w5.frozen? ⟨B12 + 1, 2, none⟩ = false := (by simpa using (HA.out.there 2 (by decide)).2); have p5 : w5.cell? ⟨B12 + 1, 2, none⟩ = some (.slice A n c') := (by simpa using rangeAt_cell HA.out.new 2 rfl); have p6 : w5.cell? ⟨B16, 0, none⟩ = some (.int .i64 (f3.tag : Int)) := (by simpa using rangeAt_cell (HA.out.box B16 f3 rfl).cells 0 rfl); clear hown5 hg5 hwh5)
                          go_roundw
                          case rel => exact ⟨j + 1, f3.tag, q7, fs2 ++ [f3], _, by go_num, rfl, by omega, hft3, by rw [List.length_append]; simp; omega, by omega, (fun f' hf' => by rcases List.mem_append.1 hf' with h | h; exact Hsh2.out f' h; simp at h; subst h; exact Hsh3.out), HA.out.store.1⟩
                          case measure => simp [intOf]; omega
            · obtain rfl : j = t.fields.length := by omega
              clear y0 y2
              have hf17 : fs.length ≤ 16 := by omega
              have Hsh := Lib.hid hsh.out
              have HO6 := Lib.hid hO.out
              obtain ⟨w6, hw6⟩ : ∃ w6 : World, w6 = wr := ⟨_, rfl⟩
              rw [← hw6] at HO6 ⊢
              clear hw6 hO hsh b12l b13l
              go_upto_region 24 with fail
              go_cut [41, 121] from 41 to 141 (fun ix b wx => ∃ (bq : Bool) (q8 : Nat), ix = .int .i64 (m : Int) ∧ b = .bool bq ∧ q8 ≤ q' + 1 ∧ Hid (bq = true → last < 190) ∧ Hid (OldSt g B12 (B12 + 1) (.int .u8 (t.sort.toNat : Int)) (.string ⟨t.name.toArray⟩) (.slice A4 t.fields.length c4) w4 wx fs (.slice A3 n3 c3) q8))
              case first =>
                go_wp2_with fail
                refine (pick_any g q' 3 _ HO6.out.rdr (by omega) (by omega) (by omega)).mono ?_
                rintro e w8 ⟨x, rfl, hx1, _, hR8, hg8⟩
                have HO8 := Lib.hid (HO6.out.pick hg8 hR8)
                clear hR8 hg8 hx1
                by_cases hx0 : x = 0
                · subst hx0
                  go_wp2_with fail
                  go_meet
                  exact ⟨decide ((last : Int) < 190), q' + 1, rfl, rfl, by omega, fun h => (by have := of_decide_eq_true h; omega), HO8.out⟩
                · have tx : ((x : Int) == 0) = false := by simp; omega
                  clear hx0
                  go_wp2_with fail
                  go_meet
                  exact ⟨false, q' + 1, rfl, rfl, by omega, (fun h => Bool.noConfusion h), HO8.out⟩
              case rest =>
                obtain ⟨w8, rfl⟩ : ∃ w8 : World, w8 = wc := ⟨_, rfl⟩
                obtain ⟨bq, q8, rfl, rfl, hq8, Hbq, HO8⟩ := hcut
                clear HO6
                go_upto_if 121 with fail
                go_cut [41] from 41 to 141 (fun ix wx => ∃ (fs2 : List Fd) (A : Option Addr) (n c' q9 : Nat), ix = .int .i64 (m : Int) ∧ q9 ≤ q8 + 1 ∧ fs2.length ≤ fs.length + 1 ∧ Hid (∀ f ∈ fs2, FShort t.sort f) ∧ Hid (OldSt g B12 (B12 + 1) (.int .u8 (t.sort.toNat : Int)) (.string ⟨t.name.toArray⟩) (.slice A4 t.fields.length c4) w4 wx fs2 (.slice A n c') q9))
                case first =>
                  cases bq with
                  | false =>
                    go_wp2_with fail
                    go_meet
                    exact ⟨fs, A3, n3, c3, q8, rfl, by omega, by omega, Hsh.out, HO8.out⟩
                  | true =>
                    have hlt2 := Hbq.out rfl
                    go_upto_region 25 with fail
                    have HO := HO8
                    obtain ⟨ob, hob⟩ : ∃ ob : Option (Nat × Fd), ob = none := ⟨_, rfl⟩
                    have HF := Lib.hid (show FBoxO ob (B12 + 1) (.slice A3 n3 c3) w8 from fun b f' e => by rw [hob] at e; cases e)
                    obtain ⟨qr, hqr⟩ : ∃ qr, qr = q8 := ⟨_, rfl⟩
                    rw [← hqr] at HO
                    have w1i : IntKind.i64.wrap ((last : Int) + 1) = (last : Int) + 1 := IntWalk.i64_in _ (by omega)
                    clear Hbq hob HO8
                    refine wp_region_slots3 [122, 123, 124, 125, 126, 127, 128, 129, 130, 131, 132, 133, 134, 135, 136, 999] (by kernel_rfl) (by kernel_rfl) (by kernel_rfl) (fun u => by dsimp only [frameOf, setMany, List.set, Nat.zero_add, Nat.reduceAdd])
                      (fun ix v W => match ix with | 0 => v = .pointer (some ⟨B12 + 1, 2, none⟩) | 1 => v = .slice A3 n3 c3 | 2 => v = .int .i64 (last : Int) | 3 => v = .int .i64 ((last : Int) + 1) | 4 => v = .pointer (some ⟨g, 0, none⟩) | 5 => ∃ x : Nat, v = .int .i64 (x : Int) ∧ x < 3 | 6 => ∃ x : Nat, v = .int .i64 ((last : Int) + 1 + (x : Int)) ∧ x < 3 | 7 => v = .pointer (some ⟨B12, 0, none⟩) | 8 => v = .int .u8 (t.sort.toNat : Int) | 9 => v = .bool (decide (t.sort = 69)) | 10 => v = .string ⟨(if decide (t.sort = 69) = true then [] else [116] : List UInt8).toArray⟩ | 11 => ∃ f2 : Fd, v = .agg (sfc f2).toArray ∧ FShort t.sort f2 | 12 => ∃ b, v = .slice (some ⟨b, 0, none⟩) 1 1 | 13 => ∃ A n c, v = .slice A n c | 14 => v = .pointer (some ⟨B12 + 1, 2, none⟩) | 15 => v = undef | _ => True)
                      (fun L U W => ((L 5 = false → L 12 = false → ∃ q5, q5 ≤ qr ∧ OldSt g B12 (B12 + 1) (.int .u8 (t.sort.toNat : Int)) (.string ⟨t.name.toArray⟩) (.slice A4 t.fields.length c4) w4 W fs (.slice A3 n3 c3) q5 ∧ FBoxO ob (B12 + 1) (.slice A3 n3 c3) W) ∧ W.rangeAt B12 0 [.int .u8 (t.sort.toNat : Int), .string ⟨t.name.toArray⟩, .slice A4 t.fields.length c4] ∧ (∀ b f, ob = some (b, f) → W.rangeAt b 0 (sfc f)) ∧ (L 15 = false → W.rangeAt (B12 + 1) 0 [.int .u8 (t.sort.toNat : Int), .string ⟨t.name.toArray⟩, (.slice A3 n3 c3)])) ∧ (L 12 = false → ∃ q5, q5 ≤ qr + 1 ∧ OldSt g B12 (B12 + 1) (.int .u8 (t.sort.toNat : Int)) (.string ⟨t.name.toArray⟩) (.slice A4 t.fields.length c4) w4 W fs (.slice A3 n3 c3) q5 ∧ FBoxO ob (B12 + 1) (.slice A3 n3 c3) W) ∧ (L 12 = true → L 13 = false → ∃ W7 f2 q5, q5 ≤ qr + 1 ∧ W = W7.alloc (.cells (sfc f2).toArray 50) ∧ U 12 = .slice (some ⟨W7.heap.size, 0, none⟩) 1 1 ∧ OldSt g B12 (B12 + 1) (.int .u8 (t.sort.toNat : Int)) (.string ⟨t.name.toArray⟩) (.slice A4 t.fields.length c4) w4 W7 fs (.slice A3 n3 c3) q5 ∧ FBoxO ob (B12 + 1) (.slice A3 n3 c3) W7 ∧ FShort t.sort f2) ∧ (L 13 = true → L 15 = false → L 12 = true ∧ ∃ f2 q5, q5 ≤ qr + 1 ∧ OldApp g B12 (B12 + 1) (.int .u8 (t.sort.toNat : Int)) (.string ⟨t.name.toArray⟩) (.slice A4 t.fields.length c4) w4 W fs (.slice A3 n3 c3) q5 ob f2 (U 13) ∧ FShort t.sort f2) ∧ (L 15 = true → ∃ f2 fv2 q5, q5 ≤ qr + 1 ∧ OldSt g B12 (B12 + 1) (.int .u8 (t.sort.toNat : Int)) (.string ⟨t.name.toArray⟩) (.slice A4 t.fields.length c4) w4 W (fs ++ [f2]) fv2 q5 ∧ FBoxO ob (B12 + 1) fv2 W ∧ FShort t.sort f2)) (fun _ _ => True) (fun _ _ _ _ _ h => h) (⟨⟨fun _ _ => ⟨qr, Nat.le_refl _, HO.out.below (Below.refl _ _).drew, HF.out.below (Below.refl _ _).drew⟩, HO.out.old, fun b f e => (HF.out b f e).cells, fun _ => HO.out.new⟩, fun _ => ⟨qr, by omega, HO.out.below (Below.refl _ _).drew, HF.out.below (Below.refl _ _).drew⟩, fun h => Bool.noConfusion h, fun h => Bool.noConfusion h, fun h => Bool.noConfusion h⟩) ?_ ?_
                    · repeat (first | exact Steps.nil | (refine Steps.cons ?_ ?_; rotate_left))
                      all_goals
                        rintro L U W hL hpre hR hun hdep K hK
                        have HR := Lib.hid hR
                        obtain ⟨⟨Rx, Ra, Rb, Rc⟩, R1, R2, R3, R4⟩ := HR.out
                        have a12 : W.cell? ⟨B12, 0, none⟩ = some (.int .u8 (t.sort.toNat : Int)) := by simpa using rangeAt_cell Ra 0 rfl
                        have Hdep := Lib.hid hdep
                        clear hun hdep hR
                        first | (simp [Region.binds] at hpre; done) | simp [Region.binds] at hpre | clear hpre
                      · go_simp
                        first | exact hK _ _ _ rfl trivial HR.out rfl | exact hK _ _ _ rfl trivial HR.out (by simp [Act.put, hpre, w1i]) | exact hK undef _ _ trivial trivial HR.out (by simp [Act.put, hpre, w1i]) | exact hK _ _ _ trivial trivial HR.out rfl | exact hK _ _ _ trivial trivial HR.out (by simp [Act.put, hpre, w1i])
                      · have h16 : L 13 = false := Hdep.out 13 _ rfl { on := 1, ground := Ground.data } (by simp) (by rfl) hL
                        have h18 : L 15 = false := Hdep.out 15 _ rfl { on := 13, ground := Ground.data } (by simp) (by rfl) h16
                        have a13 : W.cell? ⟨B12 + 1, 2, none⟩ = some (.slice A3 n3 c3) := by simpa using rangeAt_cell (Rc h18) 2 rfl
                        go_simp
                        exact hK _ _ _ rfl trivial HR.out (by simp [Act.put, hpre])
                      · go_simp
                        first | exact hK _ _ _ rfl trivial HR.out rfl | exact hK _ _ _ rfl trivial HR.out (by simp [Act.put, hpre, w1i]) | exact hK undef _ _ trivial trivial HR.out (by simp [Act.put, hpre, w1i]) | exact hK _ _ _ trivial trivial HR.out rfl | exact hK _ _ _ trivial trivial HR.out (by simp [Act.put, hpre, w1i])
                      · go_simp
                        exact hK (.int .i64 ((last : Int) + 1)) _ _ rfl trivial HR.out (by simp [Act.put, hpre, w1i])
                      · go_simp
                        first | exact hK _ _ _ rfl trivial HR.out rfl | exact hK _ _ _ rfl trivial HR.out (by simp [Act.put, hpre, w1i]) | exact hK undef _ _ trivial trivial HR.out (by simp [Act.put, hpre, w1i]) | exact hK _ _ _ trivial trivial HR.out rfl | exact hK _ _ _ trivial trivial HR.out (by simp [Act.put, hpre, w1i])
                      · have h6 : L 6 = false := Hdep.out 6 _ rfl { on := 5, ground := Ground.data } (by simp) (by rfl) hL
                        have h11 : L 11 = false := Hdep.out 11 _ rfl { on := 6, ground := Ground.data } (by simp) (by rfl) h6
                        have h12 : L 12 = false := Hdep.out 12 _ rfl { on := 11, ground := Ground.data } (by simp) (by rfl) h11
                        have h13 : L 13 = false := Hdep.out 13 _ rfl { on := 12, ground := Ground.data } (by simp) (by rfl) h12
                        have h15 : L 15 = false := Hdep.out 15 _ rfl { on := 13, ground := Ground.data } (by simp) (by rfl) h13
                        obtain ⟨⟨q5, hq5, o5, b5⟩, h5⟩ : (∃ q5, q5 ≤ qr ∧ OldSt g B12 (B12 + 1) (.int .u8 (t.sort.toNat : Int)) (.string ⟨t.name.toArray⟩) (.slice A4 t.fields.length c4) w4 W fs (.slice A3 n3 c3) q5 ∧ FBoxO ob (B12 + 1) (.slice A3 n3 c3) W) ∧ True := ⟨Rx hL h12, trivial⟩
                        go_simp
                        refine (pick_any g q5 3 W o5.rdr (by omega) (by omega) (by omega)).mono ?_
                        rintro e w' ⟨x, rfl, hx1, _, hRx, hgx⟩
                        have o6 := o5.pick hgx hRx
                        have b6 := b5.grown hgx (by have := o5.lt; omega)
                        exact hK _ _ _ ⟨x, rfl, by omega⟩ trivial ⟨⟨fun h => by simp at h, o6.old, fun b f e => (b6 b f e).cells, fun _ => o6.new⟩, fun _ => ⟨q5 + 1, by omega, o6, b6⟩, fun h => absurd (h12.symm.trans (by simpa using h)) (by decide), fun h => absurd (h13.symm.trans (by simpa using h)) (by decide), fun h => absurd (h15.symm.trans (by simpa using h)) (by decide)⟩ (by simp [Act.put, hpre])
                      · obtain ⟨⟨_, u3⟩, _, x, u5, hx⟩ := hpre
                        have w2i : IntKind.i64.wrap ((last : Int) + 1 + (x : Int)) = (last : Int) + 1 + (x : Int) := IntWalk.i64_in _ (by omega)
                        go_simp
                        exact hK (.int .i64 ((last : Int) + 1 + (x : Int))) _ _ ⟨x, rfl, hx⟩ trivial HR.out (by simp [Act.put, u3, u5, w2i])
                      iterate 2
                        · go_simp
                          first | exact hK _ _ _ rfl trivial HR.out rfl | exact hK _ _ _ rfl trivial HR.out (by simp [Act.put, hpre, w1i]) | exact hK undef _ _ trivial trivial HR.out (by simp [Act.put, hpre, w1i]) | exact hK _ _ _ trivial trivial HR.out rfl | exact hK _ _ _ trivial trivial HR.out (by simp [Act.put, hpre, w1i])
                      · by_cases h69 : t.sort = 69
                        · have t69 : ((t.sort.toNat : Int) == 69) = true := by have := byte_eq (d := 69) h69; simpa using this
                          have E69 := Lib.hid (decide_eq_true h69)
                          clear h69
                          go_simp
                          exact hK (.bool true) _ _ (show Value.bool true = .bool (decide (t.sort = 69)) by rw [E69.out]) trivial HR.out (by simp [Act.put, hpre, t69])
                        · have t69 : ((t.sort.toNat : Int) == 69) = false := by have := byte_ne (d := 69) h69; simpa using this
                          have E69 := Lib.hid (decide_eq_false h69)
                          clear h69
                          go_simp
                          exact hK (.bool false) _ _ (show Value.bool false = .bool (decide (t.sort = 69)) by rw [E69.out]) trivial HR.out (by simp [Act.put, hpre, t69])
                      · have h11 : L 11 = false := Hdep.out 11 _ rfl { on := 10, ground := Ground.data } (by simp) (by rfl) hL
                        have h12 : L 12 = false := Hdep.out 12 _ rfl { on := 11, ground := Ground.data } (by simp) (by rfl) h11
                        have h13 : L 13 = false := Hdep.out 13 _ rfl { on := 12, ground := Ground.data } (by simp) (by rfl) h12
                        have h15 : L 15 = false := Hdep.out 15 _ rfl { on := 13, ground := Ground.data } (by simp) (by rfl) h13
                        have u9 : U 9 = .bool (decide (t.sort = 69)) := by
                          first | exact hpre.2 | exact hpre.1.2 | exact hpre.2.2 | exact hpre.2.1.2
                        go_simp
                        refine (l6If_any (decide (t.sort = 69)) [] [116] W).mono ?_
                        rintro e w' ⟨rfl, hba⟩
                        obtain ⟨q5, hq5, o5, b5⟩ := R1 h12
                        exact hK _ _ _ rfl trivial ⟨⟨fun h5 h12' => by obtain ⟨q6, e6, o6, b6⟩ := Rx (by simpa using h5) (by simpa using h12'); exact ⟨q6, e6, o6.below hba, b6.below hba⟩, rangeAt_below Ra (by have := o5.lt; omega) hba, fun b f e => rangeAt_below (Rb b f e) (b5 b f e).lt.2 hba, fun h => rangeAt_below (Rc h15) o5.lt.2.2.1 hba⟩, fun _ => ⟨q5, hq5, o5.below hba, b5.below hba⟩, fun h => absurd (h12.symm.trans (by simpa using h)) (by decide), fun h => absurd (h13.symm.trans (by simpa using h)) (by decide), fun h => absurd (h15.symm.trans (by simpa using h)) (by decide)⟩ (by simp [Act.put, hpre, u9])
                      · obtain ⟨⟨_, x, u6, hx⟩, _, u10⟩ := hpre
                        obtain ⟨f2, ef2, hs2⟩ := any_fd (st := t.sort) (n := last + 1 + x) (nm := [122, 122]) (kd := if decide (t.sort = 69) = true then [] else [116]) (by omega) (by simp) (by split <;> simp) (by split <;> decide)
                        rw [show ((last + 1 + x : Nat) : Int) = (last : Int) + 1 + (x : Int) by omega] at ef2
                        go_simp
                        exact hK _ _ _ ⟨f2, ef2, hs2⟩ trivial HR.out (by simp [Act.put, u6, u10])
                      · obtain ⟨lb, f2, ub, hs2⟩ := hpre
                        obtain ⟨q5, hq5, o5, b5⟩ := R1 hL
                        have h1 : L 13 = false := Hdep.out 13 _ rfl { on := 12, ground := Ground.data } (by simp) (by rfl) hL
                        have h2 : L 15 = false := Hdep.out 15 _ rfl { on := 13, ground := Ground.data } (by simp) (by rfl) h1
                        have u2 : ∀ y ∈ sfc f2, y.oneCell' = true := fun y hy => sfc_one [f2] y (by simpa using hy)
                        have ub' := ub
                        simp only [sfc] at ub'
                        go_simp
                        have hba : Below W.heap.size W (W.alloc (.cells (sfc f2).toArray 50)) := (Below.refl _ _).alloc (Nat.le_refl _) _
                        exact hK _ _ _ ⟨W.heap.size, rfl⟩ trivial ⟨⟨fun _ h => by simp at h, rangeAt_below Ra (by have := o5.lt; omega) hba, fun b f e => rangeAt_below (Rb b f e) (b5 b f e).lt.2 hba, fun h => rangeAt_below (Rc h2) o5.lt.2.2.1 hba⟩, fun h => by simp at h, fun _ _ => ⟨W, f2, q5, hq5, rfl, rfl, o5, b5, hs2⟩, fun h => absurd (h1.symm.trans (by simpa using h)) (by decide), fun h => absurd (h2.symm.trans (by simpa using h)) (by decide)⟩ (by simp [Act.put, ub])
                      · obtain ⟨lv, uv⟩ : L 1 = true ∧ U 1 = (.slice A3 n3 c3) := by
                          first | exact hpre.1 | exact hpre.2.1 | exact hpre.2.2 | exact hpre.2.2.1
                        obtain ⟨ls, bs, us⟩ : L 12 = true ∧ ∃ b, U 12 = .slice (some ⟨b, 0, none⟩) 1 1 := by
                          first | exact hpre.2 | exact hpre.2.1 | exact hpre.1 | exact hpre.2.2 | exact hpre.2.2.1
                        have h2 : L 15 = false := Hdep.out 15 _ rfl { on := 13, ground := Ground.data } (by simp) (by rfl) hL
                        obtain ⟨W7, f2, q5, hq5, rfl, u7, o5, b5, hs2⟩ := R2 ls hL
                        rw [if_pos (by rfl)]
                        refine wp_appKW W7 (.tmp 123) (.tmp 134) 46 rfl (B12 + 1 + 1) 50 sf0 4 56 Tryd.underlying46 Tryd.infoSf rfl (by decide) (sfc f2) rfl (fun y hy => sfc_one [f2] y (by simpa using hy)) (.slice A3 n3 c3) fs.length (fs.flatMap sfc) uv u7 o5.row (by unfold maxLen; omega) (by omega) (by have := o5.lt; omega) ?_
                        intro v' w' hown hg hwh
                        obtain ⟨A5', n5', c5', rfl⟩ := own_slice hown
                        have oa := o5.app b5 hown hg hwh
                        exact hK _ _ _ ⟨A5', n5', c5', rfl⟩ trivial ⟨⟨fun _ h => absurd (ls.symm.trans (by simpa using h)) (by decide), oa.old, fun b f e => (oa.box b f e).cells, fun _ => oa.new⟩, fun h => absurd (ls.symm.trans (by simpa using h)) (by decide), fun _ h => by simp at h, fun _ _ => ⟨by simpa using ls, f2, q5, hq5, oa, hs2⟩, fun h => absurd (h2.symm.trans (by simpa using h)) (by decide)⟩ rfl
                      · go_simp
                        first | exact hK _ _ _ rfl trivial HR.out rfl | exact hK _ _ _ rfl trivial HR.out (by simp [Act.put, hpre, w1i]) | exact hK undef _ _ trivial trivial HR.out (by simp [Act.put, hpre, w1i]) | exact hK _ _ _ trivial trivial HR.out rfl | exact hK _ _ _ trivial trivial HR.out (by simp [Act.put, hpre, w1i])
                      · obtain ⟨lp, la, A5', n5', c5', ua⟩ : (∃ h : True, True) ∧ L 13 = true ∧ ∃ A n c, U 13 = .slice A n c := by
                          first | exact ⟨⟨trivial, trivial⟩, hpre.1.1, hpre.1.2⟩ | exact ⟨⟨trivial, trivial⟩, hpre.2.1.1, hpre.2.1.2⟩ | exact ⟨⟨trivial, trivial⟩, hpre.2.1, hpre.2.2⟩
                        obtain ⟨ls, f2, q5, hq5, oa, hs2⟩ := R3 la hL
                        have up : U 14 = .pointer (some ⟨B12 + 1, 2, none⟩) := by
                          first | exact hpre.1.2 | exact hpre.2.1.2 | exact hpre.2.2
                        rw [ua] at oa
                        have hcell : (W.cell? ⟨B12 + 1, 2, none⟩) = some (.slice A3 n3 c3) := by simpa using rangeAt_cell oa.new 2 rfl
                        have hfz : W.frozen? ⟨B12 + 1, 2, none⟩ = false := by simpa using (oa.there 2 (by decide)).2
                        obtain ⟨os, bs⟩ := oa.store
                        go_simp
                        exact hK undef _ _ rfl trivial ⟨⟨fun _ h => absurd (ls.symm.trans (by simpa using h)) (by decide), os.old, fun b f e => (bs b f e).cells, fun h => by simp at h⟩, fun h => absurd (ls.symm.trans (by simpa using h)) (by decide), fun _ h => absurd (la.symm.trans (by simpa using h)) (by decide), fun _ h => by simp at h, fun _ => ⟨f2, _, q5, hq5, os, bs, hs2⟩⟩ (by simp [Act.put, hpre, up, ua])
                    · rintro L U W hL hφ hR
                      clear hφ
                      have h15 := hL 15 (by decide)
                      obtain ⟨_, _, _, _, R4⟩ := hR
                      obtain ⟨f2, fv2, q5, hq5, os, bs, hs2⟩ := R4 h15
                      obtain ⟨A9, n9, c9, rfl⟩ := own_slice os.row
                      clear hL R4 HO HF
                      go_wp2_with fail
                      go_meet
                      exact ⟨fs ++ [f2], A9, n9, c9, q5, rfl, by omega, by simp, fun f' hf' => by rcases List.mem_append.1 hf' with h | h; exact Hsh.out f' h; simp at h; subst h; exact hs2, os⟩
                case rest =>
                  obtain ⟨w9, rfl⟩ : ∃ w9 : World, w9 = wc := ⟨_, rfl⟩
                  obtain ⟨fs2, A, n, c', q9, rfl, hq9, hfl2, Hsh2, HO9⟩ := hcut
                  clear HO8 Hbq
                  have p0 : w9.cell? ⟨B12 + 1, 0, none⟩ = some (.int .u8 (t.sort.toNat : Int)) := by simpa using rangeAt_cell HO9.out.new 0 rfl
                  have p1 : w9.cell? ⟨B12 + 1, 1, none⟩ = some (.string ⟨t.name.toArray⟩) := by simpa using rangeAt_cell HO9.out.new 1 rfl
                  have p2 : w9.cell? ⟨B12 + 1, 2, none⟩ = some (.slice A n c') := by simpa using rangeAt_cell HO9.out.new 2 rfl
                  have Hsf := Lib.hid (show SFds w9 (.slice A n c') fs2 from own_fds HO9.out.row (by omega))
                  have hnm := (nameOk_iff.1 Hto.out.2.1).2.1
                  have Hout := Lib.hid (fun W (hs : SFds W (.slice A n c') fs2) => sOut20_any ⟨t.sort, t.name, fs2⟩ (.slice A n c') W hs (show fs2.length ≤ 20 by omega) (show t.name.length ≤ 100 by omega) Hsh2.out)
                  have htb := tyB20_len (t := ⟨t.sort, t.name, fs2⟩) (show fs2.length ≤ 20 by omega) (show t.name.length ≤ 100 by omega) Hsh2.out
                  simp only [styV] at Hout
                  generalize tyB ⟨t.sort, t.name, fs2⟩ ++ [10] = tb at Hout htb
                  go_wp2_with fail
                  refine (Hout.out _ Hsf.out).mono ?_
                  rintro e w10 ⟨rfl, hb10⟩
                  have HO10 := Lib.hid (HO9.out.below hb10)
                  have hgl10 := HO10.out.rdr.lt
                  clear hb10 p0 p1 p2
                  go_wp2_with fail
                  go_roundw
                  case rel => exact ⟨m + 1, out ++ tb, q9, by go_num, rfl, by omega, by rw [List.length_append]; omega, by omega, hgl10, HO10.out.rdr, HO10.out.grown⟩
                  case measure => simp [intOf]; omega
        · obtain rfl : m = xs.length := by omega
          have HRf := Lib.hid hR.out
          have Hgf := Lib.hid (dgrown_trans Hg4.out hg.out)
          go_wp2_with fail
          refine bodyPost_ret (v := .tuple #[.string ⟨out.toArray⟩, .string ⟨s2.toArray⟩, .string ⟨s1.toArray⟩, .string ⟨s2.toArray⟩]) (by simp [results, Tryd.results8, go_sem]) rfl ?_
          exact ⟨out, s2, s1, s2, q, rfl, by omega, by omega, by omega, by omega, by omega, HRf.out, Hgf.out⟩
end Go.Proofs.YtcjfgbcdlcdeaaaDoor
/- The drawing functions of the laws on evolution. -/
namespace Go.Proofs.YtcjfgbcdlcdeaaaDoor
open Go.RowKit
set_option maxRecDepth 100000
set_option linter.unusedVariables false
set_option linter.unusedSimpArgs false
attribute [local go_sem] ba_get ba_toList ba_extract take_drop_all ByteArray.mk_append_mk

set_option maxHeartbeats 1000000 in
theorem DrawEvolveReads_any (A : Option Addr) (n c : Nat) (l : List UInt8) (w : World) (h : RowAt w A n (bcells l)) (hc : n ≤ c) (hcm : c ≤ maxLen) :
    Calls Tryd.prog 4 #[.slice A n c] w (FourDr w) := by
  go_enter Tryd.func4, Tryd.ntmps4
  go_wp2_with fail
  refine (l6Open_any A n c l w h hc hcm).mono ?_
  rintro e w0 ⟨g, rfl, hR, hgb, hb0⟩
  have HR := Lib.hid hR
  have Hb0 := Lib.hid hb0
  clear hR h hb0
  go_wp2_with fail
  refine (l91Older_any g 0 _ HR.out (by omega)).mono ?_
  rintro e w1 ⟨a, b, c', d, q, rfl, ha, hb, hc', hd, _, _, hg1⟩
  have Hb1 := Lib.hid (below_dgrown Hb0.out hg1 hgb)
  clear hg1
  go_wp2_with fail
  refine bodyPost_ret (v := .tuple #[.string ⟨a.toArray⟩, .string ⟨b.toArray⟩, .string ⟨c'.toArray⟩, .string ⟨d.toArray⟩]) (by simp [results, Tryd.results4, go_sem]) rfl ?_
  exact ⟨a, b, c', d, rfl, ha, by omega, by omega, by omega, Hb1.out⟩
end Go.Proofs.YtcjfgbcdlcdeaaaDoor
/- 'append(v, u...)' of a row of the call's own behind a row of the call's own; the operation may be guarded. -/
namespace Go.Proofs.YtcjfgbcdlcdeaaaDoor
open Go.RowKit

section
variable {P : Program}
theorem wpList_want {ops : Array Oper} {rest : List Oper} {o : Oper} {a : Act} {Q : Exit → Act → World → Prop} {w : World} (hw : Region.wanted o (yielded ops a.tmps) = true)
    (h : o.wp P a w (wpList P ops Q rest) Q) : wpList P ops Q (o :: rest) a w := by
  unfold wpList
  rw [if_pos hw]
  exact .inl h

theorem wpList_appN (w : World) {ops : Array Oper} {rest : List Oper} {o : Oper} {a : Act} {Q : Exit → Act → World → Prop} (hwant : Region.wanted o (yielded ops a.tmps) = true) (s x : Operand) (t : TypeId)
    (ho : o.op = .call { callee := .builtin .append, args := #[s, x], argTypes := #[t, t] })
    (base b2 : Nat) (e : TypeId) (z : Value) (bytes : Nat) (ht : P.underlying t = some (.slice e)) (hinfo : (P.info? e).map (fun i => (i.zero, i.size, i.bytes)) = some (some z, 1, bytes))
    (hzs : z.cells.size = 1) (v : Value) (n : Nat) (xs : List Value) (hs : a.eval s = v) (hown : w.ownsRow base e 1 v n xs)
    (u : Value) (m : Nat) (ys : List Value) (hx : a.eval x = u) (hrow : w.ownsRow b2 e 1 u m ys) (h1 : ∀ y ∈ ys, y.oneCell' = true)
    (h63 : n + m ≤ maxLen) (hbytes : (n + m) * bytes ≤ 140737488355328) (hbase : base ≤ w.heap.size)
    (h : ∀ v' w', w'.ownsRow base e 1 v' (n + m) (xs ++ ys) → Below base w w' → w.grownBy w' v.ownBlock → wpList P ops Q rest (a.put o.dst v') w') : wpList P ops Q (o :: rest) a w := by
  obtain ⟨i0, hi, hz0, hz1, hz2⟩ := info_parts hinfo
  refine wpList_want hwant ?_
  rcases hrow.2 with ⟨rfl, rfl⟩ | ⟨g, cap, cur, rfl, hb, hh, hnc, hcm, hcs, htk⟩
  · have hy : ys = [] := List.eq_nil_of_length_eq_zero (by have := hrow.1; simpa using this)
    subst hy
    have hrun := run_append_owned_none (P := P) (w := w) base t o.type e i0 1 ht hi v n xs hown
    unfold Oper.wp
    simp [execOp, ho, resolve, invoke, builtin, hs, hx, hrun, Result.andThen]
    exact h v w (by simpa using hown) (Below.refl _ _) (World.grownBy.refl _ _)
  · refine wp_append_own w s x t ho base e i0 z 1 bytes ht hi hz0 hz1 hz2 hzs (by decide) v n xs hs hown ⟨g, 0, none⟩ m cap ys hx hrow.1 (hrow.cells (g := g) rfl) h1 h63 hbytes hbase ?_
    intro v' w' h2 h3 _
    exact h v' w' h2 ((Below.refl base w).grown h3 hbase (fun k hk => (hown.lt k hk).1)) h3
end

theorem scells_one (ls : List (List UInt8)) : ∀ y ∈ scells ls, y.oneCell' = true := by
  intro y hy
  obtain ⟨l, _, rfl⟩ := List.mem_map.1 hy
  rfl
theorem scells_append (a b : List (List UInt8)) : scells (a ++ b) = scells a ++ scells b := by simp [scells]
end Go.Proofs.YtcjfgbcdlcdeaaaDoor
/- readType of the program: a line with fields. -/
namespace Go.Proofs.YtcjfgbcdlcdeaaaDoor
open Go.RowKit
set_option maxRecDepth 100000
set_option linter.unusedVariables false
set_option linter.unusedSimpArgs false
attribute [local go_sem] ba_get ba_toList ba_extract take_drop_all ByteArray.mk_append_mk

set_option maxHeartbeats 2000000 in
theorem iType_full (c : UInt8) (r nm rest : List UInt8) (w : World) (hs : r.length ≤ 3999999) (hc : sortOk c) (h : cutL 61 r = (nm, rest, true)) (hn : nameOk nm = true) (hr : rest ≠ []) :
    Calls Tryd.prog 44 #[.string ⟨(c :: r).toArray⟩] w (ItPost (typeI (c :: r)) w) := by
  have HF := Lib.hid (typeI_fields hc h hn hr)
  have Hc := Lib.hid (fun W => (show Calls Tryd.prog 58 #[.string ⟨#[82, 85, 69]⟩, .string ⟨#[c]⟩] W fun e w' => e = .returned (.bool true) ∧ W = w' from by
    have := Contains_any [82, 85, 69] c W
    rw [sort_mem, decide_eq_true hc] at this
    exact this))
  have Hcut := Lib.hid (fun W => Cut_any r 61 W (by omega))
  have hcl := cutL_len 61 r
  have Hcut2 := Lib.hid h
  rw [h] at Hcut hcl
  simp only at hcl
  have hcl1 := hcl.1
  have hcl2 := hcl.2
  have Hname := Lib.hid (fun W => isName_any nm W (by omega))
  rw [hn] at Hname
  have Hsp := Lib.hid (fun W => Split_any rest 44 W (by omega))
  have hne := splitL_ne 44 rest
  have Hpl := Lib.hid (splitL_plen 44 rest)
  have Hln := Lib.hid (splitL_len 44 rest)
  generalize splitL 44 rest = ps at HF Hsp hne Hpl Hln
  have Hcs := Lib.hid hc
  have hpsl : ps.length ≤ 4000000 := by have := Hln.out; omega
  have hr1 : rest.isEmpty = false := by simpa using hr
  have hr2 : (rest == []) = false := by simpa using hr
  clear h hn hr hc hcl
  go_enter Tryd.func44, Tryd.ntmps44
  go_wp2_with fail
  refine (Hc.out _).mono ?_
  rintro e w' ⟨rfl, rfl⟩
  go_wp2_with fail
  refine (Hcut.out _).mono ?_
  rintro e w1 ⟨rfl, k1, rfl⟩
  unfold cutV
  go_wp2_with fail
  refine (Hname.out _).mono ?_
  rintro e w2 ⟨rfl, hb2⟩
  have Hb2 := Lib.hid (show Below w.heap.size w w2 from (below_drewN (Below.refl _ _) k1).trans (by simpa using hb2))
  have hz2 := Hb2.out.size
  clear hb2
  go_wp2_with fail
  refine (Hsp.out _).mono ?_
  rintro e w3 ⟨v, rfl, ho, hb3⟩
  obtain ⟨g, cg, rfl, hg1, hg2, hcells⟩ := own_texts ho hne
  have hg1' : w2.heap.size + 1 ≤ g := by simpa using hg1
  have hz3 : w2.heap.size < w3.heap.size := by omega
  have HT0 := Lib.hid (show w3.rangeAt w2.heap.size 0 [.int .u8 (c.toNat : Int), .string ⟨nm.toArray⟩, .slice none 0 0, .string ⟨(c :: r).toArray⟩] from rangeAt_below (rangeAt_new w2 _ _) (by simp) hb3)
  have HK0 := Lib.hid (show w3.there w2.heap.size 0 4 from there_below (there_new w2 [.int .u8 (c.toNat : Int), .string ⟨nm.toArray⟩, .slice none 0 0, .string ⟨(c :: r).toArray⟩] _) (by simp) hb3)
  have HB0 := Lib.hid (show Blk w3 w2.heap.size from (Blk.new w2 _ _).belowAt (by simp) hb3)
  have Hb3 := Lib.hid (show Below w.heap.size w w3 from (Hb2.out.alloc Hb2.out.size _).trans (hb3.mono (by simp; omega)))
  have Hcells := Lib.hid (show ∀ j (hj : j < ps.length), w3.cell? ⟨g, j, none⟩ = some (.string ⟨ps[j].toArray⟩) from hcells)
  have Hown0 := Lib.hid (World.ownsRow_nil w3 w3.heap.size 104 6)
  clear ho hb3 hcells hg1 hne
  go_wp2_with fail
  go_loopw [53] (fun i wr => ∃ (k : Nat) (acc : List Fd) (fv : Value), i = .int .i64 k ∧ k ≤ ps.length ∧ acc.length ≤ 8 ∧ Hid (typeI (c :: r) = finP c nm (fieldsI c (ps.drop k) acc)) ∧
      Hid (wr.ownsRow w3.heap.size 104 6 fv acc.length (acc.flatMap ifc)) ∧ Hid (Below w.heap.size w wr) ∧ w3.heap.size ≤ wr.heap.size ∧
      Hid (∀ j (hj : j < ps.length), wr.cell? ⟨g, j, none⟩ = some (.string ⟨ps[j].toArray⟩)) ∧
      Hid (wr.rangeAt w2.heap.size 0 [.int .u8 (c.toNat : Int), .string ⟨nm.toArray⟩, fv, .string ⟨(c :: r).toArray⟩]) ∧ Hid (wr.there w2.heap.size 0 4) ∧ Hid (Blk wr w2.heap.size)) (fun i _ => ps.length - (intOf i).toNat)
  case atStart => exact ⟨0, [], .slice none 0 0, rfl, Nat.zero_le _, by simp, HF.out, Hown0.out, Hb3.out, Nat.le_refl _, Hcells.out, HT0.out, HK0.out, HB0.out⟩
  case round =>
    obtain ⟨wo, rfl⟩ : ∃ wo : World, wo = wr := ⟨_, rfl⟩
    obtain ⟨k, acc, fv, rfl, hk, ha8, hft, hown, hbr, hzr, hpr, hT, hK, hB⟩ := hrel
    have i1 : (0 : Int) ≤ (k : Int) := by omega
    obtain ⟨A, cA, rfl, hrow⟩ := RowAt.ownK hown.out (by unfold maxLen; omega)
    have Hrow := Lib.hid hrow
    have t0 : wo.cell? ⟨w2.heap.size, 0, none⟩ = some (.int .u8 (c.toNat : Int)) := by simpa using rangeAt_cell hT.out 0 rfl
    have t2 : wo.cell? ⟨w2.heap.size, 2, none⟩ = some (.slice A acc.length cA) := by simpa using rangeAt_cell hT.out 2 rfl
    clear hrow
    by_cases hlt : k < ps.length
    · have i2 : (k : Int) < (ps.length : Int) := by omega
      have cell := hpr.out k hlt
      have hft2 := Lib.hid ((fieldsI_step (c := c) (acc := acc) hlt) ▸ hft.out)
      have hplk := Hpl.out _ (List.getElem_mem hlt)
      generalize ps[k] = p at cell hft2 hplk
      have Hread := Lib.hid (fun W => readField_any c Hcs.out p W (by omega))
      generalize fieldI c p = o at hft2 Hread
      go_wp2_with fail
      refine (Hread.out _).mono ?_
      rintro e w4 ⟨hcase, hb4⟩
      have Hb4 := Lib.hid (hbr.out.trans (hb4.mono hbr.out.size))
      cases o with
      | none =>
        obtain ⟨n, a1, a2, a3, a4, a5, rfl⟩ := hcase
        have Hend := Lib.hid (show typeI (c :: r) = none from hft2.out)
        go_wp2_with fail
        go_ret2
        exact ItPost.no Hend.out rfl (Hb4.out.alloc Hb4.out.size _)
      | some f =>
        have hcase' : e = .returned (.tuple #[.agg #[.int .i64 (f.tag : Int), .string ⟨f.name.toArray⟩, .string ⟨f.kind.signs.toArray⟩, .string ⟨f.kind.base.toArray⟩, .string ⟨f.kind.name.toArray⟩, .string ⟨f.given.toArray⟩], .bool true]) := hcase
        subst hcase'
        clear hcase
        have s0 := (hb4.cell (p := ⟨w2.heap.size, 0, none⟩) (show w2.heap.size < wo.heap.size by omega)).trans t0
        have s2 := (hb4.cell (p := ⟨w2.heap.size, 2, none⟩) (show w2.heap.size < wo.heap.size by omega)).trans t2
        have hz4 : wo.heap.size ≤ w4.heap.size := hb4.size
        have hn4 : ¬ (w2.heap.size = w4.heap.size) := by omega
        have hn5 : w2.heap.size < w4.heap.size := by omega
        have Hb4r := Lib.hid hb4
        clear t0 t2 hb4
        have hft3 := Lib.hid (show typeI (c :: r) = finP c nm (if acc.length = 8 ∨ fitsIn acc f = false then none else fieldsI c (ps.drop (k + 1)) (acc ++ [f])) from hft2.out)
        clear hft2
        rcases Nat.eq_or_lt_of_le ha8 with h8 | h8
        · have q1 : ((acc.length : Int) == 8) = true := by simp [h8]
          have Hend := Lib.hid (hft3.out.trans (by rw [if_pos (.inl h8)]))
          clear h8
          go_wp2_with fail
          go_ret2
          exact ItPost.no Hend.out rfl (Hb4.out.alloc Hb4.out.size _)
        · have q1 : ((acc.length : Int) == 8) = false := by rw [beq_eq_false_iff_ne]; omega
          go_wp2_with fail
          have f0 : (w4.alloc (.cells #[.int .i64 (f.tag : Int), .string ⟨f.name.toArray⟩, .string ⟨f.kind.signs.toArray⟩, .string ⟨f.kind.base.toArray⟩, .string ⟨f.kind.name.toArray⟩, .string ⟨f.given.toArray⟩] 104)).cell? ⟨w4.heap.size, 0, none⟩ = some (.int .i64 (f.tag : Int)) := by simp
          have f1 : (w4.alloc (.cells #[.int .i64 (f.tag : Int), .string ⟨f.name.toArray⟩, .string ⟨f.kind.signs.toArray⟩, .string ⟨f.kind.base.toArray⟩, .string ⟨f.kind.name.toArray⟩, .string ⟨f.given.toArray⟩] 104)).cell? ⟨w4.heap.size, 1, none⟩ = some (.string ⟨f.name.toArray⟩) := by simp
          have HR0 := Lib.hid (rangeAt_new w4 [.int .i64 (f.tag : Int), .string ⟨f.name.toArray⟩, .string ⟨f.kind.signs.toArray⟩, .string ⟨f.kind.base.toArray⟩, .string ⟨f.kind.name.toArray⟩, .string ⟨f.given.toArray⟩] 104)
          go_loopw [81] (fun jj wq => ∃ j : Nat, jj = .int .i64 j ∧ j ≤ acc.length ∧ Hid (∀ x ∈ acc.take j, x.name ≠ f.name ∧ x.tag < f.tag) ∧ Hid (Below w4.heap.size w4 wq) ∧ w4.heap.size < wq.heap.size ∧ Hid (wq.rangeAt w4.heap.size 0 [.int .i64 (f.tag : Int), .string ⟨f.name.toArray⟩, .string ⟨f.kind.signs.toArray⟩, .string ⟨f.kind.base.toArray⟩, .string ⟨f.kind.name.toArray⟩, .string ⟨f.given.toArray⟩])) (fun jj _ => acc.length - (intOf jj).toNat)
          case atStart => exact ⟨0, rfl, Nat.zero_le _, by intro x hx; simp at hx, (Below.refl _ _).alloc (Nat.le_refl _) _, by simp, HR0.out⟩
          case round =>
            clear f0 f1
            obtain ⟨j, rfl, hj, hin, hbq, hzq, hfr⟩ := hrel
            have j1 : (0 : Int) ≤ (j : Int) := by omega
            have f0 : wr.cell? ⟨w4.heap.size, 0, none⟩ = some (.int .i64 (f.tag : Int)) := by simpa using rangeAt_cell hfr.out 0 rfl
            have f1 : wr.cell? ⟨w4.heap.size, 1, none⟩ = some (.string ⟨f.name.toArray⟩) := by simpa using rangeAt_cell hfr.out 1 rfl
            have hnq : ¬ (w4.heap.size = wr.heap.size) := by omega
            have Hbq := Lib.hid (Hb4.out.trans (hbq.out.mono Hb4.out.size))
            by_cases hjl : j < acc.length
            · have j2 : (j : Int) < (acc.length : Int) := by omega
              obtain ⟨bA, oA, rfl, hbA, hrg⟩ := IFds.range ((Hrow.out.below Hb4r.out).below hbq.out) hjl
              have Hts := Lib.hid (take_snoc acc j hjl)
              have Hmem := Lib.hid (List.getElem_mem hjl)
              have Hrg := Lib.hid (show wr.rangeAt bA (oA + j * 6) [.int .i64 (acc[j].tag : Int), .string ⟨acc[j].name.toArray⟩, .string ⟨acc[j].kind.signs.toArray⟩, .string ⟨acc[j].kind.base.toArray⟩, .string ⟨acc[j].kind.name.toArray⟩, .string ⟨acc[j].given.toArray⟩] from hrg)
              clear hrg
              generalize acc[j] = x at Hts Hmem Hrg
              rcases Decidable.em (x.name = f.name) with hnm | hnm
              · have q2 : (x.name == f.name) = true := by simp [hnm]
                have Hend := Lib.hid (hft3.out.trans (by rw [if_pos (.inr (fits_no' Hmem.out (.inr hnm)))]))
                clear hnm
                go_wp2_with ((with_reducible refine wpList_load_mid (op := ⟨_, .load 104 _, _, _, _, none⟩) rfl 104 _ rfl bA (oA + j * 6) ?_ _ _ Hrg.out Tryd.underlying104 ?_ ?_ ?_); rfl; rfl; kernel_rfl)
                go_ret2
                exact ItPost.no Hend.out rfl (Hbq.out.alloc Hbq.out.size _)
              · have q2 : (x.name == f.name) = false := by simp [hnm]
                rcases Nat.lt_or_ge x.tag f.tag with ht | ht
                · have q3 : decide ((f.tag : Int) ≤ (x.tag : Int)) = false := by rw [decide_eq_false_iff_not]; omega
                  have Hin := Lib.hid (show ∀ y ∈ acc.take (j + 1), y.name ≠ f.name ∧ y.tag < f.tag from by
                    intro y hy
                    rw [Hts.out] at hy
                    rcases List.mem_append.1 hy with hy | hy
                    · exact hin.out y hy
                    · simp at hy; subst hy; exact ⟨hnm, ht⟩)
                  clear hnm
                  go_wp2_with ((with_reducible refine wpList_load_mid (op := ⟨_, .load 104 _, _, _, _, none⟩) rfl 104 _ rfl bA (oA + j * 6) ?_ _ _ Hrg.out Tryd.underlying104 ?_ ?_ ?_); rfl; rfl; kernel_rfl)
                  go_roundw
                  case rel => exact ⟨j + 1, by go_num, by omega, Hin.out, hbq.out.alloc (Nat.le_of_lt hzq) _, by simp; omega, rangeAt_below hfr.out hzq ((Below.refl wr.heap.size wr).alloc (Nat.le_refl _) _)⟩
                  case measure => simp [intOf]; omega
                · have q3 : decide ((f.tag : Int) ≤ (x.tag : Int)) = true := by rw [decide_eq_true_iff]; omega
                  have Hend := Lib.hid (hft3.out.trans (by rw [if_pos (.inr (fits_no' Hmem.out (.inl ht)))]))
                  clear hnm
                  go_wp2_with ((with_reducible refine wpList_load_mid (op := ⟨_, .load 104 _, _, _, _, none⟩) rfl 104 _ rfl bA (oA + j * 6) ?_ _ _ Hrg.out Tryd.underlying104 ?_ ?_ ?_); rfl; rfl; kernel_rfl)
                  go_ret2
                  exact ItPost.no Hend.out rfl (Hbq.out.alloc Hbq.out.size _)
            · have j2 : ¬ (j : Int) < (acc.length : Int) := by omega
              have Hft4 := Lib.hid (show typeI (c :: r) = finP c nm (fieldsI c (ps.drop (k + 1)) (acc ++ [f])) from by
                rw [hft3.out, if_neg]
                rintro (h | h)
                · omega
                · rw [fitsIn_all (fun y hy => hin.out y (by rw [List.take_of_length_le (by omega)]; exact hy))] at h; cases h)
              have hb1 : Below wo.heap.size wo wr := Hb4r.out.trans (hbq.out.mono hz4)
              have Hown := Lib.hid (ownsRow_below hown.out hb1)
              have Hpr := Lib.hid (show ∀ j (hj : j < ps.length), wr.cell? ⟨g, j, none⟩ = some (.string ⟨ps[j].toArray⟩) from fun j hj => (hb1.cell (p := ⟨g, j, none⟩) (show g < wo.heap.size by omega)).trans (hpr.out j hj))
              have HT1 := Lib.hid (rangeAt_below hT.out (show w2.heap.size < wo.heap.size by omega) hb1)
              have HB1 := Lib.hid (hB.out.belowAt (show w2.heap.size < wo.heap.size by omega) hb1)
              have HK1 := Lib.hid (there_below hK.out (show w2.heap.size < wo.heap.size by omega) hb1)
              have hz5 : w3.heap.size ≤ wr.heap.size := by omega
              have hz6 : w.heap.size ≤ w3.heap.size := by omega
              clear hb1 f0 f1
              go_wp2_with fail
              refine wp_region_slots3 [98, 99, 100, 101, 102, 103, 104, 105, 106, 107, 999] (by kernel_rfl) (by kernel_rfl) (by kernel_rfl) (fun u => by dsimp only [frameOf, setMany, List.set, Nat.zero_add, Nat.reduceAdd])
                (fun i v W => match i with | 0 => v = .pointer (some ⟨w2.heap.size, 0, none⟩) | 1 => v = .pointer (some ⟨w2.heap.size, 0, none⟩) | 2 => v = .pointer (some ⟨w2.heap.size, 0, none⟩) | 3 => v = .pointer (some ⟨w2.heap.size, 2, none⟩) | 4 => v = .slice A acc.length cA | 5 => v = .agg #[.int .i64 (f.tag : Int), .string ⟨f.name.toArray⟩, .string ⟨f.kind.signs.toArray⟩, .string ⟨f.kind.base.toArray⟩, .string ⟨f.kind.name.toArray⟩, .string ⟨f.given.toArray⟩] | 8 => v = .pointer (some ⟨w2.heap.size, 0, none⟩) | 9 => v = .pointer (some ⟨w2.heap.size, 2, none⟩) | _ => True)
                (fun L U W => Below w.heap.size w W ∧ w3.heap.size ≤ W.heap.size ∧ (∀ j (hj : j < ps.length), W.cell? ⟨g, j, none⟩ = some (.string ⟨ps[j].toArray⟩)) ∧ (W.there w2.heap.size 0 4 ∧ Blk W w2.heap.size) ∧
                  (L 10 = false → W.rangeAt w2.heap.size 0 [.int .u8 (c.toNat : Int), .string ⟨nm.toArray⟩, .slice A acc.length cA, .string ⟨(c :: r).toArray⟩]) ∧ (L 10 = true → W.rangeAt w2.heap.size 0 [.int .u8 (c.toNat : Int), .string ⟨nm.toArray⟩, U 7, .string ⟨(c :: r).toArray⟩]) ∧
                  (L 5 = false → W.rangeAt w4.heap.size 0 [.int .i64 (f.tag : Int), .string ⟨f.name.toArray⟩, .string ⟨f.kind.signs.toArray⟩, .string ⟨f.kind.base.toArray⟩, .string ⟨f.kind.name.toArray⟩, .string ⟨f.given.toArray⟩]) ∧ (L 7 = false → W.ownsRow w3.heap.size 104 6 (.slice A acc.length cA) acc.length (acc.flatMap ifc)) ∧ (L 7 = true → W.ownsRow w3.heap.size 104 6 (U 7) (acc.length + 1) (acc.flatMap ifc ++ ifc f)) ∧
                  (L 6 = true → L 7 = false → ∃ q, U 6 = .slice (some ⟨q, 0, none⟩) 1 1 ∧ W.rangeAt q 0 [.int .i64 (f.tag : Int), .string ⟨f.name.toArray⟩, .string ⟨f.kind.signs.toArray⟩, .string ⟨f.kind.base.toArray⟩, .string ⟨f.kind.name.toArray⟩, .string ⟨f.given.toArray⟩]))
                (fun _ _ => True) (fun w w' _ i v h => by revert h; exact fun h => h) ⟨Hbq.out.drew, hz5, Hpr.out, ⟨HK1.out, HB1.out⟩, fun _ => HT1.out, by simp, fun _ => hfr.out, fun _ => Hown.out, by simp, by simp⟩ ?_ ?_
              · repeat (first | exact Steps.nil | (refine Steps.cons ?_ ?_; rotate_left))
                all_goals
                  rintro L U W hL hpre hR hun hdep K hK
                  have Hdep := Lib.hid hdep
                  have HR := Lib.hid hR
                  clear hun hdep hR
                  first | (simp [Region.binds] at hpre; done) | simp [Region.binds] at hpre | clear hpre
                · go_simp
                  exact hK _ _ _ rfl trivial HR.out rfl
                · go_simp
                  exact hK _ _ _ rfl trivial HR.out rfl
                · have u1 := hpre.2
                  go_simp
                  exact hK (.pointer (some ⟨w2.heap.size, 0, none⟩)) _ _ rfl trivial HR.out (by simp [Act.put, u1])
                · have u2 := hpre.2
                  go_simp
                  exact hK (.pointer (some ⟨w2.heap.size, 2, none⟩)) _ _ rfl trivial HR.out (by simp [Act.put, u2])
                · have h10 := (Hdep.out 10 _ rfl { on := 7, ground := Ground.data } (by simp) (by rfl) (Hdep.out 7 _ rfl { on := 4, ground := Ground.data } (by simp) (by rfl) hL))
                  obtain ⟨r1, r2, r3, r4, r5, r6, r7, r8, r9, r0⟩ := HR.out
                  have u3 := hpre.2
                  have c2 : W.cell? ⟨w2.heap.size, 2, none⟩ = some (.slice A acc.length cA) := by simpa using rangeAt_cell (r5 h10) 2 rfl
                  clear r1 r2 r3 r4 r5 r6 r7 r8 r9 r0
                  go_simp
                  exact hK (.slice A acc.length cA) _ _ rfl trivial HR.out (by simp [Act.put, u3])
                · obtain ⟨r1, r2, r3, r4, r5, r6, r7, r8, r9, r0⟩ := HR.out
                  rw [if_pos (by rfl)]
                  refine wp_load_mid 104 _ rfl w4.heap.size 0 rfl [.int .i64 (f.tag : Int), .string ⟨f.name.toArray⟩, .string ⟨f.kind.signs.toArray⟩, .string ⟨f.kind.base.toArray⟩, .string ⟨f.kind.name.toArray⟩, .string ⟨f.given.toArray⟩] _ (r7 hL) Tryd.underlying104 rfl (by kernel_rfl) ?_
                  exact hK (.agg ([.int .i64 (f.tag : Int), .string ⟨f.name.toArray⟩, .string ⟨f.kind.signs.toArray⟩, .string ⟨f.kind.base.toArray⟩, .string ⟨f.kind.name.toArray⟩, .string ⟨f.given.toArray⟩] : List Value).toArray) _ _ rfl trivial ⟨r1, r2, r3, r4, r5, r6, fun h => by simp at h, r8, r9, r0⟩ rfl
                · obtain ⟨r1, r2, r3, r4, r5, r6, r7, r8, r9, r0⟩ := HR.out
                  have R1 := Lib.hid r1
                  have u5 := hpre.2
                  have HF5 := Lib.hid (rangeAt_new W [.int .i64 (f.tag : Int), .string ⟨f.name.toArray⟩, .string ⟨f.kind.signs.toArray⟩, .string ⟨f.kind.base.toArray⟩, .string ⟨f.kind.name.toArray⟩, .string ⟨f.given.toArray⟩] 104)
                  have HRR := Lib.hid (show (∀ j (hj : j < ps.length), (W.alloc (.cells #[.int .i64 (f.tag : Int), .string ⟨f.name.toArray⟩, .string ⟨f.kind.signs.toArray⟩, .string ⟨f.kind.base.toArray⟩, .string ⟨f.kind.name.toArray⟩, .string ⟨f.given.toArray⟩] 104)).cell? ⟨g, j, none⟩ = some (.string ⟨ps[j].toArray⟩)) ∧ ((W.alloc (.cells #[.int .i64 (f.tag : Int), .string ⟨f.name.toArray⟩, .string ⟨f.kind.signs.toArray⟩, .string ⟨f.kind.base.toArray⟩, .string ⟨f.kind.name.toArray⟩, .string ⟨f.given.toArray⟩] 104)).there w2.heap.size 0 4 ∧ Blk (W.alloc (.cells #[.int .i64 (f.tag : Int), .string ⟨f.name.toArray⟩, .string ⟨f.kind.signs.toArray⟩, .string ⟨f.kind.base.toArray⟩, .string ⟨f.kind.name.toArray⟩, .string ⟨f.given.toArray⟩] 104)) w2.heap.size) ∧
                    (L 10 = false → (W.alloc (.cells #[.int .i64 (f.tag : Int), .string ⟨f.name.toArray⟩, .string ⟨f.kind.signs.toArray⟩, .string ⟨f.kind.base.toArray⟩, .string ⟨f.kind.name.toArray⟩, .string ⟨f.given.toArray⟩] 104)).rangeAt w2.heap.size 0 [.int .u8 (c.toNat : Int), .string ⟨nm.toArray⟩, .slice A acc.length cA, .string ⟨(c :: r).toArray⟩]) ∧ (L 10 = true → (W.alloc (.cells #[.int .i64 (f.tag : Int), .string ⟨f.name.toArray⟩, .string ⟨f.kind.signs.toArray⟩, .string ⟨f.kind.base.toArray⟩, .string ⟨f.kind.name.toArray⟩, .string ⟨f.given.toArray⟩] 104)).rangeAt w2.heap.size 0 [.int .u8 (c.toNat : Int), .string ⟨nm.toArray⟩, U 7, .string ⟨(c :: r).toArray⟩]) ∧
                    (L 5 = false → (W.alloc (.cells #[.int .i64 (f.tag : Int), .string ⟨f.name.toArray⟩, .string ⟨f.kind.signs.toArray⟩, .string ⟨f.kind.base.toArray⟩, .string ⟨f.kind.name.toArray⟩, .string ⟨f.given.toArray⟩] 104)).rangeAt w4.heap.size 0 [.int .i64 (f.tag : Int), .string ⟨f.name.toArray⟩, .string ⟨f.kind.signs.toArray⟩, .string ⟨f.kind.base.toArray⟩, .string ⟨f.kind.name.toArray⟩, .string ⟨f.given.toArray⟩]) ∧ (L 7 = false → (W.alloc (.cells #[.int .i64 (f.tag : Int), .string ⟨f.name.toArray⟩, .string ⟨f.kind.signs.toArray⟩, .string ⟨f.kind.base.toArray⟩, .string ⟨f.kind.name.toArray⟩, .string ⟨f.given.toArray⟩] 104)).ownsRow w3.heap.size 104 6 (.slice A acc.length cA) acc.length (acc.flatMap ifc)) ∧ (L 7 = true → (W.alloc (.cells #[.int .i64 (f.tag : Int), .string ⟨f.name.toArray⟩, .string ⟨f.kind.signs.toArray⟩, .string ⟨f.kind.base.toArray⟩, .string ⟨f.kind.name.toArray⟩, .string ⟨f.given.toArray⟩] 104)).ownsRow w3.heap.size 104 6 (U 7) (acc.length + 1) (acc.flatMap ifc ++ ifc f))
                    from ⟨fun j hj => by rw [World.cell?_alloc_old _ _ _ (show g ≠ W.heap.size by omega)]; exact r3 j hj, ⟨World.there_alloc r4.1 _, r4.2.belowAt (show w2.heap.size < W.heap.size by omega) ((Below.refl _ _).alloc (Nat.le_refl _) _)⟩, fun h => World.rangeAt_alloc (r5 h) _, fun h => World.rangeAt_alloc (r6 h) _, fun h => World.rangeAt_alloc (r7 h) _, fun h => (r8 h).alloc _, fun h => (r9 h).alloc _⟩)
                  clear r1 r3 r4 r5 r6 r7 r8 r9 r0
                  go_simp
                  refine hK (.slice (some ⟨W.heap.size, 0, none⟩) 1 1) _ _ trivial trivial ⟨R1.out.alloc R1.out.size _, by simp; omega, HRR.out.1, HRR.out.2.1, HRR.out.2.2.1, HRR.out.2.2.2.1, HRR.out.2.2.2.2.1, HRR.out.2.2.2.2.2.1, HRR.out.2.2.2.2.2.2, fun _ _ => ⟨W.heap.size, rfl, HF5.out⟩⟩ (by simp [Act.put, u5])
                · obtain ⟨r1, r2, r3, r4, r5, r6, r7, r8, r9, r0⟩ := HR.out
                  have h10 := (Hdep.out 10 _ rfl { on := 7, ground := Ground.data } (by simp) (by rfl) hL)
                  have h7 := r8 hL
                  obtain ⟨q, e1, e2⟩ := r0 hpre.2 hL
                  obtain ⟨i0, hi, hz0, hz1, hz2'⟩ := info_parts Tryd.infoIf
                  rw [if_pos (by rfl)]
                  refine wp_append_own W (.tmp 102) (.tmp 104) 100 rfl w3.heap.size 104 i0 (.agg #[.int .i64 0, .string ⟨#[]⟩, .string ⟨#[]⟩, .string ⟨#[]⟩, .string ⟨#[]⟩, .string ⟨#[]⟩]) 6 88 Tryd.underlying100 hi hz0 hz1 hz2' rfl (by decide) (.slice A acc.length cA) acc.length (acc.flatMap ifc) hpre.1.2 h7 ⟨q, 0, none⟩ 1 1 (ifc f) e1 (by simp [ifc]) ?_ (fun y hy => ifc_one [f] y (by simpa using hy)) (by unfold maxLen; omega) (by omega) r2 ?_
                  · intro i x hx
                    rw [addr0]
                    have := e2 i x hx
                    simpa using this
                  · intro v' w' hown' hgr _
                    have hbw : Below w3.heap.size W w' := (Below.refl _ _).grown hgr r2 (fun k hk => (h7.lt k hk).1)
                    refine hK v' w' _ trivial trivial ⟨r1.trans (hbw.mono hz6), Nat.le_trans r2 hbw.size, fun j hj => (hbw.cell (p := ⟨g, j, none⟩) (show g < w3.heap.size by omega)).trans (r3 j hj), ⟨there_below r4.1 hz3 hbw, r4.2.belowAt hz3 hbw⟩, fun h => rangeAt_below (r5 h) hz3 hbw, fun h => absurd h10 (by rw [show L 10 = true from h]; decide), fun h => absurd hpre.2 (by rw [Hdep.out 6 _ rfl { on := 5, ground := Ground.data } (by simp) (by rfl) h]; decide), fun h => by simp at h, fun _ => hown', fun _ h => by simp at h⟩ rfl
                · have u0 := hpre.1.2
                  go_simp
                  exact hK (.pointer (some ⟨w2.heap.size, 0, none⟩)) _ _ rfl trivial HR.out (by simp [Act.put, hpre])
                · have u8 := hpre.2
                  go_simp
                  exact hK (.pointer (some ⟨w2.heap.size, 2, none⟩)) _ _ rfl trivial HR.out (by simp [Act.put, hpre])
                · obtain ⟨r1, r2, r3, r4, r5, r6, r7, r8, r9, r0⟩ := HR.out
                  have R1 := Lib.hid r1
                  have l7 : L 7 = true := by first | exact hpre.2.1 | exact hpre.2.1.1
                  have h5 := r5 hL
                  have h9 := r9 l7
                  obtain ⟨A7, n7, c7, e7⟩ := own_slice h9
                  rw [e7] at h9
                  obtain ⟨y2, c2⟩ := Option.isSome_iff_exists.1 (r4.1 2 (by decide)).1
                  rw [Nat.zero_add] at c2
                  have z2 : W.frozen? ⟨w2.heap.size, 2, none⟩ = false := by simpa using (r4.1 2 (by decide)).2
                  have hT10 := Lib.hid (show (W.setCell ⟨w2.heap.size, 2, none⟩ (.slice A7 n7 c7)).rangeAt w2.heap.size 0 [.int .u8 (c.toNat : Int), .string ⟨nm.toArray⟩, (.slice A7 n7 c7), .string ⟨(c :: r).toArray⟩] from rangeAt_setCells_in [.int .u8 (c.toNat : Int), .string ⟨nm.toArray⟩] [.slice A acc.length cA] [.string ⟨(c :: r).toArray⟩] [.slice A7 n7 c7] h5 rfl)
                  have hK10 := Lib.hid (show (W.setCell ⟨w2.heap.size, 2, none⟩ (.slice A7 n7 c7)).there w2.heap.size 0 4 from World.there_setCells r4.1 w2.heap.size 2 [.slice A7 n7 c7])
                  have hBk10 := Lib.hid (r4.2.set (o := 2) (.slice A7 n7 c7))
                  have hP10 := Lib.hid (show ∀ j (hj : j < ps.length), (W.setCell ⟨w2.heap.size, 2, none⟩ (.slice A7 n7 c7)).cell? ⟨g, j, none⟩ = some (.string ⟨ps[j].toArray⟩) from fun j hj => by
                    rw [World.cell?_setCell_other _ _ _ _ (by intro e; injection e with e; omega)]; exact r3 j hj)
                  have hO10 := Lib.hid (show (W.setCell ⟨w2.heap.size, 2, none⟩ (.slice A7 n7 c7)).ownsRow w3.heap.size 104 6 (.slice A7 n7 c7) (acc.length + 1) (acc.flatMap ifc ++ ifc f) from h9.kept (grown_set W _ (.slice A7 n7 c7)) (.inr (fun e => by have := (h9.lt _ e).1; simp at this; omega)))
                  have hz10 : w3.heap.size ≤ (W.setCell ⟨w2.heap.size, 2, none⟩ (.slice A7 n7 c7)).heap.size := by simpa using r2
                  have hB10 := Lib.hid (show Below w.heap.size w (W.setCell ⟨w2.heap.size, 2, none⟩ (.slice A7 n7 c7)) from r1.setCell hz2 _)
                  clear r1 r3 r4 r5 r6 r7 r8 r9 r0 h5 h9
                  go_simp
                  exact hK undef _ _ trivial trivial ⟨hB10.out, hz10, hP10.out, ⟨hK10.out, hBk10.out⟩, fun h => by simp at h, fun _ => by show World.rangeAt _ _ _ [_, _, U 7, _]; rw [e7]; exact hT10.out, fun h => absurd l7 (by rw [(Hdep.out 7 _ rfl { on := 6, ground := Ground.data } (by simp) (by rfl) (Hdep.out 6 _ rfl { on := 5, ground := Ground.data } (by simp) (by rfl) h))]; decide), fun h => absurd l7 (by rw [show L 7 = false from h]; decide), fun _ => by show World.ownsRow _ _ _ _ (U 7) _ _; rw [e7]; exact hO10.out, fun _ h => absurd l7 (by rw [show L 7 = false from h]; decide)⟩ (by simp [Act.put, hpre, e7])
              · rintro L U W hL hφ hR
                obtain ⟨hbW, hzW, hprW, hKW, _, hTW, _, _, hoW, _⟩ := hR
                have hTW' := hTW (hL 10 (by decide))
                have hoW' := hoW (hL 7 (by decide))
                generalize U 7 = V at hTW' hoW'
                have HbW := Lib.hid hbW
                have HprW := Lib.hid hprW
                have HKW := Lib.hid hKW.1
                have HBW := Lib.hid hKW.2
                have HTW := Lib.hid hTW'
                have HoW := Lib.hid hoW'
                clear hL hφ hbW hprW hKW hTW hoW hTW' hoW'
                go_wp2_with fail
                go_roundw
                case rel => exact ⟨k + 1, acc ++ [f], V, by go_num, by omega, by simp; omega, Hft4.out, by rw [List.length_append, List.flatMap_append, show [f].flatMap ifc = ifc f from by simp]; exact HoW.out, HbW.out, hzW, HprW.out, HTW.out, HKW.out, HBW.out⟩
                case measure => simp [intOf]; omega
    · have i2 : ¬ (k : Int) < (ps.length : Int) := by omega
      have Hfin := Lib.hid (show typeI (c :: r) = some ⟨c, nm, acc⟩ by rw [hft.out, List.drop_of_length_le (by omega)]; rfl)
      go_wp2_with fail
      go_ret2
      refine ItPost.yes Hfin.out (b := w2.heap.size) (fv := .slice A acc.length cA) rfl hz2 ?_ (fun k hk => by have := (hown.out.lt k hk).1; omega) hbr.out
      refine ⟨show w2.heap.size < wo.heap.size by omega, hB.out, by simpa using rangeAt_cell hT.out 0 rfl, by simpa using rangeAt_cell hT.out 1 rfl, by simpa using rangeAt_cell hT.out 2 rfl, ?_, A, cA, rfl, ha8, Hrow.out⟩
      have hB := (typeI_some.1 Hfin.out).2
      show _ = some (Value.string ⟨(tyB ⟨c, nm, acc⟩).toArray⟩)
      rw [hB]
      simpa using rangeAt_cell hT.out 3 rfl

theorem readType_any (s : List UInt8) (w : World) (hs : s.length ≤ 4000000) :
    Calls Tryd.prog 44 #[.string ⟨s.toArray⟩] w (ItPost (typeI s) w) := by
  cases s with
  | nil => exact iType_nil w
  | cons c r =>
    simp at hs
    by_cases hc : sortOk c
    · by_cases h : (cutL 61 r).2.2 = false ∨ nameOk (cutL 61 r).1 = false ∨ (cutL 61 r).2.1 = []
      · exact iType_head c r w (by omega) hc h
      · simp only [not_or] at h
        exact iType_full c r (cutL 61 r).1 (cutL 61 r).2.1 w (by omega) hc (Prod.ext rfl (Prod.ext rfl (by simpa using h.1))) (by simpa using h.2.1) h.2.2
    · exact iType_sort c r w (by omega) hc
end Go.Proofs.YtcjfgbcdlcdeaaaDoor
