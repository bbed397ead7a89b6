/- Texts joined: Pick, Open, DKind, DType. Conditions: as each theorem names them. -/
import Derived.Deep.DeepCutAuto
import Derived.Laws.BitsAllLaws
import Derived.Laws.BitsLemmas
import Derived.Test.YtdhinlhafoiaiaaGreatDoorK01
import Derived.Test.YtdhinlhafoiaiaaGreatDoorK03
import Derived.Test.YtdhinlhafoiaiaaGreatDoorK24
/- The reader of codes: l6Open and pick. -/
namespace Go.Proofs.YtdhinlhafoiaiaaGreatDoor
open Go.RowKit
set_option maxRecDepth 100000
set_option linter.unusedVariables false

/-- A reader in block g, its place p: a code of at most 2000 bytes, which lies elsewhere. -/
def Rdr (w : World) (g p : Nat) : Prop :=
  ∃ A n c l, w.heap[g]? = some (.cells #[.slice A n c, .int .i64 (p : Int)] 134 (0, 0)) ∧ RowAt w A n (bcells l) ∧ n ≤ 2000 ∧ ∀ b off, A = some ⟨b, off, none⟩ → 0 < n → b < g

theorem Rdr.lt {w : World} {g p : Nat} (h : Rdr w g p) : g < w.heap.size := by
  obtain ⟨A, n, c, l, hh, _⟩ := h
  rcases Nat.lt_or_ge g w.heap.size with h1 | h1
  · exact h1
  · rw [Array.getElem?_eq_none h1] at hh; cases hh
theorem Rdr.below {w w' : World} {g p : Nat} (h : Rdr w g p) (hb : Below w.heap.size w w') : Rdr w' g p := by
  have hlt := h.lt
  obtain ⟨A, n, c, l, hh, hr, h2, h3⟩ := h
  exact ⟨A, n, c, l, (hb.block g hlt).trans hh, hr.below hb, h2, h3⟩

/-- What lies up to the reader is as it was. -/
theorem Rdr.belowg {w w' : World} {g p : Nat} (h : Rdr w g p) (hb : Below (g + 1) w w') (hs : w.heap.size ≤ w'.heap.size) : Rdr w' g p := by
  obtain ⟨A, n, c, l, hh, hr, h2, h3⟩ := h
  refine ⟨A, n, c, l, (hb.block g (by omega)).trans hh, ⟨hr.1, hr.2.1, fun hn => ?_⟩, h2, h3⟩
  obtain ⟨b, off, e, hlt, hc⟩ := hr.2.2 hn
  have := h3 b off e hn
  exact ⟨b, off, e, Nat.lt_of_lt_of_le hlt hs, fun j u hu => (hb.cell (p := ⟨b, off + j, none⟩) (by show b < g + 1; omega)).trans (hc j u hu)⟩

/-- The reader alone has turned, and what is new. -/
theorem RowAt.grown {w w' : World} {g : Nat} {A : Option Addr} {n : Nat} {xs : List Value} (h : RowAt w A n xs) (hg : w.grownBy w' (some g)) (hne : ∀ b off, A = some ⟨b, off, none⟩ → 0 < n → b ≠ g) : RowAt w' A n xs := by
  refine ⟨h.1, h.2.1, fun hn => ?_⟩
  obtain ⟨b, off, e, hlt, hc⟩ := h.2.2 hn
  refine ⟨b, off, e, Nat.lt_of_lt_of_le hlt hg.size, fun j u hu => ?_⟩
  exact (World.cell?_of_block (a := ⟨b, off + j, none⟩) (hg.block b hlt (fun h => hne b off e hn (Option.some.inj h)))).trans (hc j u hu)

theorem i64_xor_nat (a b : Nat) (ha : a < 4611686018427387904) (hb : b < 4611686018427387904) : ∃ x : Nat, bits .xor .i64 (a : Int) (b : Int) = (x : Int) ∧ x < 4611686018427387904 := by
  have hx : a ^^^ b < 2 ^ 62 := Nat.xor_lt_two_pow (by omega) (by omega)
  refine ⟨a ^^^ b, ?_, hx⟩
  show IntKind.i64.wrap ((BitVec.ofInt 64 (a : Int) ^^^ BitVec.ofInt 64 (b : Int)).toNat : Int) = _
  have ho : ∀ a : Nat, a < 4611686018427387904 → (BitVec.ofInt 64 (a : Int)).toNat = a := fun a ha => by
    rw [BitVec.ofInt_natCast, BitVec.toNat_ofNat]; exact Nat.mod_eq_of_lt (by omega)
  rw [BitVec.toNat_xor, ho a ha, ho b hb, IntKind.wrap_i64]
  omega

/-- What a call of pick leaves. -/
def PickPost (w : World) (g p : Nat) (n : Int) (e : Ending) (w' : World) : Prop :=
  ∃ x : Nat, e = .returned (.int .i64 (x : Int)) ∧ (1 ≤ n → (x : Int) < n) ∧ (n < 1 → x = 0) ∧ Rdr w' g (p + 1) ∧ w.grownBy w' (some g)

theorem pick_world {w : World} {g p : Nat} (h : Rdr w g p) (k : Nat) : Rdr ((w.setCell ⟨g, 1, none⟩ (.int .i64 ((p : Int) + 1))).drewN k) g (p + 1) ∧ w.grownBy ((w.setCell ⟨g, 1, none⟩ (.int .i64 ((p : Int) + 1))).drewN k) (some g) := by
  obtain ⟨A, n, c, l, hh, hr, h2, h3⟩ := h
  have hg : w.grownBy (w.setCell ⟨g, 1, none⟩ (.int .i64 ((p : Int) + 1))) (some g) :=
    ⟨rfl, rfl, rfl, by simp, fun k _ hk => heap_setCell_other w ⟨g, 1, none⟩ k _ (fun e => hk (by simp [e]))⟩
  have hg' : w.grownBy ((w.setCell ⟨g, 1, none⟩ (.int .i64 ((p : Int) + 1))).drewN k) (some g) := ⟨hg.os, hg.tape, hg.output, hg.size, hg.block⟩
  refine ⟨⟨A, n, c, l, ?_, hr.grown hg' (fun b off e hn => Nat.ne_of_lt (h3 b off e hn)), h2, h3⟩, hg'⟩
  have := heap_setCell_same w g 1 _ _ (.int .i64 ((p : Int) + 1)) hh
  have e : ((p + 1 : Nat) : Int) = (p : Int) + 1 := by omega
  rw [e]
  exact this

set_option maxHeartbeats 1000000 in
theorem pick_any (g p : Nat) (n : Int) (w : World) (h : Rdr w g p) (hp : p ≤ 1000000000) (hn : n ≤ 1000000000) (hn0 : -1000000000 ≤ n) :
    Calls Tryz.prog 80 #[.pointer (some ⟨g, 0, none⟩), .int .i64 n] w (PickPost w g p n) := by
  have hw := fun k => pick_world h k
  have Hw := Lib.hid hw
  clear hw
  obtain ⟨A, m, c, l, hh, hr, h2, h3⟩ := h
  have hc0 : w.cell? ⟨g, 0, none⟩ = some (.slice A m c) := by simp [World.cell?, hh]
  have hc1 : w.cell? ⟨g, 1, none⟩ = some (.int .i64 (p : Int)) := by simp [World.cell?, hh]
  have hf : w.frozen? ⟨g, 1, none⟩ = false := by simp [World.frozen?, hh]
  have Hh := Lib.hid hh
  clear hh
  by_cases hn1 : n < 1
  · have H3 := Lib.hid h3
    clear h3
    go_enter Tryz.func80, Tryz.ntmps80
    go_wp2
    go_ret
    exact ⟨0, rfl, by omega, fun _ => rfl, (Hw.out 0).1, (Hw.out 0).2⟩
  · by_cases hm : m = 0
    · have H3 := Lib.hid h3
      clear h3
      subst hm
      go_enter Tryz.func80, Tryz.ntmps80
      go_wp2
      go_ret
      exact ⟨0, rfl, by omega, fun _ => rfl, (Hw.out 0).1, (Hw.out 0).2⟩
    · have hm1 : 0 < m := by omega
      have tm : ((m : Int) == 0) = false := by simp; omega
      have hl : l.length = m := by have := hr.1; simpa [bcells] using this
      by_cases hk : p < m
      · obtain ⟨b, o, rfl, hb, hx⟩ := hr.at_ hk
        have hbg : b ≠ g := Nat.ne_of_lt (h3 b o rfl hm1)
        have hx' : w.cell? ⟨b, o + p, none⟩ = some (.int .u8 ((l[p]'(by omega)).toNat : Int)) := by rw [hx]; simp [bcells]
        have hlt := (l[p]'(by omega)).toNat_lt
        generalize (l[p]'(show p < l.length by omega)).toNat = y at hx' hlt
        clear hx h3 tm
        have tm : ((m : Int) == 0) = false := by simp; omega
        have i1 : (0 : Int) ≤ (p : Int) := by omega
        have i2 : (p : Int) < (m : Int) := by omega
        go_enter Tryz.func80, Tryz.ntmps80
        go_wp2
        go_ret
        have hn' : (0 : Int) < n := by omega
        have e1 := Int.emod_nonneg (y : Int) (show n ≠ 0 by omega)
        have e2 := Int.emod_lt_of_pos (y : Int) hn'
        exact ⟨((y : Int) % n).toNat, ret1 (vint (by omega)), by omega, by omega, (Hw.out 0).1, (Hw.out 0).2⟩
      · obtain ⟨b, o, rfl, hb, hcell⟩ := hr.2.2 hm1
        have hbg : b ≠ g := Nat.ne_of_lt (h3 b o rfl hm1)
        have m1 : p % m < m := Nat.mod_lt _ hm1
        have m2 : (p * 7 + 3) % m < m := Nat.mod_lt _ hm1
        have hx1 := hcell (p % m) _ (List.getElem?_eq_getElem (show p % m < (bcells l).length by rw [bcells_length]; omega))
        have hx2 := hcell ((p * 7 + 3) % m) _ (List.getElem?_eq_getElem (show (p * 7 + 3) % m < (bcells l).length by rw [bcells_length]; omega))
        simp only [bcells, List.getElem_map] at hx1 hx2
        have hlt1 := (l[p % m]'(by omega)).toNat_lt
        have hlt2 := (l[(p * 7 + 3) % m]'(by omega)).toNat_lt
        generalize (l[p % m]'(show p % m < l.length by omega)).toNat = y1 at hx1 hlt1
        generalize (l[(p * 7 + 3) % m]'(show (p * 7 + 3) % m < l.length by omega)).toNat = y2 at hx2 hlt2
        have M1 : ((p : Int).tmod m) = ((p % m : Nat) : Int) := by rw [Int.tmod_eq_emod_of_nonneg (by omega)]; omega
        have M2 : (((p : Int) * 7 + 3).tmod m) = (((p * 7 + 3) % m : Nat) : Int) := by rw [Int.tmod_eq_emod_of_nonneg (by omega)]; simp
        have M3 : ((p : Int).tdiv m) = ((p / m : Nat) : Int) := by rw [Int.tdiv_eq_ediv_of_nonneg (by omega)]; omega
        have m3 : p / m ≤ p := Nat.div_le_self _ _
        generalize p % m = k1 at M1 hx1 m1
        generalize (p * 7 + 3) % m = k2 at M2 hx2 m2
        generalize p / m = k3 at M3 m3
        have a1 : IntKind.i64.wrap ((y1 : Int) * 131) = (y1 : Int) * 131 := IntWalk.i64_in _ (by omega)
        have a2 : IntKind.i64.wrap ((y2 : Int) * 1117) = (y2 : Int) * 1117 := IntWalk.i64_in _ (by omega)
        have a3 : IntKind.i64.wrap ((y1 : Int) * 131 + (y2 : Int) * 1117) = (y1 : Int) * 131 + (y2 : Int) * 1117 := IntWalk.i64_in _ (by omega)
        have a4 : IntKind.i64.wrap ((p : Int) * 29) = (p : Int) * 29 := IntWalk.i64_in _ (by omega)
        have a5 : IntKind.i64.wrap ((y1 : Int) * 131 + (y2 : Int) * 1117 + (p : Int) * 29) = (y1 : Int) * 131 + (y2 : Int) * 1117 + (p : Int) * 29 := IntWalk.i64_in _ (by omega)
        have a7 : IntKind.i64.wrap ((k3 : Int) * 53) = (k3 : Int) * 53 := IntWalk.i64_in _ (by omega)
        have a9 : IntKind.i64.wrap ((p : Int) * 7) = (p : Int) * 7 := IntWalk.i64_in _ (by omega)
        have a10 : IntKind.i64.wrap ((p : Int) * 7 + 3) = (p : Int) * 7 + 3 := IntWalk.i64_in _ (by omega)
        obtain ⟨z, a8, hz⟩ : ∃ z : Nat, IntKind.i64.wrap ((y1 : Int) * 131 + (y2 : Int) * 1117 + (p : Int) * 29 + (k3 : Int) * 53) = (z : Int) ∧ z < 4611686018427387904 :=
          ⟨y1 * 131 + y2 * 1117 + p * 29 + k3 * 53, by rw [IntWalk.i64_in _ (by omega)]; omega, by omega⟩
        obtain ⟨x, hx, hxl⟩ := i64_xor_nat z (z / 64) hz (by omega)
        rw [show ((z / 64 : Nat) : Int) = (z : Int) / 64 from by omega] at hx
        clear hcell h3 hm hr
        have i1 : (0 : Int) ≤ (p : Int) := by omega
        have i2 : (0 : Int) < (m : Int) := by omega
        have i3 : (0 : Int) ≤ (k1 : Int) := by omega
        have i4 : (k1 : Int) < (m : Int) := by omega
        have i5 : (0 : Int) ≤ (k2 : Int) := by omega
        have i6 : (k2 : Int) < (m : Int) := by omega
        have j1 : (0 : Int) ≤ (z : Int) := by omega
        have j2 : (0 : Int) ≤ (x : Int) := by omega
        go_enter Tryz.func80, Tryz.ntmps80
        go_wp2
        go_quiet (fail)
        clear a1 a2 a3 a4 a5 a7 a9 a10 a8 M1 M2 M3
        go_wp2
        go_ret
        have hn' : (0 : Int) < n := by omega
        have e1 := Int.emod_nonneg (x : Int) (show n ≠ 0 by omega)
        have e2 := Int.emod_lt_of_pos (x : Int) hn'
        exact ⟨((x : Int) % n).toNat, ret1 (vint (by omega)), by omega, by omega, (Hw.out _).1, (Hw.out _).2⟩
end Go.Proofs.YtdhinlhafoiaiaaGreatDoor
/- l6Open: a reader over a code. -/
namespace Go.Proofs.YtdhinlhafoiaiaaGreatDoor
open Go.RowKit
set_option maxRecDepth 100000
set_option linter.unusedVariables false

theorem rdr_new {w : World} {A : Option Addr} {n c : Nat} {l : List UInt8} (h : RowAt w A n (bcells l)) (hn : n ≤ 2000) : Rdr (w.alloc (.cells #[.slice A n c, .int .i64 0] 134)) w.heap.size 0 := by
  refine ⟨A, n, c, l, heap_alloc_new w _, h.alloc _, hn, fun b off e hpos => ?_⟩
  obtain ⟨b', off', e', hlt, _⟩ := h.2.2 hpos
  rw [e] at e'
  injection e' with e'
  injection e' with e1
  subst e1
  omega

theorem RowAt.take {w : World} {A : Option Addr} {n : Nat} {l : List UInt8} (h : RowAt w A n (bcells l)) (k : Nat) (hk : k ≤ n) : RowAt w A k (bcells (l.take k)) := by
  have hl : l.length = n := by have := h.1; simpa [bcells] using this
  refine ⟨by simp [bcells]; omega, Nat.le_trans hk h.2.1, fun h0 => ?_⟩
  obtain ⟨b, off, e, hlt, hc⟩ := h.2.2 (by omega)
  refine ⟨b, off, e, hlt, fun j u hu => hc j u ?_⟩
  have hj : j < k := by
    have := (List.getElem?_eq_some_iff.1 hu).1
    simp [bcells] at this; omega
  simpa [bcells, List.getElem?_take, hj] using hu

set_option maxHeartbeats 1000000 in
theorem l6Open_any (A : Option Addr) (n c : Nat) (l : List UInt8) (w : World) (h : RowAt w A n (bcells l)) (hc : n ≤ c) (hcm : c ≤ maxLen) :
    Calls Tryz.prog 52 #[.slice A n c] w fun e w' => ∃ g, e = .returned (.pointer (some ⟨g, 0, none⟩)) ∧ Rdr w' g 0 ∧ w.heap.size ≤ g ∧ Below w.heap.size w w' := by
  unfold maxLen at hcm
  by_cases hn : n ≤ 2000
  · go_enter Tryz.func52, Tryz.ntmps52
    go_wp2
    go_goals
    go_ret
    exact ⟨w.heap.size, rfl, rdr_new h hn, Nat.le_refl _, (Below.refl _ _).alloc (Nat.le_refl _) _⟩
  · go_enter Tryz.func52, Tryz.ntmps52
    go_wp2
    go_goals
    go_ret
    exact ⟨w.heap.size, rfl, rdr_new (h.take 2000 (by omega)) (Nat.le_refl _), Nat.le_refl _, (Below.refl _ _).alloc (Nat.le_refl _) _⟩
end Go.Proofs.YtdhinlhafoiaiaaGreatDoor
/- Drawn kinds and fields of types: what is drawn, and where the reader stands then. -/
namespace Go.Proofs.YtdhinlhafoiaiaaGreatDoor
open Go.RowKit
set_option maxRecDepth 100000
set_option linter.unusedVariables false
set_option linter.unusedSimpArgs false
attribute [local go_sem] ba_get ba_toList ba_extract take_drop_all ByteArray.mk_append_mk

theorem dgrown_trans {a b c : World} {row : Option Nat} (h : a.grownBy b row) (k : b.grownBy c row) : a.grownBy c row :=
  ⟨k.os.trans h.os, k.tape.trans h.tape, k.output.trans h.output, Nat.le_trans h.size k.size, fun i hi hne => (k.block i (Nat.lt_of_lt_of_le hi h.size) hne).trans (h.block i hi hne)⟩
theorem dgrown_below {a w : World} (h : Below a.heap.size a w) (row : Option Nat) : a.grownBy w row := ⟨h.os, h.tape, h.output, h.size, fun i hi _ => h.block i hi⟩
theorem dgrown_drew {a b : World} {row : Option Nat} (h : a.grownBy b row) : a.grownBy b.drew row := ⟨h.os, h.tape, h.output, h.size, h.block⟩
theorem Rdr.ddrew {w : World} {g p : Nat} (h : Rdr w g p) : Rdr w.drew g p := h
theorem Rdr.dalloc {w : World} {g p : Nat} (h : Rdr w g p) (o : Obj) : Rdr (w.alloc o) g p := h.below ((Below.refl _ _).alloc (Nat.le_refl _) o)

/-- A row of texts in a block of its own. -/
def TRow (W : World) (b : Nat) (ls : List (List UInt8)) : Prop := W.heap[b]? = some (.cells (scells ls).toArray 9 (0, 0))
theorem TRow.new (W : World) (ls : List (List UInt8)) : TRow (W.alloc (.cells (scells ls).toArray 9)) W.heap.size ls := heap_alloc_new W _
theorem TRow.lt {W : World} {b : Nat} {ls : List (List UInt8)} (h : TRow W b ls) : b < W.heap.size := by
  rcases Nat.lt_or_ge b W.heap.size with h1 | h1
  · exact h1
  · unfold TRow at h; rw [Array.getElem?_eq_none h1] at h; cases h
theorem TRow.grown {W W' : World} {b r : Nat} {ls : List (List UInt8)} (h : TRow W b ls) (hg : W.grownBy W' (some r)) (hne : b ≠ r) : TRow W' b ls :=
  (hg.block b h.lt (fun e => hne (Option.some.inj e))).trans h
theorem TRow.cell {W : World} {b j : Nat} {ls : List (List UInt8)} (h : TRow W b ls) (hj : j < ls.length) : ∃ s, s ∈ ls ∧ W.cell? ⟨b, j, none⟩ = some (.string ⟨s.toArray⟩) :=
  ⟨ls[j], List.getElem_mem hj, by unfold TRow at h; simp [World.cell?, h, scells, hj]⟩

/-- What a drawing leaves. -/
def DrPost (Q : List UInt8 → Prop) (w : World) (g p m : Nat) (e : Ending) (w' : World) : Prop :=
  ∃ (l : List UInt8) (q : Nat), e = .returned (.string ⟨l.toArray⟩) ∧ Q l ∧ q ≤ p + m ∧ Rdr w' g q ∧ w.grownBy w' (some g)

def baseTs : List (List UInt8) := [[110], [116], [102], [110], [116], [64, 97, 59], [64, 98, 59], [64, 99, 59]]
def weirdTs : List (List UInt8) := [[], [120], [64, 59], [64, 65, 59], [91], [63, 63, 63, 63, 63, 63, 63, 63, 63, 63, 63, 63, 63, 63, 110], [64, 97], [110, 110]]
/-- A kind that is drawn. -/
def DK (l : List UInt8) : Prop := (∃ sg b, l = sg ++ b ∧ sg.length ≤ 2 ∧ sg.all isSign = true ∧ b ∈ baseTs) ∨ l ∈ weirdTs
theorem DK.len {l : List UInt8} (h : DK l) : l.length ≤ 15 := by
  rcases h with ⟨sg, b, rfl, h1, _, h3⟩ | h
  · have : ∀ b ∈ baseTs, b.length ≤ 3 := by decide
    have := this b h3
    rw [List.length_append]; omega
  · have : ∀ b ∈ weirdTs, b.length ≤ 15 := by decide
    exact this l h

set_option maxHeartbeats 1000000 in
theorem l91Kind_any (g p : Nat) (w : World) (h : Rdr w g p) (hp : p ≤ 100000000) :
    Calls Tryz.prog 89 #[.pointer (some ⟨g, 0, none⟩)] w (DrPost DK w g p 7) := by
  have hgl := h.lt
  have HR := Lib.hid h
  clear h
  go_enter Tryz.func89, Tryz.ntmps89
  go_wp2_with fail
  refine (pick_any g p 8 _ (HR.out.dalloc _) (by omega) (by omega) (by omega)).mono ?_
  rintro e w1 ⟨x, rfl, hx1, _, hR1, hg1⟩
  have hx : x < baseTs.length := by show x < 8; omega
  obtain ⟨b, hbm, hcell⟩ := ((TRow.new w baseTs).grown hg1 (by omega)).cell hx
  have hbl : b.length ≤ 3 := (show ∀ b ∈ baseTs, b.length ≤ 3 by decide) b hbm
  have i1 : (0 : Int) ≤ (x : Int) := by omega
  have i2 : (x : Int) < 8 := by omega
  have HR1 := Lib.hid hR1
  have Hg1 := Lib.hid (dgrown_trans (World.grownBy_alloc w _ (some g)) hg1)
  have Hbm := Lib.hid hbm
  clear hR1 hg1 hbm HR hx hx1
  go_wp2_with fail
  refine (pick_any g (p + 1) 4 _ HR1.out (by omega) (by omega) (by omega)).mono ?_
  rintro e w2 ⟨y, rfl, hy1, _, hR2, hg2⟩
  have hy : y ≤ 3 := by omega
  have HR2 := Lib.hid hR2
  have Hg2 := Lib.hid (dgrown_trans Hg1.out hg2)
  clear hR2 hg2 HR1 Hg1 hy1 hcell
  go_wp2_with fail
  go_loopw [3, 4] (fun s k wr => ∃ (sg : List UInt8) (x q : Nat), s = .string ⟨(sg ++ b).toArray⟩ ∧ k = .int .i64 x ∧ sg.length + x ≤ 3 ∧ (x = 0 → sg = []) ∧ Hid (sg.all isSign = true) ∧ q + x ≤ p + 5 ∧ g < wr.heap.size ∧ Hid (Rdr wr g q) ∧ Hid (w.grownBy wr (some g))) (fun _ k _ => (intOf k).toNat)
  case atStart => exact ⟨[], y, p + 2, by simp, rfl, by simp; omega, fun _ => rfl, rfl, by omega, HR2.out.lt, HR2.out, Hg2.out⟩
  case round =>
    obtain ⟨sg, x, q, rfl, rfl, hlen, h0, hsg, hq, hgw, hR, hg⟩ := hrel
    by_cases hx : 1 < x
    · have hxi : (1 : Int) < (x : Int) := by omega
      go_wp2_with fail
      refine (pick_any g q 3 _ (hR.out.dalloc _) (by omega) (by omega) (by omega)).mono ?_
      rintro e w3 ⟨z, rfl, hz1, _, hR3, hg3⟩
      have hz : z < ([[91], [63], [91]] : List (List UInt8)).length := by show z < 3; omega
      obtain ⟨s3, hsm, hcell⟩ := ((TRow.new wr [[91], [63], [91]]).grown hg3 (by omega)).cell hz
      obtain ⟨c, rfl, hc⟩ : ∃ c, s3 = [c] ∧ isSign c = true := by
        simp at hsm
        rcases hsm with rfl | rfl | rfl
        · exact ⟨91, rfl, by decide⟩
        · exact ⟨63, rfl, by decide⟩
        · exact ⟨91, rfl, by decide⟩
      have j1 : (0 : Int) ≤ (z : Int) := by omega
      have j2 : (z : Int) < 3 := by omega
      have HR3 := Lib.hid hR3
      have hg3l := hR3.lt
      have Hg3 := Lib.hid (dgrown_trans hg.out (dgrown_trans (World.grownBy_alloc wr _ (some g)) hg3))
      have Hc := Lib.hid hc
      have Hsg := Lib.hid hsg.out
      clear hR3 hg3 hsm hc
      go_wp2_with fail
      go_roundw
      case rel => exact ⟨c :: sg, x - 1, q + 1, by simp, by go_num, by simp; omega, fun h => by omega, by show List.all _ _ = _; rw [List.all_cons, Hc.out, Hsg.out]; rfl, by omega, hg3l, HR3.out, Hg3.out⟩
      case measure => simp [intOf]; omega
    · have hxi : ¬ (1 : Int) < (x : Int) := by omega
      have Hsl := Lib.hid (show sg.length ≤ 2 by
        by_cases hx0 : x = 0
        · rw [h0 hx0]; simp
        · omega)
      have HRa := Lib.hid hR.out
      have Hga := Lib.hid hg.out
      have Hsg := Lib.hid hsg.out
      go_wp2_with fail
      refine (pick_any g q 30 _ HRa.out (by omega) (by omega) (by omega)).mono ?_
      rintro e w3 ⟨z, rfl, hz1, _, hR3, hg3⟩
      have HR3 := Lib.hid hR3
      have Hg3 := Lib.hid (dgrown_trans Hga.out hg3)
      have hg3l := hR3.lt
      clear hR3 hg3 HRa Hga
      by_cases hz0 : z = 0
      · subst hz0
        go_wp2_with fail
        refine (pick_any g (q + 1) 8 _ (HR3.out.dalloc _) (by omega) (by omega) (by omega)).mono ?_
        rintro e w4 ⟨u, rfl, hu1, _, hR4, hg4⟩
        have hu : u < weirdTs.length := by show u < 8; omega
        obtain ⟨s4, hsm, hcell⟩ := ((TRow.new w3 weirdTs).grown hg4 (by omega)).cell hu
        have k1 : (0 : Int) ≤ (u : Int) := by omega
        have k2 : (u : Int) < 8 := by omega
        have HR4 := Lib.hid hR4
        have Hg4 := Lib.hid (dgrown_trans Hg3.out (dgrown_trans (World.grownBy_alloc w3 _ (some g)) hg4))
        have Hsm := Lib.hid hsm
        clear hR4 hg4 hsm
        go_wp2_with fail
        go_ret
        exact ⟨s4, q + 1 + 1, rfl, .inr Hsm.out, by omega, HR4.out, Hg4.out⟩
      · have hz2 : ((z : Int) == 0) = false := by simp; omega
        go_wp2_with fail
        go_ret
        exact ⟨sg ++ b, q + 1, rfl, .inl ⟨sg, b, rfl, Hsl.out, Hsg.out, Hbm.out⟩, by omega, HR3.out, Hg3.out⟩
end Go.Proofs.YtdhinlhafoiaiaaGreatDoor
/- Drawn fields and types: texts of bounded length, with short runs of signs. -/
namespace Go.Proofs.YtdhinlhafoiaiaaGreatDoor
open Go.RowKit
set_option maxRecDepth 100000
set_option linter.unusedVariables false
set_option linter.unusedSimpArgs false
attribute [local go_sem] ba_get ba_toList ba_extract take_drop_all ByteArray.mk_append_mk

/-! ### runs of signs in what is drawn -/
def isPl (c : UInt8) : Bool := !isSign c && c != 64
theorem stepM_pl {c : UInt8} (h : isPl c = true) (st : Nat × Nat) : stepM st c = some (st.2, 0) := by
  simp only [isPl, Bool.and_eq_true, Bool.not_eq_true', bne_iff_ne] at h
  unfold stepM
  rw [h.1, if_neg (by decide), if_neg (fun e => h.2 e.1)]
theorem mach_pl : ∀ (p : List UInt8), p.all isPl = true → ∀ u v, p ≠ [] → ∃ u' v', mach (u, v) p = some (u', v') ∧ (v = 0 → u' = 0) ∧ v' = 0 ∧ u' ≤ v
  | [], _, _, _, h => absurd rfl h
  | [c], h, u, v, _ => by
    simp only [List.all_cons, List.all_nil, Bool.and_true] at h
    refine ⟨v, 0, ?_, fun e => e, rfl, Nat.le_refl _⟩
    rw [mach, stepM_pl h]; rfl
  | c :: d :: p, h, u, v, _ => by
    simp only [List.all_cons, Bool.and_eq_true] at h
    obtain ⟨u', v', e, h1, h2, h3⟩ := mach_pl (d :: p) (by simp only [List.all_cons, Bool.and_eq_true]; exact h.2) v 0 (by simp)
    refine ⟨u', v', ?_, fun _ => h1 rfl, h2, by omega⟩
    rw [mach, stepM_pl h.1]; exact e
theorem mach_pl0 {p : List UInt8} (h : p.all isPl = true) (hn : p ≠ []) (u : Nat) : mach (u, 0) p = some (0, 0) := by
  obtain ⟨u', v', e, h1, h2, _⟩ := mach_pl p h u 0 hn
  rw [e, h1 rfl, h2]
/-- A piece between separators: whatever run stood ahead of the separator. -/
def FSafe (l : List UInt8) : Prop := ∀ u, u ≤ 14 → ∃ u' v', mach (u, 0) l = some (u', v') ∧ u' ≤ 14 ∧ v' ≤ 14
/-- A line, its end too. -/
def LSafe (l : List UInt8) : Prop := ∀ u, u ≤ 14 → ∃ u', mach (u, 0) l = some (u', 0) ∧ u' ≤ 14
theorem FSafe.sep {l : List UInt8} (h : FSafe l) {c : UInt8} (hc : isPl c = true) : LSafe (l ++ [c]) := fun u hu => by
  obtain ⟨u', v', e, h1, h2⟩ := h u hu
  refine ⟨v', ?_, h2⟩
  rw [mach_app, e]
  simp only [mach]
  rw [stepM_pl hc]
theorem LSafe.app {a b : List UInt8} (h : LSafe a) (k : LSafe b) : LSafe (a ++ b) := fun u hu => by
  obtain ⟨u', e, h1⟩ := h u hu
  obtain ⟨u2, e2, h2⟩ := k u' h1
  exact ⟨u2, by rw [mach_app, e]; exact e2, h2⟩
theorem LSafe.appF {a b : List UInt8} (h : LSafe a) (k : FSafe b) : FSafe (a ++ b) := fun u hu => by
  obtain ⟨u', e, h1⟩ := h u hu
  obtain ⟨u2, v2, e2, h2, h3⟩ := k u' h1
  exact ⟨u2, v2, by rw [mach_app, e]; exact e2, h2, h3⟩
theorem LSafe.plain {p : List UInt8} (h : p.all isPl = true) (hn : p ≠ []) : LSafe p := fun u hu => ⟨0, mach_pl0 h hn u, by omega⟩
theorem LSafe.toF {l : List UInt8} (h : LSafe l) : FSafe l := fun u hu => by
  obtain ⟨u', e, h1⟩ := h u hu
  exact ⟨u', 0, e, h1, by omega⟩
theorem LSafe.nil : LSafe [] := fun u hu => ⟨u, rfl, hu⟩
def okM (l : List UInt8) (v : Nat) : Bool := match mach (0, v) l with | some (a, b) => decide (a ≤ 14) && decide (b ≤ 14) | none => false
theorem okM_iff {l : List UInt8} {v : Nat} (h : okM l v = true) : ∃ a b, mach (0, v) l = some (a, b) ∧ a ≤ 14 ∧ b ≤ 14 := by
  unfold okM at h
  cases e : mach (0, v) l with
  | none => rw [e] at h; cases h
  | some x =>
    obtain ⟨a, b⟩ := x
    rw [e] at h
    simp only [Bool.and_eq_true, decide_eq_true_eq] at h
    exact ⟨a, b, rfl, h.1, h.2⟩
theorem DK.mach {l : List UInt8} (h : DK l) : ∃ a b, Go.Proofs.YtdhinlhafoiaiaaGreatDoor.mach (0, 0) l = some (a, b) ∧ a ≤ 14 ∧ b ≤ 14 := by
  rcases h with ⟨sg, b, rfl, h1, h2, h3⟩ | h
  · rw [mach_app, mach_signs sg _ h2]
    simp only [Nat.zero_add]
    have hd : ∀ b ∈ baseTs, okM b 0 = true ∧ okM b 1 = true ∧ okM b 2 = true := by decide
    obtain ⟨d0, d1, d2⟩ := hd b h3
    rcases (show sg.length = 0 ∨ sg.length = 1 ∨ sg.length = 2 by omega) with e | e | e <;> rw [e]
    · exact okM_iff d0
    · exact okM_iff d1
    · exact okM_iff d2
  · have hd : ∀ l ∈ weirdTs, okM l 0 = true := by decide
    exact okM_iff (hd l h)
theorem FSafe.kind {p k : List UInt8} (hp : p.all isPl = true) (hn : p ≠ []) (hk : DK k) : FSafe (p ++ k) := fun u hu => by
  rw [mach_app, mach_pl0 hp hn u]
  exact hk.mach
theorem isPl_dig {c : UInt8} (h : isDig c = true) : isPl c = true := by
  have := isDig_iff.1 h
  have h1 : c ≠ 91 := by rintro rfl; simp at this
  have h2 : c ≠ 63 := by rintro rfl; simp at this
  have h3 : c ≠ 64 := by rintro rfl; simp at this
  simp [isPl, isSign, h1, h2, h3]
theorem decB_pl (n : Nat) : (decB n).all isPl = true := List.all_eq_true.2 fun c hc => isPl_dig (List.all_eq_true.1 (decB_dig n) c hc)

/-! ### fields -/
def numTs : List (List UInt8) := [[53], [55, 55], [57, 57, 57, 57, 57, 57], [48]]
def txtTs : List (List UInt8) := [[104, 105], [97, 32, 98], []]
def flgTs : List (List UInt8) := [[121, 101, 115], [121, 101, 115], [110, 111]]

set_option maxHeartbeats 2000000 in
theorem l91Field_any (g p : Nat) (c : UInt8) (tag : Nat) (nm : List UInt8) (w : World) (h : Rdr w g p) (hp : p ≤ 100000000) (hc : c = 82 ∨ c = 85 ∨ c = 69) (ht : tag ≤ 99) (hn : nm.length ≤ 1) (hpl : nm.all isPl = true) :
    Calls Tryz.prog 115 #[.pointer (some ⟨g, 0, none⟩), .string ⟨[c].toArray⟩, .int .i64 (tag : Int), .string ⟨nm.toArray⟩] w (DrPost (fun l => FSafe l ∧ l.length ≤ 20) w g p 9) := by
  have hgl := h.lt
  have HR := Lib.hid h
  have Hd := Lib.hid (fun W => l6Dec_any tag tag W (Nat.le_refl _) (by omega))
  have hd2 := decB_len 1 tag (by have e : 10 ^ (1 + 1) = 100 := rfl; omega)
  have Hpre := Lib.hid (show (decB tag ++ 58 :: nm).all isPl = true ∧ (decB tag ++ 58 :: nm) ≠ [] by
    refine ⟨?_, by simp⟩
    rw [List.all_append, List.all_cons, decB_pl, hpl]; decide)
  have Hpre2 := Lib.hid (show (decB tag ++ 58 :: (nm ++ [58])).all isPl = true ∧ (decB tag ++ 58 :: (nm ++ [58])) ≠ [] by
    refine ⟨?_, by simp⟩
    rw [List.all_append, List.all_cons, List.all_append, decB_pl, hpl]; decide)
  have Hnp := Lib.hid hpl
  have Hdp := Lib.hid (decB_pl tag)
  clear h hpl
  generalize decB tag = dt at *
  go_enter Tryz.func115, Tryz.ntmps115
  go_wp2_with fail
  refine (Hd.out _).mono ?_
  rintro e w1 ⟨rfl, hb1⟩
  have HR1 := Lib.hid (HR.out.below hb1)
  have Hg1 := Lib.hid (dgrown_below hb1 (some g))
  clear hb1 HR
  rcases hc with rfl | rfl | rfl
  · go_wp2_with fail
    refine (l91Kind_any g p _ HR1.out hp).mono ?_
    rintro e w2 ⟨l, q, rfl, hl, hq, hR2, hg2⟩
    have hll := hl.len
    have Hl := Lib.hid hl
    have HR2 := Lib.hid hR2
    have Hg2 := Lib.hid (dgrown_trans Hg1.out hg2)
    clear hl hR2 hg2 HR1 Hg1
    go_wp2_with fail
    refine (pick_any g q 3 _ HR2.out (by omega) (by omega) (by omega)).mono ?_
    rintro e w3 ⟨z, rfl, hz1, _, hR3, hg3⟩
    have HR3 := Lib.hid hR3
    have hg3l := hR3.lt
    have Hg3 := Lib.hid (dgrown_trans Hg2.out hg3)
    clear hR3 hg3 HR2 Hg2
    by_cases hz0 : z = 0
    · subst hz0
      by_cases hn1 : l = [110]
      · subst hn1
        go_wp2_with fail
        refine (pick_any g (q + 1) 8 _ (HR3.out.dalloc _) (by omega) (by omega) (by omega)).mono ?_
        rintro e w4 ⟨u, rfl, hu1, _, hR4, hg4⟩
        have hu : u / 2 % 4 < numTs.length := by show u / 2 % 4 < 4; omega
        obtain ⟨s4, hsm, hcell⟩ := ((TRow.new w3 numTs).grown hg4 (by omega)).cell hu
        have hs4 := (show ∀ l ∈ numTs, l.all isPl = true ∧ l.length ≤ 6 by decide) s4 hsm
        have hs4l := hs4.2
        have k1 : (0 : Int) ≤ (u : Int) / 2 % 4 := by omega
        have k2 : (u : Int) / 2 % 4 < 4 := by omega
        have HR4 := Lib.hid hR4
        have Hg4 := Lib.hid (dgrown_trans Hg3.out (dgrown_trans (World.grownBy_alloc w3 _ (some g)) hg4))
        have Hs4 := Lib.hid hs4
        clear hR4 hg4 hsm hs4
        go_wp2_with fail
        go_ret
        exact ⟨dt ++ 58 :: (nm ++ 58 :: 110 :: 61 :: s4), q + 1 + 1, by simp, ⟨(LSafe.plain (by simp only [List.all_append, List.all_cons, Hdp.out, Hnp.out, Hs4.out.1]; decide) (by simp)).toF, by have := Hs4.out.2; simp; omega⟩, by omega, HR4.out, Hg4.out⟩
      · have tn : (l == [110]) = false := by simpa using hn1
        by_cases hn2 : l = [116]
        · subst hn2
          go_wp2_with fail
          refine (pick_any g (q + 1) 7 _ (HR3.out.dalloc _) (by omega) (by omega) (by omega)).mono ?_
          rintro e w4 ⟨u, rfl, hu1, _, hR4, hg4⟩
          have hu : u / 3 < txtTs.length := by show u / 3 < 3; omega
          obtain ⟨s4, hsm, hcell⟩ := ((TRow.new w3 txtTs).grown hg4 (by omega)).cell hu
          have hs4 := (show ∀ l ∈ txtTs, l.all isPl = true ∧ l.length ≤ 3 by decide) s4 hsm
          have hs4l := hs4.2
          have k1 : (0 : Int) ≤ (u : Int) / 3 := by omega
          have k2 : (u : Int) / 3 < 3 := by omega
          have HR4 := Lib.hid hR4
          have Hg4 := Lib.hid (dgrown_trans Hg3.out (dgrown_trans (World.grownBy_alloc w3 _ (some g)) hg4))
          have Hs4 := Lib.hid hs4
          clear hR4 hg4 hsm hs4
          go_wp2_with fail
          go_ret
          exact ⟨dt ++ 58 :: (nm ++ 58 :: 116 :: 61 :: 39 :: (s4 ++ [39])), q + 1 + 1, by simp, ⟨(LSafe.plain (by simp only [List.all_append, List.all_cons, Hdp.out, Hnp.out, Hs4.out.1]; decide) (by simp)).toF, by have := Hs4.out.2; simp; omega⟩, by omega, HR4.out, Hg4.out⟩
        · have tt : (l == [116]) = false := by simpa using hn2
          by_cases hn3 : l = [102]
          · subst hn3
            go_wp2_with fail
            refine (pick_any g (q + 1) 7 _ (HR3.out.dalloc _) (by omega) (by omega) (by omega)).mono ?_
            rintro e w4 ⟨u, rfl, hu1, _, hR4, hg4⟩
            have hu : u / 3 < flgTs.length := by show u / 3 < 3; omega
            obtain ⟨s4, hsm, hcell⟩ := ((TRow.new w3 flgTs).grown hg4 (by omega)).cell hu
            have hs4 := (show ∀ l ∈ flgTs, l.all isPl = true ∧ l.length ≤ 3 by decide) s4 hsm
            have hs4l := hs4.2
            have k1 : (0 : Int) ≤ (u : Int) / 3 := by omega
            have k2 : (u : Int) / 3 < 3 := by omega
            have HR4 := Lib.hid hR4
            have Hg4 := Lib.hid (dgrown_trans Hg3.out (dgrown_trans (World.grownBy_alloc w3 _ (some g)) hg4))
            have Hs4 := Lib.hid hs4
            clear hR4 hg4 hsm hs4
            go_wp2_with fail
            go_ret
            exact ⟨dt ++ 58 :: (nm ++ 58 :: 102 :: 61 :: s4), q + 1 + 1, by simp, ⟨(LSafe.plain (by simp only [List.all_append, List.all_cons, Hdp.out, Hnp.out, Hs4.out.1]; decide) (by simp)).toF, by have := Hs4.out.2; simp; omega⟩, by omega, HR4.out, Hg4.out⟩
          · have tf : (l == [102]) = false := by simpa using hn3
            clear hn1 hn2 hn3
            go_wp2_with fail
            go_ret
            exact ⟨(dt ++ 58 :: (nm ++ [58])) ++ l, q + 1, by simp, ⟨FSafe.kind Hpre2.out.1 Hpre2.out.2 Hl.out, by simp; omega⟩, by omega, HR3.out, Hg3.out⟩
    · have tz : ((z : Int) == 0) = false := by simp; omega
      clear hz0
      go_wp2_with fail
      go_ret
      exact ⟨(dt ++ 58 :: (nm ++ [58])) ++ l, q + 1, by simp, ⟨FSafe.kind Hpre2.out.1 Hpre2.out.2 Hl.out, by simp; omega⟩, by omega, HR3.out, Hg3.out⟩
  · go_wp2_with fail
    refine (l91Kind_any g p _ HR1.out hp).mono ?_
    rintro e w2 ⟨l, q, rfl, hl, hq, hR2, hg2⟩
    have hll := hl.len
    have Hl := Lib.hid hl
    have HR2 := Lib.hid hR2
    have Hg2 := Lib.hid (dgrown_trans Hg1.out hg2)
    clear hl hR2 hg2 HR1 Hg1
    go_wp2_with fail
    go_ret
    exact ⟨(dt ++ 58 :: (nm ++ [58])) ++ l, q, by simp, ⟨FSafe.kind Hpre2.out.1 Hpre2.out.2 Hl.out, by simp; omega⟩, by omega, HR2.out, Hg2.out⟩
  · go_wp2_with fail
    go_ret
    exact ⟨dt ++ 58 :: nm, p, by simp, ⟨(LSafe.plain Hpre.out.1 Hpre.out.2).toF, by simp; omega⟩, by omega, HR1.out, Hg1.out⟩

/-! ### types -/
theorem FSafe.comma {l : List UInt8} (h : FSafe l) : LSafe (l ++ [44]) := h.sep (by decide)
set_option maxHeartbeats 2000000 in
theorem l91Type_any (g p : Nat) (c nc : UInt8) (w : World) (h : Rdr w g p) (hp : p ≤ 10000000) (hc : c = 82 ∨ c = 85 ∨ c = 69) (hn : isPl nc = true) :
    Calls Tryz.prog 87 #[.pointer (some ⟨g, 0, none⟩), .string ⟨[c].toArray⟩, .string ⟨[nc].toArray⟩] w (DrPost (fun l => LSafe l ∧ l.length ≤ 88 ∧ 1 ≤ l.length) w g p 50) := by
  have hgl := h.lt
  have HR := Lib.hid h
  have Hh := Lib.hid (show LSafe [c, nc, 61] from LSafe.plain (by
    have hcp : isPl c = true := by rcases hc with rfl | rfl | rfl <;> decide
    simp only [List.all_cons, List.all_nil, hcp, hn]; decide) (by simp))
  have Hc := Lib.hid hc
  clear h hn
  go_enter Tryz.func87, Tryz.ntmps87
  go_wp2_with fail
  refine (pick_any g p 4 _ HR.out (by omega) (by omega) (by omega)).mono ?_
  rintro e w1 ⟨x, rfl, hx1, _, hR1, hg1⟩
  have hx : x ≤ 3 := by omega
  have HR1 := Lib.hid hR1
  have Hg1 := Lib.hid hg1
  have hg1l := hR1.lt
  clear hR1 hg1 HR hx1
  rcases hc with rfl | rfl | rfl
  · go_wp2_with fail
    refine (pick_any g (p + 1) 8 _ HR1.out (by omega) (by omega) (by omega)).mono ?_
    rintro e w2 ⟨z, rfl, hz1, _, hR2, hg2⟩
    have HR2 := Lib.hid hR2
    have Hg2 := Lib.hid (dgrown_trans Hg1.out hg2)
    have hg2l := hR2.lt
    clear hR2 hg2 HR1 Hg1 hz1
    by_cases hz0 : z = 0
    · subst hz0
      go_wp2_with fail
      go_loopw [7, 8, 10] (fun s t k wr => ∃ (l : List UInt8) (tg k' q : Nat), s = .string ⟨l.toArray⟩ ∧ t = .int .i64 (tg : Int) ∧ k = .int .i64 (k' : Int) ∧ k' ≤ 0 ∧ tg ≤ 3 * k' ∧ l.length ≤ 3 + 21 * k' ∧ 1 ≤ l.length ∧ Hid (FSafe l) ∧ Hid (k' = 0 → LSafe l) ∧ q ≤ (p + 1 + 1) + 11 * k' ∧ g < wr.heap.size ∧ Hid (Rdr wr g q) ∧ Hid (w.grownBy wr (some g))) (fun _ _ k _ => 0 - (intOf k).toNat)
      case atStart => exact ⟨[82, nc, 61], 0, 0, (p + 1 + 1), by simp, rfl, rfl, Nat.zero_le _, Nat.le_refl _, by simp, by simp, Hh.out.toF, fun _ => Hh.out, by omega, HR2.out.lt, HR2.out, Hg2.out⟩
      case round =>
        obtain ⟨l, tg, k, q, rfl, rfl, rfl, hk, htg, hll, hl1, hF, hL, hq, hgw, hR, hg⟩ := hrel
        by_cases hlt : k < 0
        · exact absurd hlt (Nat.not_lt_zero _)
        · have k2 : ¬ (k : Int) < 0 := by omega
          have HRf := Lib.hid hR.out
          have Hgf := Lib.hid hg.out
          have HFf := Lib.hid hF.out
          go_wp2_with fail
          go_ret
          exact ⟨l ++ [10], q, by simp, ⟨HFf.out.sep (by decide), by simp only [List.length_append, List.length_cons, List.length_nil]; omega, by simp⟩, by omega, HRf.out, Hgf.out⟩
    · have tz : ((z : Int) == 0) = false := by simp; omega
      clear hz0
      go_wp2_with fail
      go_loopw [7, 8, 10] (fun s t k wr => ∃ (l : List UInt8) (tg k' q : Nat), s = .string ⟨l.toArray⟩ ∧ t = .int .i64 (tg : Int) ∧ k = .int .i64 (k' : Int) ∧ k' ≤ (1 + x) ∧ tg ≤ 3 * k' ∧ l.length ≤ 3 + 21 * k' ∧ 1 ≤ l.length ∧ Hid (FSafe l) ∧ Hid (k' = 0 → LSafe l) ∧ q ≤ (p + 1 + 1) + 11 * k' ∧ g < wr.heap.size ∧ Hid (Rdr wr g q) ∧ Hid (w.grownBy wr (some g))) (fun _ _ k _ => (1 + x) - (intOf k).toNat)
      case atStart => exact ⟨[82, nc, 61], 0, 0, (p + 1 + 1), by simp, rfl, rfl, Nat.zero_le _, Nat.le_refl _, by simp, by simp, Hh.out.toF, fun _ => Hh.out, by omega, HR2.out.lt, HR2.out, Hg2.out⟩
      case round =>
        obtain ⟨l, tg, k, q, rfl, rfl, rfl, hk, htg, hll, hl1, hF, hL, hq, hgw, hR, hg⟩ := hrel
        by_cases hlt : k < (1 + x)
        · have k2 : (k : Int) < 1 + (x : Int) := by omega
          have k3 : k ≤ 3 := by omega
          go_wp2_with fail
          refine (pick_any g q 3 _ hR.out (by omega) (by omega) (by omega)).mono ?_
          rintro e w3 ⟨a, rfl, ha1, _, hR3, hg3⟩
          have ha : a ≤ 2 := by omega
          have HR3 := Lib.hid hR3
          have Hg3 := Lib.hid (dgrown_trans hg.out hg3)
          clear hR3 hg3 ha1
          go_wp2_with fail
          refine (pick_any g (q + 1) 2 _ HR3.out (by omega) (by omega) (by omega)).mono ?_
          rintro e w4 ⟨b, rfl, hb1, _, hR4, hg4⟩
          obtain ⟨T, hT, hT2⟩ : ∃ T : Nat, (T : Int) = (tg : Int) + 1 + (a : Int) * (b : Int) ∧ T ≤ 3 * (k + 1) := by
            have hb : b = 0 ∨ b = 1 := by omega
            rcases hb with rfl | rfl
            · exact ⟨tg + 1, by simp, by omega⟩
            · exact ⟨tg + 1 + a, by simp, by omega⟩
          have hab : (a : Int) * (b : Int) ≤ 2 := by
            have hb : b = 0 ∨ b = 1 := by omega
            rcases hb with rfl | rfl
            · simp
            · simp; omega
          have hab0 : 0 ≤ (a : Int) * (b : Int) := Int.mul_nonneg (by omega) (by omega)
          have HR4 := Lib.hid hR4
          have Hg4 := Lib.hid (dgrown_trans Hg3.out hg4)
          have HT := Lib.hid hT
          have hg4l := hR4.lt
          clear hR4 hg4 HR3 Hg3 hb1 hT
          by_cases hk0 : k = 0
          · have HL := Lib.hid (hL.out hk0)
            have hki : ¬ (0 : Int) < (k : Int) := by omega
            have hcv := fun W => Tryz.conv1 W w4.heap.size 1 (byteOf (112 + k))
            rw [byteOf_toNat (by omega)] at hcv
            have hu : IntKind.u8.wrap (112 + (k : Int)) = ((112 + k : Nat) : Int) := by rw [IntWalk.u8_in _ (by omega)]; omega
            have Hnm := Lib.hid (show ([byteOf (112 + k)] : List UInt8).all isPl = true by
              have hk4 : k = 0 ∨ k = 1 ∨ k = 2 ∨ k = 3 := by omega
              rcases hk4 with rfl | rfl | rfl | rfl <;> decide)
            clear hk0
            go_wp2_with fail
            rw [← HT.out]
            refine (l91Field_any g (q + 1 + 1) 82 T [byteOf (112 + k)] _ (HR4.out.dalloc _) (by omega) (by simp) (by omega) (by simp) Hnm.out).mono ?_
            rintro e w5 ⟨l2, q2, rfl, ⟨hl2, hl2n⟩, hq2, hR5, hg5⟩
            have HR5 := Lib.hid hR5
            have hg5l := hR5.lt
            have Hg5 := Lib.hid (dgrown_trans Hg4.out (dgrown_trans (World.grownBy_alloc w4 _ (some g)) hg5))
            have Hl2 := Lib.hid hl2
            clear hR5 hg5 hl2
            go_wp2_with fail
            go_roundw
            case rel => exact ⟨l ++ l2, T, k + 1, q2, by simp, by first | rfl | rw [HT.out], by go_num, by omega, by omega, by rw [List.length_append]; omega, by rw [List.length_append]; omega, HL.out.appF Hl2.out, (fun h => by omega), by omega, hg5l, HR5.out, Hg5.out⟩
            case measure => simp [intOf]; omega
          · have hki : (0 : Int) < (k : Int) := by omega
            have hcv := fun W => Tryz.conv1 W w4.heap.size 1 (byteOf (112 + k))
            rw [byteOf_toNat (by omega)] at hcv
            have hu : IntKind.u8.wrap (112 + (k : Int)) = ((112 + k : Nat) : Int) := by rw [IntWalk.u8_in _ (by omega)]; omega
            have Hnm := Lib.hid (show ([byteOf (112 + k)] : List UInt8).all isPl = true by
              have hk4 : k = 0 ∨ k = 1 ∨ k = 2 ∨ k = 3 := by omega
              rcases hk4 with rfl | rfl | rfl | rfl <;> decide)
            have HF2 := Lib.hid hF.out.comma
            clear hk0
            go_wp2_with fail
            rw [← HT.out]
            refine (l91Field_any g (q + 1 + 1) 82 T [byteOf (112 + k)] _ (HR4.out.dalloc _) (by omega) (by simp) (by omega) (by simp) Hnm.out).mono ?_
            rintro e w5 ⟨l2, q2, rfl, ⟨hl2, hl2n⟩, hq2, hR5, hg5⟩
            have HR5 := Lib.hid hR5
            have hg5l := hR5.lt
            have Hg5 := Lib.hid (dgrown_trans Hg4.out (dgrown_trans (World.grownBy_alloc w4 _ (some g)) hg5))
            have Hl2 := Lib.hid hl2
            clear hR5 hg5 hl2
            go_wp2_with fail
            go_roundw
            case rel => exact ⟨(l ++ [44]) ++ l2, T, k + 1, q2, by simp, by first | rfl | rw [HT.out], by go_num, by omega, by omega, by simp only [List.length_append, List.length_cons, List.length_nil]; omega, by simp only [List.length_append, List.length_cons, List.length_nil]; omega, HF2.out.appF Hl2.out, (fun h => by omega), by omega, hg5l, HR5.out, Hg5.out⟩
            case measure => simp [intOf]; omega
        · have k2 : ¬ (k : Int) < 1 + (x : Int) := by omega
          have HRf := Lib.hid hR.out
          have Hgf := Lib.hid hg.out
          have HFf := Lib.hid hF.out
          go_wp2_with fail
          go_ret
          exact ⟨l ++ [10], q, by simp, ⟨HFf.out.sep (by decide), by simp only [List.length_append, List.length_cons, List.length_nil]; omega, by simp⟩, by omega, HRf.out, Hgf.out⟩
  · go_wp2_with fail
    go_loopw [7, 8, 10] (fun s t k wr => ∃ (l : List UInt8) (tg k' q : Nat), s = .string ⟨l.toArray⟩ ∧ t = .int .i64 (tg : Int) ∧ k = .int .i64 (k' : Int) ∧ k' ≤ (1 + x) ∧ tg ≤ 3 * k' ∧ l.length ≤ 3 + 21 * k' ∧ 1 ≤ l.length ∧ Hid (FSafe l) ∧ Hid (k' = 0 → LSafe l) ∧ q ≤ (p + 1) + 11 * k' ∧ g < wr.heap.size ∧ Hid (Rdr wr g q) ∧ Hid (w.grownBy wr (some g))) (fun _ _ k _ => (1 + x) - (intOf k).toNat)
    case atStart => exact ⟨[85, nc, 61], 0, 0, (p + 1), by simp, rfl, rfl, Nat.zero_le _, Nat.le_refl _, by simp, by simp, Hh.out.toF, fun _ => Hh.out, by omega, HR1.out.lt, HR1.out, Hg1.out⟩
    case round =>
      obtain ⟨l, tg, k, q, rfl, rfl, rfl, hk, htg, hll, hl1, hF, hL, hq, hgw, hR, hg⟩ := hrel
      by_cases hlt : k < (1 + x)
      · have k2 : (k : Int) < 1 + (x : Int) := by omega
        have k3 : k ≤ 3 := by omega
        go_wp2_with fail
        refine (pick_any g q 3 _ hR.out (by omega) (by omega) (by omega)).mono ?_
        rintro e w3 ⟨a, rfl, ha1, _, hR3, hg3⟩
        have ha : a ≤ 2 := by omega
        have HR3 := Lib.hid hR3
        have Hg3 := Lib.hid (dgrown_trans hg.out hg3)
        clear hR3 hg3 ha1
        go_wp2_with fail
        refine (pick_any g (q + 1) 2 _ HR3.out (by omega) (by omega) (by omega)).mono ?_
        rintro e w4 ⟨b, rfl, hb1, _, hR4, hg4⟩
        obtain ⟨T, hT, hT2⟩ : ∃ T : Nat, (T : Int) = (tg : Int) + 1 + (a : Int) * (b : Int) ∧ T ≤ 3 * (k + 1) := by
          have hb : b = 0 ∨ b = 1 := by omega
          rcases hb with rfl | rfl
          · exact ⟨tg + 1, by simp, by omega⟩
          · exact ⟨tg + 1 + a, by simp, by omega⟩
        have hab : (a : Int) * (b : Int) ≤ 2 := by
          have hb : b = 0 ∨ b = 1 := by omega
          rcases hb with rfl | rfl
          · simp
          · simp; omega
        have hab0 : 0 ≤ (a : Int) * (b : Int) := Int.mul_nonneg (by omega) (by omega)
        have HR4 := Lib.hid hR4
        have Hg4 := Lib.hid (dgrown_trans Hg3.out hg4)
        have HT := Lib.hid hT
        have hg4l := hR4.lt
        clear hR4 hg4 HR3 Hg3 hb1 hT
        by_cases hk0 : k = 0
        · have HL := Lib.hid (hL.out hk0)
          have hki : ¬ (0 : Int) < (k : Int) := by omega
          have hcv := fun W => Tryz.conv1 W w4.heap.size 1 (byteOf (112 + k))
          rw [byteOf_toNat (by omega)] at hcv
          have hu : IntKind.u8.wrap (112 + (k : Int)) = ((112 + k : Nat) : Int) := by rw [IntWalk.u8_in _ (by omega)]; omega
          have Hnm := Lib.hid (show ([byteOf (112 + k)] : List UInt8).all isPl = true by
            have hk4 : k = 0 ∨ k = 1 ∨ k = 2 ∨ k = 3 := by omega
            rcases hk4 with rfl | rfl | rfl | rfl <;> decide)
          clear hk0
          go_wp2_with fail
          rw [← HT.out]
          refine (l91Field_any g (q + 1 + 1) 85 T [byteOf (112 + k)] _ (HR4.out.dalloc _) (by omega) (by simp) (by omega) (by simp) Hnm.out).mono ?_
          rintro e w5 ⟨l2, q2, rfl, ⟨hl2, hl2n⟩, hq2, hR5, hg5⟩
          have HR5 := Lib.hid hR5
          have hg5l := hR5.lt
          have Hg5 := Lib.hid (dgrown_trans Hg4.out (dgrown_trans (World.grownBy_alloc w4 _ (some g)) hg5))
          have Hl2 := Lib.hid hl2
          clear hR5 hg5 hl2
          go_wp2_with fail
          go_roundw
          case rel => exact ⟨l ++ l2, T, k + 1, q2, by simp, by first | rfl | rw [HT.out], by go_num, by omega, by omega, by rw [List.length_append]; omega, by rw [List.length_append]; omega, HL.out.appF Hl2.out, (fun h => by omega), by omega, hg5l, HR5.out, Hg5.out⟩
          case measure => simp [intOf]; omega
        · have hki : (0 : Int) < (k : Int) := by omega
          have hcv := fun W => Tryz.conv1 W w4.heap.size 1 (byteOf (112 + k))
          rw [byteOf_toNat (by omega)] at hcv
          have hu : IntKind.u8.wrap (112 + (k : Int)) = ((112 + k : Nat) : Int) := by rw [IntWalk.u8_in _ (by omega)]; omega
          have Hnm := Lib.hid (show ([byteOf (112 + k)] : List UInt8).all isPl = true by
            have hk4 : k = 0 ∨ k = 1 ∨ k = 2 ∨ k = 3 := by omega
            rcases hk4 with rfl | rfl | rfl | rfl <;> decide)
          have HF2 := Lib.hid hF.out.comma
          clear hk0
          go_wp2_with fail
          rw [← HT.out]
          refine (l91Field_any g (q + 1 + 1) 85 T [byteOf (112 + k)] _ (HR4.out.dalloc _) (by omega) (by simp) (by omega) (by simp) Hnm.out).mono ?_
          rintro e w5 ⟨l2, q2, rfl, ⟨hl2, hl2n⟩, hq2, hR5, hg5⟩
          have HR5 := Lib.hid hR5
          have hg5l := hR5.lt
          have Hg5 := Lib.hid (dgrown_trans Hg4.out (dgrown_trans (World.grownBy_alloc w4 _ (some g)) hg5))
          have Hl2 := Lib.hid hl2
          clear hR5 hg5 hl2
          go_wp2_with fail
          go_roundw
          case rel => exact ⟨(l ++ [44]) ++ l2, T, k + 1, q2, by simp, by first | rfl | rw [HT.out], by go_num, by omega, by omega, by simp only [List.length_append, List.length_cons, List.length_nil]; omega, by simp only [List.length_append, List.length_cons, List.length_nil]; omega, HF2.out.appF Hl2.out, (fun h => by omega), by omega, hg5l, HR5.out, Hg5.out⟩
          case measure => simp [intOf]; omega
      · have k2 : ¬ (k : Int) < 1 + (x : Int) := by omega
        have HRf := Lib.hid hR.out
        have Hgf := Lib.hid hg.out
        have HFf := Lib.hid hF.out
        go_wp2_with fail
        go_ret
        exact ⟨l ++ [10], q, by simp, ⟨HFf.out.sep (by decide), by simp only [List.length_append, List.length_cons, List.length_nil]; omega, by simp⟩, by omega, HRf.out, Hgf.out⟩
  · go_wp2_with fail
    go_loopw [7, 8, 10] (fun s t k wr => ∃ (l : List UInt8) (tg k' q : Nat), s = .string ⟨l.toArray⟩ ∧ t = .int .i64 (tg : Int) ∧ k = .int .i64 (k' : Int) ∧ k' ≤ (1 + x) ∧ tg ≤ 3 * k' ∧ l.length ≤ 3 + 21 * k' ∧ 1 ≤ l.length ∧ Hid (FSafe l) ∧ Hid (k' = 0 → LSafe l) ∧ q ≤ (p + 1) + 11 * k' ∧ g < wr.heap.size ∧ Hid (Rdr wr g q) ∧ Hid (w.grownBy wr (some g))) (fun _ _ k _ => (1 + x) - (intOf k).toNat)
    case atStart => exact ⟨[69, nc, 61], 0, 0, (p + 1), by simp, rfl, rfl, Nat.zero_le _, Nat.le_refl _, by simp, by simp, Hh.out.toF, fun _ => Hh.out, by omega, HR1.out.lt, HR1.out, Hg1.out⟩
    case round =>
      obtain ⟨l, tg, k, q, rfl, rfl, rfl, hk, htg, hll, hl1, hF, hL, hq, hgw, hR, hg⟩ := hrel
      by_cases hlt : k < (1 + x)
      · have k2 : (k : Int) < 1 + (x : Int) := by omega
        have k3 : k ≤ 3 := by omega
        go_wp2_with fail
        refine (pick_any g q 3 _ hR.out (by omega) (by omega) (by omega)).mono ?_
        rintro e w3 ⟨a, rfl, ha1, _, hR3, hg3⟩
        have ha : a ≤ 2 := by omega
        have HR3 := Lib.hid hR3
        have Hg3 := Lib.hid (dgrown_trans hg.out hg3)
        clear hR3 hg3 ha1
        go_wp2_with fail
        refine (pick_any g (q + 1) 2 _ HR3.out (by omega) (by omega) (by omega)).mono ?_
        rintro e w4 ⟨b, rfl, hb1, _, hR4, hg4⟩
        obtain ⟨T, hT, hT2⟩ : ∃ T : Nat, (T : Int) = (tg : Int) + 1 + (a : Int) * (b : Int) ∧ T ≤ 3 * (k + 1) := by
          have hb : b = 0 ∨ b = 1 := by omega
          rcases hb with rfl | rfl
          · exact ⟨tg + 1, by simp, by omega⟩
          · exact ⟨tg + 1 + a, by simp, by omega⟩
        have hab : (a : Int) * (b : Int) ≤ 2 := by
          have hb : b = 0 ∨ b = 1 := by omega
          rcases hb with rfl | rfl
          · simp
          · simp; omega
        have hab0 : 0 ≤ (a : Int) * (b : Int) := Int.mul_nonneg (by omega) (by omega)
        have HR4 := Lib.hid hR4
        have Hg4 := Lib.hid (dgrown_trans Hg3.out hg4)
        have HT := Lib.hid hT
        have hg4l := hR4.lt
        clear hR4 hg4 HR3 Hg3 hb1 hT
        by_cases hk0 : k = 0
        · have HL := Lib.hid (hL.out hk0)
          have hki : ¬ (0 : Int) < (k : Int) := by omega
          have hcv := fun W => Tryz.conv1 W w4.heap.size 1 (byteOf (112 + k))
          rw [byteOf_toNat (by omega)] at hcv
          have hu : IntKind.u8.wrap (112 + (k : Int)) = ((112 + k : Nat) : Int) := by rw [IntWalk.u8_in _ (by omega)]; omega
          have Hnm := Lib.hid (show ([byteOf (112 + k)] : List UInt8).all isPl = true by
            have hk4 : k = 0 ∨ k = 1 ∨ k = 2 ∨ k = 3 := by omega
            rcases hk4 with rfl | rfl | rfl | rfl <;> decide)
          clear hk0
          go_wp2_with fail
          rw [← HT.out]
          refine (l91Field_any g (q + 1 + 1) 69 T [byteOf (112 + k)] _ (HR4.out.dalloc _) (by omega) (by simp) (by omega) (by simp) Hnm.out).mono ?_
          rintro e w5 ⟨l2, q2, rfl, ⟨hl2, hl2n⟩, hq2, hR5, hg5⟩
          have HR5 := Lib.hid hR5
          have hg5l := hR5.lt
          have Hg5 := Lib.hid (dgrown_trans Hg4.out (dgrown_trans (World.grownBy_alloc w4 _ (some g)) hg5))
          have Hl2 := Lib.hid hl2
          clear hR5 hg5 hl2
          go_wp2_with fail
          go_roundw
          case rel => exact ⟨l ++ l2, T, k + 1, q2, by simp, by first | rfl | rw [HT.out], by go_num, by omega, by omega, by rw [List.length_append]; omega, by rw [List.length_append]; omega, HL.out.appF Hl2.out, (fun h => by omega), by omega, hg5l, HR5.out, Hg5.out⟩
          case measure => simp [intOf]; omega
        · have hki : (0 : Int) < (k : Int) := by omega
          have hcv := fun W => Tryz.conv1 W w4.heap.size 1 (byteOf (112 + k))
          rw [byteOf_toNat (by omega)] at hcv
          have hu : IntKind.u8.wrap (112 + (k : Int)) = ((112 + k : Nat) : Int) := by rw [IntWalk.u8_in _ (by omega)]; omega
          have Hnm := Lib.hid (show ([byteOf (112 + k)] : List UInt8).all isPl = true by
            have hk4 : k = 0 ∨ k = 1 ∨ k = 2 ∨ k = 3 := by omega
            rcases hk4 with rfl | rfl | rfl | rfl <;> decide)
          have HF2 := Lib.hid hF.out.comma
          clear hk0
          go_wp2_with fail
          rw [← HT.out]
          refine (l91Field_any g (q + 1 + 1) 69 T [byteOf (112 + k)] _ (HR4.out.dalloc _) (by omega) (by simp) (by omega) (by simp) Hnm.out).mono ?_
          rintro e w5 ⟨l2, q2, rfl, ⟨hl2, hl2n⟩, hq2, hR5, hg5⟩
          have HR5 := Lib.hid hR5
          have hg5l := hR5.lt
          have Hg5 := Lib.hid (dgrown_trans Hg4.out (dgrown_trans (World.grownBy_alloc w4 _ (some g)) hg5))
          have Hl2 := Lib.hid hl2
          clear hR5 hg5 hl2
          go_wp2_with fail
          go_roundw
          case rel => exact ⟨(l ++ [44]) ++ l2, T, k + 1, q2, by simp, by first | rfl | rw [HT.out], by go_num, by omega, by omega, by simp only [List.length_append, List.length_cons, List.length_nil]; omega, by simp only [List.length_append, List.length_cons, List.length_nil]; omega, HF2.out.appF Hl2.out, (fun h => by omega), by omega, hg5l, HR5.out, Hg5.out⟩
          case measure => simp [intOf]; omega
      · have k2 : ¬ (k : Int) < 1 + (x : Int) := by omega
        have HRf := Lib.hid hR.out
        have Hgf := Lib.hid hg.out
        have HFf := Lib.hid hF.out
        go_wp2_with fail
        go_ret
        exact ⟨l ++ [10], q, by simp, ⟨HFf.out.sep (by decide), by simp only [List.length_append, List.length_cons, List.length_nil]; omega, by simp⟩, by omega, HRf.out, Hgf.out⟩
end Go.Proofs.YtdhinlhafoiaiaaGreatDoor
