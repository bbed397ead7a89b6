/- The reader of codes: l6Open and pick. -/
import Derived.Test.YtjbpjpakcpjheaaLib2
import Derived.Deep.DeepCutAuto
import Derived.Laws.BitsAllLaws
import Derived.Laws.BitsLemmas
namespace Go.Proofs.Ytjbpjpakcpjheaa
open Go.RowKit
set_option maxRecDepth 100000
set_option linter.unusedVariables false

/-- A reader in block g, its place p: a code of at most 2000 bytes, which lies elsewhere. -/
def Rdr (w : World) (g p : Nat) : Prop :=
  ∃ A n c l, w.heap[g]? = some (.cells #[.slice A n c, .int .i64 (p : Int)] 65 (0, 0)) ∧ RowAt w A n (bcells l) ∧ n ≤ 2000 ∧ ∀ b off, A = some ⟨b, off, none⟩ → 0 < n → b < g

theorem Rdr.lt {w : World} {g p : Nat} (h : Rdr w g p) : g < w.heap.size := by
  obtain ⟨A, n, c, l, hh, _⟩ := h
  rcases Nat.lt_or_ge g w.heap.size with h1 | h1
  · exact h1
  · rw [Array.getElem?_eq_none h1] at hh; cases hh
theorem Rdr.below {w w' : World} {g p : Nat} (h : Rdr w g p) (hb : Below w.heap.size w w') : Rdr w' g p := by
  have hlt := h.lt
  obtain ⟨A, n, c, l, hh, hr, h2, h3⟩ := h
  exact ⟨A, n, c, l, (hb.block g hlt).trans hh, hr.below hb, h2, h3⟩

/-- What lies up to the reader is as it was. -/
theorem Rdr.belowg {w w' : World} {g p : Nat} (h : Rdr w g p) (hb : Below (g + 1) w w') (hs : w.heap.size ≤ w'.heap.size) : Rdr w' g p := by
  obtain ⟨A, n, c, l, hh, hr, h2, h3⟩ := h
  refine ⟨A, n, c, l, (hb.block g (by omega)).trans hh, ⟨hr.1, hr.2.1, fun hn => ?_⟩, h2, h3⟩
  obtain ⟨b, off, e, hlt, hc⟩ := hr.2.2 hn
  have := h3 b off e hn
  exact ⟨b, off, e, Nat.lt_of_lt_of_le hlt hs, fun j u hu => (hb.cell (p := ⟨b, off + j, none⟩) (by show b < g + 1; omega)).trans (hc j u hu)⟩

/-- The reader alone has turned, and what is new. -/
theorem RowAt.grown {w w' : World} {g : Nat} {A : Option Addr} {n : Nat} {xs : List Value} (h : RowAt w A n xs) (hg : w.grownBy w' (some g)) (hne : ∀ b off, A = some ⟨b, off, none⟩ → 0 < n → b ≠ g) : RowAt w' A n xs := by
  refine ⟨h.1, h.2.1, fun hn => ?_⟩
  obtain ⟨b, off, e, hlt, hc⟩ := h.2.2 hn
  refine ⟨b, off, e, Nat.lt_of_lt_of_le hlt hg.size, fun j u hu => ?_⟩
  exact (World.cell?_of_block (a := ⟨b, off + j, none⟩) (hg.block b hlt (fun h => hne b off e hn (Option.some.inj h)))).trans (hc j u hu)

theorem i64_xor_nat (a b : Nat) (ha : a < 4611686018427387904) (hb : b < 4611686018427387904) : ∃ x : Nat, bits .xor .i64 (a : Int) (b : Int) = (x : Int) ∧ x < 4611686018427387904 := by
  have hx : a ^^^ b < 2 ^ 62 := Nat.xor_lt_two_pow (by omega) (by omega)
  refine ⟨a ^^^ b, ?_, hx⟩
  show IntKind.i64.wrap ((BitVec.ofInt 64 (a : Int) ^^^ BitVec.ofInt 64 (b : Int)).toNat : Int) = _
  have ho : ∀ a : Nat, a < 4611686018427387904 → (BitVec.ofInt 64 (a : Int)).toNat = a := fun a ha => by
    rw [BitVec.ofInt_natCast, BitVec.toNat_ofNat]; exact Nat.mod_eq_of_lt (by omega)
  rw [BitVec.toNat_xor, ho a ha, ho b hb, IntKind.wrap_i64]
  omega

/-- What a call of pick leaves. -/
def PickPost (w : World) (g p : Nat) (n : Int) (e : Ending) (w' : World) : Prop :=
  ∃ x : Nat, e = .returned (.int .i64 (x : Int)) ∧ (1 ≤ n → (x : Int) < n) ∧ (n < 1 → x = 0) ∧ Rdr w' g (p + 1) ∧ w.grownBy w' (some g)

theorem pick_world {w : World} {g p : Nat} (h : Rdr w g p) (k : Nat) : Rdr ((w.setCell ⟨g, 1, none⟩ (.int .i64 ((p : Int) + 1))).drewN k) g (p + 1) ∧ w.grownBy ((w.setCell ⟨g, 1, none⟩ (.int .i64 ((p : Int) + 1))).drewN k) (some g) := by
  obtain ⟨A, n, c, l, hh, hr, h2, h3⟩ := h
  have hg : w.grownBy (w.setCell ⟨g, 1, none⟩ (.int .i64 ((p : Int) + 1))) (some g) :=
    ⟨rfl, rfl, rfl, by simp, fun k _ hk => heap_setCell_other w ⟨g, 1, none⟩ k _ (fun e => hk (by simp [e]))⟩
  have hg' : w.grownBy ((w.setCell ⟨g, 1, none⟩ (.int .i64 ((p : Int) + 1))).drewN k) (some g) := ⟨hg.os, hg.tape, hg.output, hg.size, hg.block⟩
  refine ⟨⟨A, n, c, l, ?_, hr.grown hg' (fun b off e hn => Nat.ne_of_lt (h3 b off e hn)), h2, h3⟩, hg'⟩
  have := heap_setCell_same w g 1 _ _ (.int .i64 ((p : Int) + 1)) hh
  have e : ((p + 1 : Nat) : Int) = (p : Int) + 1 := by omega
  rw [e]
  exact this

set_option maxHeartbeats 1000000 in
theorem pick_any (g p : Nat) (n : Int) (w : World) (h : Rdr w g p) (hp : p ≤ 1000000000) (hn : n ≤ 1000000000) (hn0 : -1000000000 ≤ n) :
    Calls Try.prog 45 #[.pointer (some ⟨g, 0, none⟩), .int .i64 n] w (PickPost w g p n) := by
  have hw := fun k => pick_world h k
  have Hw := Lib.hid hw
  clear hw
  obtain ⟨A, m, c, l, hh, hr, h2, h3⟩ := h
  have hc0 : w.cell? ⟨g, 0, none⟩ = some (.slice A m c) := by simp [World.cell?, hh]
  have hc1 : w.cell? ⟨g, 1, none⟩ = some (.int .i64 (p : Int)) := by simp [World.cell?, hh]
  have hf : w.frozen? ⟨g, 1, none⟩ = false := by simp [World.frozen?, hh]
  have Hh := Lib.hid hh
  clear hh
  by_cases hn1 : n < 1
  · have H3 := Lib.hid h3
    clear h3
    go_enter Try.func45, Try.ntmps45
    go_wp2
    go_ret
    exact ⟨0, rfl, by omega, fun _ => rfl, (Hw.out 0).1, (Hw.out 0).2⟩
  · by_cases hm : m = 0
    · have H3 := Lib.hid h3
      clear h3
      subst hm
      go_enter Try.func45, Try.ntmps45
      go_wp2
      go_ret
      exact ⟨0, rfl, by omega, fun _ => rfl, (Hw.out 0).1, (Hw.out 0).2⟩
    · have hm1 : 0 < m := by omega
      have tm : ((m : Int) == 0) = false := by simp; omega
      have hl : l.length = m := by have := hr.1; simpa [bcells] using this
      by_cases hk : p < m
      · obtain ⟨b, o, rfl, hb, hx⟩ := hr.at_ hk
        have hbg : b ≠ g := Nat.ne_of_lt (h3 b o rfl hm1)
        have hx' : w.cell? ⟨b, o + p, none⟩ = some (.int .u8 ((l[p]'(by omega)).toNat : Int)) := by rw [hx]; simp [bcells]
        have hlt := (l[p]'(by omega)).toNat_lt
        generalize (l[p]'(show p < l.length by omega)).toNat = y at hx' hlt
        clear hx h3 tm
        have tm : ((m : Int) == 0) = false := by simp; omega
        have i1 : (0 : Int) ≤ (p : Int) := by omega
        have i2 : (p : Int) < (m : Int) := by omega
        go_enter Try.func45, Try.ntmps45
        go_wp2
        go_ret
        have hn' : (0 : Int) < n := by omega
        have e1 := Int.emod_nonneg (y : Int) (show n ≠ 0 by omega)
        have e2 := Int.emod_lt_of_pos (y : Int) hn'
        exact ⟨((y : Int) % n).toNat, ret1 (vint (by omega)), by omega, by omega, (Hw.out 0).1, (Hw.out 0).2⟩
      · obtain ⟨b, o, rfl, hb, hcell⟩ := hr.2.2 hm1
        have hbg : b ≠ g := Nat.ne_of_lt (h3 b o rfl hm1)
        have m1 : p % m < m := Nat.mod_lt _ hm1
        have m2 : (p * 7 + 3) % m < m := Nat.mod_lt _ hm1
        have hx1 := hcell (p % m) _ (List.getElem?_eq_getElem (show p % m < (bcells l).length by rw [bcells_length]; omega))
        have hx2 := hcell ((p * 7 + 3) % m) _ (List.getElem?_eq_getElem (show (p * 7 + 3) % m < (bcells l).length by rw [bcells_length]; omega))
        simp only [bcells, List.getElem_map] at hx1 hx2
        have hlt1 := (l[p % m]'(by omega)).toNat_lt
        have hlt2 := (l[(p * 7 + 3) % m]'(by omega)).toNat_lt
        generalize (l[p % m]'(show p % m < l.length by omega)).toNat = y1 at hx1 hlt1
        generalize (l[(p * 7 + 3) % m]'(show (p * 7 + 3) % m < l.length by omega)).toNat = y2 at hx2 hlt2
        have M1 : ((p : Int).tmod m) = ((p % m : Nat) : Int) := by rw [Int.tmod_eq_emod_of_nonneg (by omega)]; omega
        have M2 : (((p : Int) * 7 + 3).tmod m) = (((p * 7 + 3) % m : Nat) : Int) := by rw [Int.tmod_eq_emod_of_nonneg (by omega)]; simp
        have M3 : ((p : Int).tdiv m) = ((p / m : Nat) : Int) := by rw [Int.tdiv_eq_ediv_of_nonneg (by omega)]; omega
        have m3 : p / m ≤ p := Nat.div_le_self _ _
        generalize p % m = k1 at M1 hx1 m1
        generalize (p * 7 + 3) % m = k2 at M2 hx2 m2
        generalize p / m = k3 at M3 m3
        have a1 : IntKind.i64.wrap ((y1 : Int) * 131) = (y1 : Int) * 131 := IntWalk.i64_in _ (by omega)
        have a2 : IntKind.i64.wrap ((y2 : Int) * 1117) = (y2 : Int) * 1117 := IntWalk.i64_in _ (by omega)
        have a3 : IntKind.i64.wrap ((y1 : Int) * 131 + (y2 : Int) * 1117) = (y1 : Int) * 131 + (y2 : Int) * 1117 := IntWalk.i64_in _ (by omega)
        have a4 : IntKind.i64.wrap ((p : Int) * 29) = (p : Int) * 29 := IntWalk.i64_in _ (by omega)
        have a5 : IntKind.i64.wrap ((y1 : Int) * 131 + (y2 : Int) * 1117 + (p : Int) * 29) = (y1 : Int) * 131 + (y2 : Int) * 1117 + (p : Int) * 29 := IntWalk.i64_in _ (by omega)
        have a7 : IntKind.i64.wrap ((k3 : Int) * 53) = (k3 : Int) * 53 := IntWalk.i64_in _ (by omega)
        have a9 : IntKind.i64.wrap ((p : Int) * 7) = (p : Int) * 7 := IntWalk.i64_in _ (by omega)
        have a10 : IntKind.i64.wrap ((p : Int) * 7 + 3) = (p : Int) * 7 + 3 := IntWalk.i64_in _ (by omega)
        obtain ⟨z, a8, hz⟩ : ∃ z : Nat, IntKind.i64.wrap ((y1 : Int) * 131 + (y2 : Int) * 1117 + (p : Int) * 29 + (k3 : Int) * 53) = (z : Int) ∧ z < 4611686018427387904 :=
          ⟨y1 * 131 + y2 * 1117 + p * 29 + k3 * 53, by rw [IntWalk.i64_in _ (by omega)]; omega, by omega⟩
        obtain ⟨x, hx, hxl⟩ := i64_xor_nat z (z / 64) hz (by omega)
        rw [show ((z / 64 : Nat) : Int) = (z : Int) / 64 from by omega] at hx
        clear hcell h3 hm hr
        have i1 : (0 : Int) ≤ (p : Int) := by omega
        have i2 : (0 : Int) < (m : Int) := by omega
        have i3 : (0 : Int) ≤ (k1 : Int) := by omega
        have i4 : (k1 : Int) < (m : Int) := by omega
        have i5 : (0 : Int) ≤ (k2 : Int) := by omega
        have i6 : (k2 : Int) < (m : Int) := by omega
        have j1 : (0 : Int) ≤ (z : Int) := by omega
        have j2 : (0 : Int) ≤ (x : Int) := by omega
        go_enter Try.func45, Try.ntmps45
        go_wp2
        go_quiet (fail)
        clear a1 a2 a3 a4 a5 a7 a9 a10 a8 M1 M2 M3
        go_wp2
        go_ret
        have hn' : (0 : Int) < n := by omega
        have e1 := Int.emod_nonneg (x : Int) (show n ≠ 0 by omega)
        have e2 := Int.emod_lt_of_pos (x : Int) hn'
        exact ⟨((x : Int) % n).toNat, ret1 (vint (by omega)), by omega, by omega, (Hw.out _).1, (Hw.out _).2⟩
end Go.Proofs.Ytjbpjpakcpjheaa
