/- Texts joined: DSchema, Draws. Conditions: as each theorem names them. -/
import Derived.Test.YtdhinlhafoiaiaaGreatDoorK09
import Derived.Test.YtdhinlhafoiaiaaGreatDoorK17
import Derived.Test.YtdhinlhafoiaiaaGreatDoorK26
/- Drawn schemas, and kinds of a schema. -/
namespace Go.Proofs.YtdhinlhafoiaiaaGreatDoor
open Go.RowKit
set_option maxRecDepth 100000
set_option linter.unusedVariables false
set_option linter.unusedSimpArgs false
attribute [local go_sem] ba_get ba_toList ba_extract take_drop_all ByteArray.mk_append_mk

theorem sSchemaOk_any (s : List UInt8) (w : World) (hs : s.length ≤ 4000000) :
    Calls Tryz.prog 88 #[.string ⟨s.toArray⟩] w fun e w' => e = .returned (.bool (schemaL s).isSome) ∧ Below w.heap.size w w' := by
  have H := Lib.hid (fun W => sOf_any s W hs)
  generalize schemaL s = o at *
  go_enter Tryz.func88, Tryz.ntmps88
  go_wp2_with fail
  refine (H.out _).mono ?_
  rintro e w1 ⟨hc, hb⟩
  have Hb := Lib.hid hb
  clear hb
  cases o with
  | none =>
    obtain ⟨A, n, c, rfl⟩ := hc
    go_wp2_with fail
    go_ret
    exact ⟨rfl, Hb.out⟩
  | some S =>
    obtain ⟨v, xs, rfl, _, _⟩ := hc
    go_wp2_with fail
    go_ret
    exact ⟨rfl, Hb.out⟩

def sortTs : List (List UInt8) := [[82], [85], [85], [69]]
def sortTs2 : List (List UInt8) := [[82], [69], [85]]
def insTs : List (List UInt8) := [[], [44], [58], [49], [10]]
def someTs : List (List UInt8) := [[64, 97, 59], [64, 97, 59], [64, 97, 59], [64, 98, 59], [64, 99, 59], [91, 110], [63, 64, 97, 59], [110], [116], [91, 64, 98, 59], [63, 91, 102]]
def plainSc : List UInt8 := [82, 97, 61, 49, 58, 112, 58, 110, 61, 53, 44, 50, 58, 113, 58, 91, 116, 44, 52, 58, 114, 58, 63, 64, 97, 59, 44, 53, 58, 115, 58, 64, 98, 59, 10, 85, 98, 61, 49, 58, 112, 58, 110, 44, 51, 58, 113, 58, 64, 97, 59, 10, 69, 99, 61, 49, 58, 112, 44, 50, 58, 113, 10]
/-- A schema that is drawn: short, its runs of signs short. -/
def DSc (l : List UInt8) : Prop := l.length ≤ 270 ∧ NoRun l
/-- .. before a byte may be turned. -/
def DSc0 (l : List UInt8) : Prop := l.length ≤ 264 ∧ 1 ≤ l.length ∧ ∃ st, mach (0, 0) l = some st
theorem DSc0.three {a b c : List UInt8} (ha : LSafe a ∧ a.length ≤ 88 ∧ 1 ≤ a.length) (hb : LSafe b ∧ b.length ≤ 88 ∧ 1 ≤ b.length) (hc : LSafe c ∧ c.length ≤ 88 ∧ 1 ≤ c.length) : DSc0 (a ++ b ++ c) := by
  obtain ⟨u, e, _⟩ := ((ha.1.app hb.1).app hc.1) 0 (by omega)
  exact ⟨by simp only [List.length_append]; omega, by simp only [List.length_append]; omega, _, e⟩
theorem DSc0.plain : DSc0 plainSc := ⟨by decide, by decide, (0, 0), by decide⟩
theorem DSc0.out {l : List UInt8} (h : DSc0 l) : DSc l := ⟨by have := h.1; omega, by obtain ⟨_, _, st, e⟩ := h; exact NoRun.of_mach e⟩
theorem DSc0.turned {l i : List UInt8} {k : Nat} (h : DSc0 l) (hk : k < l.length) (hi : i ∈ insTs) : DSc (l.take k ++ (i ++ l.drop (k + 1))) := by
  obtain ⟨h1, _, s, e⟩ := h
  have hil : i.length ≤ 1 := (show ∀ i ∈ insTs, i.length ≤ 1 by decide) i hi
  refine ⟨by simp only [List.length_append, List.length_take, List.length_drop]; omega, ?_⟩
  have e2 : l = l.take k ++ l[k] :: l.drop (k + 1) := by
    rw [List.getElem_cons_drop, List.take_append_drop]
  rw [e2] at e
  refine NoRun.turned e i ?_
  have : i = [] ∨ i = [44] ∨ i = [58] ∨ i = [49] ∨ i = [10] := by simpa [insTs] using hi
  rcases this with rfl | rfl | rfl | rfl | rfl
  · exact .inl rfl
  · exact .inr ⟨44, rfl, by decide, by decide⟩
  · exact .inr ⟨58, rfl, by decide, by decide⟩
  · exact .inr ⟨49, rfl, by decide, by decide⟩
  · exact .inr ⟨10, rfl, by decide, by decide⟩

theorem sort_of {s : List UInt8} (h : s ∈ sortTs ∨ s ∈ sortTs2) : ∃ c : UInt8, s = [c] ∧ (c = 82 ∨ c = 85 ∨ c = 69) := by
  have hd : (∀ s ∈ sortTs, s = [82] ∨ s = [85] ∨ s = [69]) ∧ (∀ s ∈ sortTs2, s = [82] ∨ s = [85] ∨ s = [69]) := by decide
  have : s = [82] ∨ s = [85] ∨ s = [69] := h.elim (hd.1 s) (hd.2 s)
  rcases this with rfl | rfl | rfl
  · exact ⟨82, rfl, .inl rfl⟩
  · exact ⟨85, rfl, .inr (.inl rfl)⟩
  · exact ⟨69, rfl, .inr (.inr rfl)⟩

/-- The end of a drawing: a byte may be turned. -/
def EndPost (s : List UInt8) (w : World) (g q : Nat) (e : Ending) (w' : World) : Prop := DrPost DSc w g q 6 e w'

set_option maxHeartbeats 4000000 in
theorem l91Schema_any (g p : Nat) (w : World) (h : Rdr w g p) (hp : p ≤ 1000000) :
    Calls Tryz.prog 53 #[.pointer (some ⟨g, 0, none⟩)] w (DrPost DSc w g p 170) := by
  have hgl := h.lt
  have HR := Lib.hid h
  clear h
  go_enter Tryz.func53, Tryz.ntmps53
  go_wp2_with fail
  refine (l91Type_any g p 82 97 _ HR.out (by omega) (.inl rfl) (by decide)).mono ?_
  rintro e w1 ⟨l1, q1, rfl, hl1, hq1, hR1, hg1⟩
  have hg1l := hR1.lt
  have HR1 := Lib.hid hR1
  have Hg1 := Lib.hid hg1
  have Hl1 := Lib.hid hl1
  have l1l := hl1.2.1
  clear hR1 hg1 hl1 HR
  go_wp2_with fail
  refine (pick_any g q1 4 _ (HR1.out.dalloc _) (by omega) (by omega) (by omega)).mono ?_
  rintro e w2 ⟨x, rfl, hx1, _, hR2, hg2⟩
  have hx : x < sortTs.length := by show x < 4; omega
  obtain ⟨s2, hsm, hcell⟩ := ((TRow.new w1 sortTs).grown hg2 (by omega)).cell hx
  obtain ⟨c2, rfl, hc2⟩ := sort_of (.inl hsm)
  have i1 : (0 : Int) ≤ (x : Int) := by omega
  have i2 : (x : Int) < 4 := by omega
  have HR2 := Lib.hid hR2
  have Hg2 := Lib.hid (dgrown_trans Hg1.out (dgrown_trans (World.grownBy_alloc w1 _ (some g)) hg2))
  have Hc2 := Lib.hid hc2
  clear hR2 hg2 hsm hc2 HR1 Hg1
  go_wp2_with fail
  refine (l91Type_any g (q1 + 1) c2 98 _ HR2.out (by omega) Hc2.out (by decide)).mono ?_
  rintro e w3 ⟨l3, q3, rfl, hl3, hq3, hR3, hg3⟩
  have hg3l := hR3.lt
  have HR3 := Lib.hid hR3
  have Hg3 := Lib.hid (dgrown_trans Hg2.out hg3)
  have Hl3 := Lib.hid hl3
  have l3l := hl3.2.1
  clear hR3 hg3 hl3 HR2 Hg2 hcell
  go_wp2_with fail
  refine (pick_any g q3 3 _ (HR3.out.dalloc _) (by omega) (by omega) (by omega)).mono ?_
  rintro e w4 ⟨y, rfl, hy1, _, hR4, hg4⟩
  have hy : y < sortTs2.length := by show y < 3; omega
  obtain ⟨s4, hsm, hcell⟩ := ((TRow.new w3 sortTs2).grown hg4 (by omega)).cell hy
  obtain ⟨c4, rfl, hc4⟩ := sort_of (.inr hsm)
  have j1 : (0 : Int) ≤ (y : Int) := by omega
  have j2 : (y : Int) < 3 := by omega
  have HR4 := Lib.hid hR4
  have Hg4 := Lib.hid (dgrown_trans Hg3.out (dgrown_trans (World.grownBy_alloc w3 _ (some g)) hg4))
  have Hc4 := Lib.hid hc4
  clear hR4 hg4 hsm hc4 HR3 Hg3
  go_wp2_with fail
  refine (l91Type_any g (q3 + 1) c4 99 _ HR4.out (by omega) Hc4.out (by decide)).mono ?_
  rintro e w5 ⟨l5, q5, rfl, hl5, hq5, hR5, hg5⟩
  have hg5l := hR5.lt
  have HR5 := Lib.hid hR5
  have Hg5 := Lib.hid (dgrown_trans Hg4.out hg5)
  have l5l := hl5.2.1
  have Hs := Lib.hid (DSc0.three Hl1.out Hl3.out hl5)
  have hsl : (l1 ++ (l3 ++ l5)).length ≤ 264 := by simp only [List.length_append]; omega
  rw [List.append_assoc] at Hs
  clear hR5 hg5 hl5 HR4 Hg4 hcell
  have Hsok := Lib.hid (fun W => sSchemaOk_any (l1 ++ (l3 ++ l5)) W (by omega))
  go_wp2_with fail
  refine (Hsok.out _).mono ?_
  rintro e w6 ⟨rfl, hb6⟩
  have HR6 := Lib.hid (HR5.out.below hb6)
  have Hg6 := Lib.hid (dgrown_trans Hg5.out (dgrown_below hb6 (some g)))
  have hg6l := HR6.out.lt
  clear hb6 HR5 Hg5 Hl1 Hl3
  generalize (schemaL (l1 ++ (l3 ++ l5))).isSome = ok at *
  cases ok with
  | true =>
    clear Hsok
    generalize l1 ++ (l3 ++ l5) = s at hsl Hs ⊢
    have hs1 : 1 ≤ s.length := Hs.out.2.1
    go_wp2_with fail
    refine (pick_any g q5 24 _ HR6.out (by omega) (by omega) (by omega)).mono ?_
    rintro e w8 ⟨z, rfl, hz1, _, hR8, hg8⟩
    have HR8 := Lib.hid hR8
    have Hg8 := Lib.hid (dgrown_trans Hg6.out hg8)
    have hg8l := hR8.lt
    clear hR8 hg8 HR6 Hg6 hz1
    by_cases hz0 : z = 0
    · subst hz0
      go_wp2_with fail
      refine (pick_any g (q5 + 1) _ _ HR8.out (by omega) (by omega) (by omega)).mono ?_
      rintro e w9 ⟨k, rfl, hk1, _, hR9, hg9⟩
      have hk1 := hk1 (by omega)
      have hk : k < s.length := by omega
      have i5 : (0 : Int) ≤ (k : Int) := by omega
      have i6 : (k : Int) < (s.length : Int) := by omega
      obtain ⟨q9, hq9, HR9⟩ : ∃ q9, q9 ≤ q5 + 2 ∧ Hid (Rdr w9 g q9) := ⟨_, by omega, Lib.hid hR9⟩
      have Hg9 := Lib.hid (dgrown_trans Hg8.out hg9)
      clear hR9 hg9 HR8 Hg8
      have hwr : IntKind.i64.wrap ((k : Int) + 1) = (k : Int) + 1 := IntWalk.i64_in _ (by omega)
      go_wp2_with fail
      refine wp_region_slots3 [38, 39, 40, 41, 42, 43, 44, 45, 46, 47, 48, 49, 50, 51, 2] (by kernel_rfl) (by kernel_rfl) (by kernel_rfl) (fun u => by dsimp only [frameOf, setMany, List.set, Nat.zero_add, Nat.reduceAdd])
        (fun ix v W => match ix with | 0 => v = .string ⟨(s : List UInt8).toArray⟩ | 1 => v = .int .i64 (k : Int) | 2 => v = .string ⟨(s.take k : List UInt8).toArray⟩ | 3 => ∃ b, v = .slice (some ⟨b, 0, none⟩) 5 5 | 4 => v = .pointer (some ⟨g, 0, none⟩) | 5 => ∃ y : Nat, v = .int .i64 (y : Int) ∧ y < 5 | 6 => ∃ b y, v = .pointer (some ⟨b, y, none⟩) | 7 => ∃ i, i ∈ insTs ∧ v = .string ⟨i.toArray⟩ | 8 => ∃ i, i ∈ insTs ∧ v = .string ⟨(s.take k ++ i).toArray⟩ | 9 => v = .string ⟨(s : List UInt8).toArray⟩ | 10 => v = .int .i64 (k : Int) | 11 => v = .int .i64 ((k : Int) + 1) | 12 => v = .string ⟨(s.drop (k + 1) : List UInt8).toArray⟩ | 13 => ∃ i, i ∈ insTs ∧ v = .string ⟨(s.take k ++ (i ++ s.drop (k + 1))).toArray⟩ | 14 => ∃ i, i ∈ insTs ∧ v = .string ⟨(s.take k ++ (i ++ s.drop (k + 1))).toArray⟩ | _ => True)
        (fun L U W => Rdr W g (if L 5 = true then q9 + 1 else q9) ∧ w.grownBy W (some g) ∧ (L 3 = true → ∃ b, U 3 = .slice (some ⟨b, 0, none⟩) 5 5 ∧ b ≠ g ∧ TRow W b insTs) ∧ (L 6 = true → ∃ b y, U 6 = .pointer (some ⟨b, y, none⟩) ∧ b ≠ g ∧ y < 5 ∧ TRow W b insTs)) (fun _ _ => True) (fun _ _ _ _ _ h => h) (⟨by simpa using HR9.out.ddrew, dgrown_drew Hg9.out, fun h => Bool.noConfusion h, fun h => Bool.noConfusion h⟩) ?_ ?_
      · repeat (first | exact Steps.nil | (refine Steps.cons ?_ ?_; rotate_left))
        all_goals
          rintro L U W hL hpre hR hun hdep K hK
          have HR := Lib.hid hR
          obtain ⟨hR0, hG0, R3, R6⟩ := HR.out
          clear hun hdep hR
          first | (simp [Region.binds] at hpre; done) | simp [Region.binds] at hpre | clear hpre
        iterate 2
          · go_simp
            first | exact hK _ _ _ rfl trivial HR.out rfl | exact hK _ _ _ rfl trivial HR.out (by simp [Act.put, hpre, hwr]) | exact hK undef _ _ trivial trivial HR.out (by simp [Act.put, hpre, hwr]) | exact hK _ _ _ trivial trivial HR.out rfl | exact hK _ _ _ trivial trivial HR.out (by simp [Act.put, hpre, hwr])
        · go_simp
          rw [if_pos (by omega)]
          go_simp
          first | exact hK _ _ _ rfl trivial HR.out rfl | exact hK _ _ _ rfl trivial HR.out (by simp [Act.put, hpre])
        · have hgl := hR0.lt
          go_simp
          exact hK _ _ _ ⟨_, rfl⟩ trivial ⟨by simpa using hR0.dalloc _, dgrown_trans hG0 (World.grownBy_alloc W _ _), fun _ => ⟨W.heap.size, rfl, by omega, TRow.new W insTs⟩, fun h => by obtain ⟨b, y, q1, q2, q3, q4⟩ := R6 (by simpa using h); exact ⟨b, y, by simpa using q1, q2, q3, q4.grown (World.grownBy_alloc W _ (some g)) q2⟩⟩ rfl
        · go_simp
          first | exact hK _ _ _ rfl trivial HR.out rfl | exact hK _ _ _ rfl trivial HR.out (by simp [Act.put, hpre, hwr]) | exact hK undef _ _ trivial trivial HR.out (by simp [Act.put, hpre, hwr]) | exact hK _ _ _ trivial trivial HR.out rfl | exact hK _ _ _ trivial trivial HR.out (by simp [Act.put, hpre, hwr])
        · go_simp
          have hR1 : Rdr W g q9 := by simpa [hL] using hR0
          refine (pick_any g q9 5 W hR1 (by omega) (by omega) (by omega)).mono ?_
          rintro e w' ⟨y, rfl, hy1, _, hRy, hgy⟩
          exact hK _ _ _ ⟨y, rfl, by omega⟩ trivial ⟨by simpa using hRy, dgrown_trans hG0 hgy, fun h => by obtain ⟨b, q1, q2, q3⟩ := R3 (by simpa using h); exact ⟨b, by simpa using q1, q2, q3.grown hgy q2⟩, fun h => by obtain ⟨b, y, q1, q2, q3, q4⟩ := R6 (by simpa using h); exact ⟨b, y, by simpa using q1, q2, q3, q4.grown hgy q2⟩⟩ (by simp [Act.put, hpre])
        · obtain ⟨⟨l3, _⟩, l5, y, u5, hy⟩ := hpre
          obtain ⟨b, u3, hb, hT⟩ := R3 l3
          have y1 : (0 : Int) ≤ (y : Int) := by omega
          have y2 : (y : Int) < 5 := by omega
          go_simp
          exact hK _ _ _ ⟨b, y, rfl⟩ trivial ⟨by simpa using hR0, hG0, fun h => by obtain ⟨b, q1, q2, q3⟩ := R3 (by simpa using h); exact ⟨b, by simpa using q1, q2, q3⟩, fun _ => ⟨b, y, rfl, hb, hy, hT⟩⟩ (by simp [Act.put, u3, u5])
        · obtain ⟨l6, _⟩ := hpre
          obtain ⟨b, y, u6, hb, hy, hT⟩ := R6 l6
          obtain ⟨s7, hm7, hc7⟩ := hT.cell (show y < insTs.length from hy)
          go_simp
          exact hK _ _ _ ⟨s7, hm7, rfl⟩ trivial ⟨by simpa using hR0, hG0, fun h => by obtain ⟨b, q1, q2, q3⟩ := R3 (by simpa using h); exact ⟨b, by simpa using q1, q2, q3⟩, fun h => by obtain ⟨b, y, q1, q2, q3, q4⟩ := R6 (by simpa using h); exact ⟨b, y, by simpa using q1, q2, q3, q4⟩⟩ (by simp [Act.put, u6])
        · obtain ⟨⟨_, u2⟩, _, i, hi, u7⟩ := hpre
          have hil : i.length ≤ 1 := (show ∀ i ∈ insTs, i.length ≤ 1 by decide) i hi
          go_simp
          rw [if_neg (by simp; omega)]
          go_simp
          exact hK _ _ _ ⟨i, hi, rfl⟩ trivial ⟨by simpa using hR0, hG0, fun h => by obtain ⟨b, q1, q2, q3⟩ := R3 (by simpa using h); exact ⟨b, by simpa using q1, q2, q3⟩, fun h => by obtain ⟨b, y, q1, q2, q3, q4⟩ := R6 (by simpa using h); exact ⟨b, y, by simpa using q1, q2, q3, q4⟩⟩ (by simp [Act.put, u2, u7])
        iterate 3
          · go_simp
            first | exact hK _ _ _ rfl trivial HR.out rfl | exact hK _ _ _ rfl trivial HR.out (by simp [Act.put, hpre, hwr]) | exact hK undef _ _ trivial trivial HR.out (by simp [Act.put, hpre, hwr]) | exact hK _ _ _ trivial trivial HR.out rfl | exact hK _ _ _ trivial trivial HR.out (by simp [Act.put, hpre, hwr])
        · go_simp
          rw [if_pos (by omega)]
          go_simp
          first | exact hK _ _ _ rfl trivial HR.out rfl | exact hK _ _ _ rfl trivial HR.out (by simp [Act.put, hpre])
        · obtain ⟨⟨_, i, hi, u8⟩, _, u12⟩ := hpre
          have hil : i.length ≤ 1 := (show ∀ i ∈ insTs, i.length ≤ 1 by decide) i hi
          go_simp
          rw [if_neg (by simp; omega)]
          go_simp
          exact hK _ _ _ ⟨i, hi, rfl⟩ trivial ⟨by simpa using hR0, hG0, fun h => by obtain ⟨b, q1, q2, q3⟩ := R3 (by simpa using h); exact ⟨b, by simpa using q1, q2, q3⟩, fun h => by obtain ⟨b, y, q1, q2, q3, q4⟩ := R6 (by simpa using h); exact ⟨b, y, by simpa using q1, q2, q3, q4⟩⟩ (by simp [Act.put, u8, u12])
        · obtain ⟨⟨_, i, hi, u13⟩, hrest⟩ := hpre
          go_simp
          exact hK _ _ _ ⟨i, hi, rfl⟩ trivial ⟨by simpa using hR0, hG0, fun h => by obtain ⟨b, q1, q2, q3⟩ := R3 (by simpa using h); exact ⟨b, by simpa using q1, q2, q3⟩, fun h => by obtain ⟨b, y, q1, q2, q3, q4⟩ := R6 (by simpa using h); exact ⟨b, y, by simpa using q1, q2, q3, q4⟩⟩ (by simp [Act.put, u13, hrest])
      · rintro L U W hL hφ hR
        obtain ⟨i, hi, e14⟩ := hφ 14 (by decide)
        simp only [e14]
        have hR0 : Rdr W g (q9 + 1) := by simpa [hL 5 (by decide)] using hR.1
        have hG0 := hR.2.1
        clear hφ hL hR
        go_wp2_with fail
        go_ret
        exact ⟨_, q9 + 1, rfl, DSc0.turned Hs.out hk hi, by omega, hR0, hG0⟩
    · have tz : ((z : Int) == 0) = false := by simp; omega
      clear hz0
      go_wp2_with fail
      go_ret
      exact ⟨s, q5 + 1, rfl, Hs.out.out, by omega, HR8.out, Hg8.out⟩
  | false =>
    go_wp2_with fail
    refine (pick_any g q5 8 _ HR6.out (by omega) (by omega) (by omega)).mono ?_
    rintro e w7 ⟨u, rfl, hu1, _, hR7, hg7⟩
    have HR7 := Lib.hid hR7
    have Hg7 := Lib.hid (dgrown_trans Hg6.out hg7)
    have hg7l := hR7.lt
    clear hR7 hg7 HR6 Hg6 hu1
    by_cases hu0 : u = 0
    · subst hu0
      clear Hsok
      generalize l1 ++ (l3 ++ l5) = s at hsl Hs ⊢
      have hs1 : 1 ≤ s.length := Hs.out.2.1
      go_wp2_with fail
      refine (pick_any g (q5 + 1) 24 _ HR7.out (by omega) (by omega) (by omega)).mono ?_
      rintro e w8 ⟨z, rfl, hz1, _, hR8, hg8⟩
      have HR8 := Lib.hid hR8
      have Hg8 := Lib.hid (dgrown_trans Hg7.out hg8)
      have hg8l := hR8.lt
      clear hR8 hg8 HR7 Hg7 hz1
      by_cases hz0 : z = 0
      · subst hz0
        go_wp2_with fail
        refine (pick_any g ((q5 + 1) + 1) _ _ HR8.out (by omega) (by omega) (by omega)).mono ?_
        rintro e w9 ⟨k, rfl, hk1, _, hR9, hg9⟩
        have hk1 := hk1 (by omega)
        have hk : k < s.length := by omega
        have i5 : (0 : Int) ≤ (k : Int) := by omega
        have i6 : (k : Int) < (s.length : Int) := by omega
        obtain ⟨q9, hq9, HR9⟩ : ∃ q9, q9 ≤ (q5 + 1) + 2 ∧ Hid (Rdr w9 g q9) := ⟨_, by omega, Lib.hid hR9⟩
        have Hg9 := Lib.hid (dgrown_trans Hg8.out hg9)
        clear hR9 hg9 HR8 Hg8
        have hwr : IntKind.i64.wrap ((k : Int) + 1) = (k : Int) + 1 := IntWalk.i64_in _ (by omega)
        go_wp2_with fail
        refine wp_region_slots3 [38, 39, 40, 41, 42, 43, 44, 45, 46, 47, 48, 49, 50, 51, 2] (by kernel_rfl) (by kernel_rfl) (by kernel_rfl) (fun u => by dsimp only [frameOf, setMany, List.set, Nat.zero_add, Nat.reduceAdd])
          (fun ix v W => match ix with | 0 => v = .string ⟨(s : List UInt8).toArray⟩ | 1 => v = .int .i64 (k : Int) | 2 => v = .string ⟨(s.take k : List UInt8).toArray⟩ | 3 => ∃ b, v = .slice (some ⟨b, 0, none⟩) 5 5 | 4 => v = .pointer (some ⟨g, 0, none⟩) | 5 => ∃ y : Nat, v = .int .i64 (y : Int) ∧ y < 5 | 6 => ∃ b y, v = .pointer (some ⟨b, y, none⟩) | 7 => ∃ i, i ∈ insTs ∧ v = .string ⟨i.toArray⟩ | 8 => ∃ i, i ∈ insTs ∧ v = .string ⟨(s.take k ++ i).toArray⟩ | 9 => v = .string ⟨(s : List UInt8).toArray⟩ | 10 => v = .int .i64 (k : Int) | 11 => v = .int .i64 ((k : Int) + 1) | 12 => v = .string ⟨(s.drop (k + 1) : List UInt8).toArray⟩ | 13 => ∃ i, i ∈ insTs ∧ v = .string ⟨(s.take k ++ (i ++ s.drop (k + 1))).toArray⟩ | 14 => ∃ i, i ∈ insTs ∧ v = .string ⟨(s.take k ++ (i ++ s.drop (k + 1))).toArray⟩ | _ => True)
          (fun L U W => Rdr W g (if L 5 = true then q9 + 1 else q9) ∧ w.grownBy W (some g) ∧ (L 3 = true → ∃ b, U 3 = .slice (some ⟨b, 0, none⟩) 5 5 ∧ b ≠ g ∧ TRow W b insTs) ∧ (L 6 = true → ∃ b y, U 6 = .pointer (some ⟨b, y, none⟩) ∧ b ≠ g ∧ y < 5 ∧ TRow W b insTs)) (fun _ _ => True) (fun _ _ _ _ _ h => h) (⟨by simpa using HR9.out.ddrew, dgrown_drew Hg9.out, fun h => Bool.noConfusion h, fun h => Bool.noConfusion h⟩) ?_ ?_
        · repeat (first | exact Steps.nil | (refine Steps.cons ?_ ?_; rotate_left))
          all_goals
            rintro L U W hL hpre hR hun hdep K hK
            have HR := Lib.hid hR
            obtain ⟨hR0, hG0, R3, R6⟩ := HR.out
            clear hun hdep hR
            first | (simp [Region.binds] at hpre; done) | simp [Region.binds] at hpre | clear hpre
          iterate 2
            · go_simp
              first | exact hK _ _ _ rfl trivial HR.out rfl | exact hK _ _ _ rfl trivial HR.out (by simp [Act.put, hpre, hwr]) | exact hK undef _ _ trivial trivial HR.out (by simp [Act.put, hpre, hwr]) | exact hK _ _ _ trivial trivial HR.out rfl | exact hK _ _ _ trivial trivial HR.out (by simp [Act.put, hpre, hwr])
          · go_simp
            rw [if_pos (by omega)]
            go_simp
            first | exact hK _ _ _ rfl trivial HR.out rfl | exact hK _ _ _ rfl trivial HR.out (by simp [Act.put, hpre])
          · have hgl := hR0.lt
            go_simp
            exact hK _ _ _ ⟨_, rfl⟩ trivial ⟨by simpa using hR0.dalloc _, dgrown_trans hG0 (World.grownBy_alloc W _ _), fun _ => ⟨W.heap.size, rfl, by omega, TRow.new W insTs⟩, fun h => by obtain ⟨b, y, q1, q2, q3, q4⟩ := R6 (by simpa using h); exact ⟨b, y, by simpa using q1, q2, q3, q4.grown (World.grownBy_alloc W _ (some g)) q2⟩⟩ rfl
          · go_simp
            first | exact hK _ _ _ rfl trivial HR.out rfl | exact hK _ _ _ rfl trivial HR.out (by simp [Act.put, hpre, hwr]) | exact hK undef _ _ trivial trivial HR.out (by simp [Act.put, hpre, hwr]) | exact hK _ _ _ trivial trivial HR.out rfl | exact hK _ _ _ trivial trivial HR.out (by simp [Act.put, hpre, hwr])
          · go_simp
            have hR1 : Rdr W g q9 := by simpa [hL] using hR0
            refine (pick_any g q9 5 W hR1 (by omega) (by omega) (by omega)).mono ?_
            rintro e w' ⟨y, rfl, hy1, _, hRy, hgy⟩
            exact hK _ _ _ ⟨y, rfl, by omega⟩ trivial ⟨by simpa using hRy, dgrown_trans hG0 hgy, fun h => by obtain ⟨b, q1, q2, q3⟩ := R3 (by simpa using h); exact ⟨b, by simpa using q1, q2, q3.grown hgy q2⟩, fun h => by obtain ⟨b, y, q1, q2, q3, q4⟩ := R6 (by simpa using h); exact ⟨b, y, by simpa using q1, q2, q3, q4.grown hgy q2⟩⟩ (by simp [Act.put, hpre])
          · obtain ⟨⟨l3, _⟩, l5, y, u5, hy⟩ := hpre
            obtain ⟨b, u3, hb, hT⟩ := R3 l3
            have y1 : (0 : Int) ≤ (y : Int) := by omega
            have y2 : (y : Int) < 5 := by omega
            go_simp
            exact hK _ _ _ ⟨b, y, rfl⟩ trivial ⟨by simpa using hR0, hG0, fun h => by obtain ⟨b, q1, q2, q3⟩ := R3 (by simpa using h); exact ⟨b, by simpa using q1, q2, q3⟩, fun _ => ⟨b, y, rfl, hb, hy, hT⟩⟩ (by simp [Act.put, u3, u5])
          · obtain ⟨l6, _⟩ := hpre
            obtain ⟨b, y, u6, hb, hy, hT⟩ := R6 l6
            obtain ⟨s7, hm7, hc7⟩ := hT.cell (show y < insTs.length from hy)
            go_simp
            exact hK _ _ _ ⟨s7, hm7, rfl⟩ trivial ⟨by simpa using hR0, hG0, fun h => by obtain ⟨b, q1, q2, q3⟩ := R3 (by simpa using h); exact ⟨b, by simpa using q1, q2, q3⟩, fun h => by obtain ⟨b, y, q1, q2, q3, q4⟩ := R6 (by simpa using h); exact ⟨b, y, by simpa using q1, q2, q3, q4⟩⟩ (by simp [Act.put, u6])
          · obtain ⟨⟨_, u2⟩, _, i, hi, u7⟩ := hpre
            have hil : i.length ≤ 1 := (show ∀ i ∈ insTs, i.length ≤ 1 by decide) i hi
            go_simp
            rw [if_neg (by simp; omega)]
            go_simp
            exact hK _ _ _ ⟨i, hi, rfl⟩ trivial ⟨by simpa using hR0, hG0, fun h => by obtain ⟨b, q1, q2, q3⟩ := R3 (by simpa using h); exact ⟨b, by simpa using q1, q2, q3⟩, fun h => by obtain ⟨b, y, q1, q2, q3, q4⟩ := R6 (by simpa using h); exact ⟨b, y, by simpa using q1, q2, q3, q4⟩⟩ (by simp [Act.put, u2, u7])
          iterate 3
            · go_simp
              first | exact hK _ _ _ rfl trivial HR.out rfl | exact hK _ _ _ rfl trivial HR.out (by simp [Act.put, hpre, hwr]) | exact hK undef _ _ trivial trivial HR.out (by simp [Act.put, hpre, hwr]) | exact hK _ _ _ trivial trivial HR.out rfl | exact hK _ _ _ trivial trivial HR.out (by simp [Act.put, hpre, hwr])
          · go_simp
            rw [if_pos (by omega)]
            go_simp
            first | exact hK _ _ _ rfl trivial HR.out rfl | exact hK _ _ _ rfl trivial HR.out (by simp [Act.put, hpre])
          · obtain ⟨⟨_, i, hi, u8⟩, _, u12⟩ := hpre
            have hil : i.length ≤ 1 := (show ∀ i ∈ insTs, i.length ≤ 1 by decide) i hi
            go_simp
            rw [if_neg (by simp; omega)]
            go_simp
            exact hK _ _ _ ⟨i, hi, rfl⟩ trivial ⟨by simpa using hR0, hG0, fun h => by obtain ⟨b, q1, q2, q3⟩ := R3 (by simpa using h); exact ⟨b, by simpa using q1, q2, q3⟩, fun h => by obtain ⟨b, y, q1, q2, q3, q4⟩ := R6 (by simpa using h); exact ⟨b, y, by simpa using q1, q2, q3, q4⟩⟩ (by simp [Act.put, u8, u12])
          · obtain ⟨⟨_, i, hi, u13⟩, hrest⟩ := hpre
            go_simp
            exact hK _ _ _ ⟨i, hi, rfl⟩ trivial ⟨by simpa using hR0, hG0, fun h => by obtain ⟨b, q1, q2, q3⟩ := R3 (by simpa using h); exact ⟨b, by simpa using q1, q2, q3⟩, fun h => by obtain ⟨b, y, q1, q2, q3, q4⟩ := R6 (by simpa using h); exact ⟨b, y, by simpa using q1, q2, q3, q4⟩⟩ (by simp [Act.put, u13, hrest])
        · rintro L U W hL hφ hR
          obtain ⟨i, hi, e14⟩ := hφ 14 (by decide)
          simp only [e14]
          have hR0 : Rdr W g (q9 + 1) := by simpa [hL 5 (by decide)] using hR.1
          have hG0 := hR.2.1
          clear hφ hL hR
          go_wp2_with fail
          go_ret
          exact ⟨_, q9 + 1, rfl, DSc0.turned Hs.out hk hi, by omega, hR0, hG0⟩
      · have tz : ((z : Int) == 0) = false := by simp; omega
        clear hz0
        go_wp2_with fail
        go_ret
        exact ⟨s, (q5 + 1) + 1, rfl, Hs.out.out, by omega, HR8.out, Hg8.out⟩
    · have tu : (0 : Int) < (u : Int) := by omega
      clear hu0 Hsok Hs hsl
      have Hs := Lib.hid DSc0.plain
      have hsl : plainSc.length ≤ 264 := by decide
      go_wp2_with fail
      rw [show (#[82, 97, 61, 49, 58, 112, 58, 110, 61, 53, 44, 50, 58, 113, 58, 91, 116, 44, 52, 58, 114, 58, 63, 64, 97, 59, 44, 53, 58, 115, 58, 64, 98, 59, 10, 85, 98, 61, 49, 58, 112, 58, 110, 44, 51, 58, 113, 58, 64, 97, 59, 10, 69, 99, 61, 49, 58, 112, 44, 50, 58, 113, 10] : Array UInt8) = plainSc.toArray from rfl]
      generalize plainSc = s at *
      have hs1 : 1 ≤ s.length := Hs.out.2.1
      refine (pick_any g (q5 + 1) 24 _ HR7.out (by omega) (by omega) (by omega)).mono ?_
      rintro e w8 ⟨z, rfl, hz1, _, hR8, hg8⟩
      have HR8 := Lib.hid hR8
      have Hg8 := Lib.hid (dgrown_trans Hg7.out hg8)
      have hg8l := hR8.lt
      clear hR8 hg8 HR7 Hg7 hz1
      by_cases hz0 : z = 0
      · subst hz0
        go_wp2_with fail
        refine (pick_any g ((q5 + 1) + 1) _ _ HR8.out (by omega) (by omega) (by omega)).mono ?_
        rintro e w9 ⟨k, rfl, hk1, _, hR9, hg9⟩
        have hk1 := hk1 (by omega)
        have hk : k < s.length := by omega
        have i5 : (0 : Int) ≤ (k : Int) := by omega
        have i6 : (k : Int) < (s.length : Int) := by omega
        obtain ⟨q9, hq9, HR9⟩ : ∃ q9, q9 ≤ (q5 + 1) + 2 ∧ Hid (Rdr w9 g q9) := ⟨_, by omega, Lib.hid hR9⟩
        have Hg9 := Lib.hid (dgrown_trans Hg8.out hg9)
        clear hR9 hg9 HR8 Hg8
        have hwr : IntKind.i64.wrap ((k : Int) + 1) = (k : Int) + 1 := IntWalk.i64_in _ (by omega)
        go_wp2_with fail
        refine wp_region_slots3 [38, 39, 40, 41, 42, 43, 44, 45, 46, 47, 48, 49, 50, 51, 2] (by kernel_rfl) (by kernel_rfl) (by kernel_rfl) (fun u => by dsimp only [frameOf, setMany, List.set, Nat.zero_add, Nat.reduceAdd])
          (fun ix v W => match ix with | 0 => v = .string ⟨(s : List UInt8).toArray⟩ | 1 => v = .int .i64 (k : Int) | 2 => v = .string ⟨(s.take k : List UInt8).toArray⟩ | 3 => ∃ b, v = .slice (some ⟨b, 0, none⟩) 5 5 | 4 => v = .pointer (some ⟨g, 0, none⟩) | 5 => ∃ y : Nat, v = .int .i64 (y : Int) ∧ y < 5 | 6 => ∃ b y, v = .pointer (some ⟨b, y, none⟩) | 7 => ∃ i, i ∈ insTs ∧ v = .string ⟨i.toArray⟩ | 8 => ∃ i, i ∈ insTs ∧ v = .string ⟨(s.take k ++ i).toArray⟩ | 9 => v = .string ⟨(s : List UInt8).toArray⟩ | 10 => v = .int .i64 (k : Int) | 11 => v = .int .i64 ((k : Int) + 1) | 12 => v = .string ⟨(s.drop (k + 1) : List UInt8).toArray⟩ | 13 => ∃ i, i ∈ insTs ∧ v = .string ⟨(s.take k ++ (i ++ s.drop (k + 1))).toArray⟩ | 14 => ∃ i, i ∈ insTs ∧ v = .string ⟨(s.take k ++ (i ++ s.drop (k + 1))).toArray⟩ | _ => True)
          (fun L U W => Rdr W g (if L 5 = true then q9 + 1 else q9) ∧ w.grownBy W (some g) ∧ (L 3 = true → ∃ b, U 3 = .slice (some ⟨b, 0, none⟩) 5 5 ∧ b ≠ g ∧ TRow W b insTs) ∧ (L 6 = true → ∃ b y, U 6 = .pointer (some ⟨b, y, none⟩) ∧ b ≠ g ∧ y < 5 ∧ TRow W b insTs)) (fun _ _ => True) (fun _ _ _ _ _ h => h) (⟨by simpa using HR9.out.ddrew, dgrown_drew Hg9.out, fun h => Bool.noConfusion h, fun h => Bool.noConfusion h⟩) ?_ ?_
        · repeat (first | exact Steps.nil | (refine Steps.cons ?_ ?_; rotate_left))
          all_goals
            rintro L U W hL hpre hR hun hdep K hK
            have HR := Lib.hid hR
            obtain ⟨hR0, hG0, R3, R6⟩ := HR.out
            clear hun hdep hR
            first | (simp [Region.binds] at hpre; done) | simp [Region.binds] at hpre | clear hpre
          iterate 2
            · go_simp
              first | exact hK _ _ _ rfl trivial HR.out rfl | exact hK _ _ _ rfl trivial HR.out (by simp [Act.put, hpre, hwr]) | exact hK undef _ _ trivial trivial HR.out (by simp [Act.put, hpre, hwr]) | exact hK _ _ _ trivial trivial HR.out rfl | exact hK _ _ _ trivial trivial HR.out (by simp [Act.put, hpre, hwr])
          · go_simp
            rw [if_pos (by omega)]
            go_simp
            first | exact hK _ _ _ rfl trivial HR.out rfl | exact hK _ _ _ rfl trivial HR.out (by simp [Act.put, hpre])
          · have hgl := hR0.lt
            go_simp
            exact hK _ _ _ ⟨_, rfl⟩ trivial ⟨by simpa using hR0.dalloc _, dgrown_trans hG0 (World.grownBy_alloc W _ _), fun _ => ⟨W.heap.size, rfl, by omega, TRow.new W insTs⟩, fun h => by obtain ⟨b, y, q1, q2, q3, q4⟩ := R6 (by simpa using h); exact ⟨b, y, by simpa using q1, q2, q3, q4.grown (World.grownBy_alloc W _ (some g)) q2⟩⟩ rfl
          · go_simp
            first | exact hK _ _ _ rfl trivial HR.out rfl | exact hK _ _ _ rfl trivial HR.out (by simp [Act.put, hpre, hwr]) | exact hK undef _ _ trivial trivial HR.out (by simp [Act.put, hpre, hwr]) | exact hK _ _ _ trivial trivial HR.out rfl | exact hK _ _ _ trivial trivial HR.out (by simp [Act.put, hpre, hwr])
          · go_simp
            have hR1 : Rdr W g q9 := by simpa [hL] using hR0
            refine (pick_any g q9 5 W hR1 (by omega) (by omega) (by omega)).mono ?_
            rintro e w' ⟨y, rfl, hy1, _, hRy, hgy⟩
            exact hK _ _ _ ⟨y, rfl, by omega⟩ trivial ⟨by simpa using hRy, dgrown_trans hG0 hgy, fun h => by obtain ⟨b, q1, q2, q3⟩ := R3 (by simpa using h); exact ⟨b, by simpa using q1, q2, q3.grown hgy q2⟩, fun h => by obtain ⟨b, y, q1, q2, q3, q4⟩ := R6 (by simpa using h); exact ⟨b, y, by simpa using q1, q2, q3, q4.grown hgy q2⟩⟩ (by simp [Act.put, hpre])
          · obtain ⟨⟨l3, _⟩, l5, y, u5, hy⟩ := hpre
            obtain ⟨b, u3, hb, hT⟩ := R3 l3
            have y1 : (0 : Int) ≤ (y : Int) := by omega
            have y2 : (y : Int) < 5 := by omega
            go_simp
            exact hK _ _ _ ⟨b, y, rfl⟩ trivial ⟨by simpa using hR0, hG0, fun h => by obtain ⟨b, q1, q2, q3⟩ := R3 (by simpa using h); exact ⟨b, by simpa using q1, q2, q3⟩, fun _ => ⟨b, y, rfl, hb, hy, hT⟩⟩ (by simp [Act.put, u3, u5])
          · obtain ⟨l6, _⟩ := hpre
            obtain ⟨b, y, u6, hb, hy, hT⟩ := R6 l6
            obtain ⟨s7, hm7, hc7⟩ := hT.cell (show y < insTs.length from hy)
            go_simp
            exact hK _ _ _ ⟨s7, hm7, rfl⟩ trivial ⟨by simpa using hR0, hG0, fun h => by obtain ⟨b, q1, q2, q3⟩ := R3 (by simpa using h); exact ⟨b, by simpa using q1, q2, q3⟩, fun h => by obtain ⟨b, y, q1, q2, q3, q4⟩ := R6 (by simpa using h); exact ⟨b, y, by simpa using q1, q2, q3, q4⟩⟩ (by simp [Act.put, u6])
          · obtain ⟨⟨_, u2⟩, _, i, hi, u7⟩ := hpre
            have hil : i.length ≤ 1 := (show ∀ i ∈ insTs, i.length ≤ 1 by decide) i hi
            go_simp
            rw [if_neg (by simp; omega)]
            go_simp
            exact hK _ _ _ ⟨i, hi, rfl⟩ trivial ⟨by simpa using hR0, hG0, fun h => by obtain ⟨b, q1, q2, q3⟩ := R3 (by simpa using h); exact ⟨b, by simpa using q1, q2, q3⟩, fun h => by obtain ⟨b, y, q1, q2, q3, q4⟩ := R6 (by simpa using h); exact ⟨b, y, by simpa using q1, q2, q3, q4⟩⟩ (by simp [Act.put, u2, u7])
          iterate 3
            · go_simp
              first | exact hK _ _ _ rfl trivial HR.out rfl | exact hK _ _ _ rfl trivial HR.out (by simp [Act.put, hpre, hwr]) | exact hK undef _ _ trivial trivial HR.out (by simp [Act.put, hpre, hwr]) | exact hK _ _ _ trivial trivial HR.out rfl | exact hK _ _ _ trivial trivial HR.out (by simp [Act.put, hpre, hwr])
          · go_simp
            rw [if_pos (by omega)]
            go_simp
            first | exact hK _ _ _ rfl trivial HR.out rfl | exact hK _ _ _ rfl trivial HR.out (by simp [Act.put, hpre])
          · obtain ⟨⟨_, i, hi, u8⟩, _, u12⟩ := hpre
            have hil : i.length ≤ 1 := (show ∀ i ∈ insTs, i.length ≤ 1 by decide) i hi
            go_simp
            rw [if_neg (by simp; omega)]
            go_simp
            exact hK _ _ _ ⟨i, hi, rfl⟩ trivial ⟨by simpa using hR0, hG0, fun h => by obtain ⟨b, q1, q2, q3⟩ := R3 (by simpa using h); exact ⟨b, by simpa using q1, q2, q3⟩, fun h => by obtain ⟨b, y, q1, q2, q3, q4⟩ := R6 (by simpa using h); exact ⟨b, y, by simpa using q1, q2, q3, q4⟩⟩ (by simp [Act.put, u8, u12])
          · obtain ⟨⟨_, i, hi, u13⟩, hrest⟩ := hpre
            go_simp
            exact hK _ _ _ ⟨i, hi, rfl⟩ trivial ⟨by simpa using hR0, hG0, fun h => by obtain ⟨b, q1, q2, q3⟩ := R3 (by simpa using h); exact ⟨b, by simpa using q1, q2, q3⟩, fun h => by obtain ⟨b, y, q1, q2, q3, q4⟩ := R6 (by simpa using h); exact ⟨b, y, by simpa using q1, q2, q3, q4⟩⟩ (by simp [Act.put, u13, hrest])
        · rintro L U W hL hφ hR
          obtain ⟨i, hi, e14⟩ := hφ 14 (by decide)
          simp only [e14]
          have hR0 : Rdr W g (q9 + 1) := by simpa [hL 5 (by decide)] using hR.1
          have hG0 := hR.2.1
          clear hφ hL hR
          go_wp2_with fail
          go_ret
          exact ⟨_, q9 + 1, rfl, DSc0.turned Hs.out hk hi, by omega, hR0, hG0⟩
      · have tz : ((z : Int) == 0) = false := by simp; omega
        clear hz0
        go_wp2_with fail
        go_ret
        exact ⟨s, (q5 + 1) + 1, rfl, Hs.out.out, by omega, HR8.out, Hg8.out⟩

/-- A kind that is drawn for a schema. -/
def DKs (l : List UInt8) : Prop := DK l ∨ l ∈ someTs ∨ l = [110]
theorem DKs.len {l : List UInt8} (h : DKs l) : l.length ≤ 15 := by
  rcases h with h | h | rfl
  · exact h.len
  · exact (show ∀ l ∈ someTs, l.length ≤ 15 by decide) l h
  · decide
set_option maxHeartbeats 2000000 in
theorem l91Some_any (g p : Nat) (s : List UInt8) (w : World) (h : Rdr w g p) (hp : p ≤ 10000000) (hs : s.length ≤ 1000000) :
    Calls Tryz.prog 54 #[.pointer (some ⟨g, 0, none⟩), .string ⟨s.toArray⟩] w (DrPost DKs w g p 10) := by
  have hgl := h.lt
  have HR := Lib.hid h
  clear h
  go_enter Tryz.func54, Tryz.ntmps54
  go_wp2_with fail
  refine (pick_any g p 30 _ HR.out (by omega) (by omega) (by omega)).mono ?_
  rintro e w1 ⟨x, rfl, hx1, _, hR1, hg1⟩
  have HR1 := Lib.hid hR1
  have Hg1 := Lib.hid hg1
  have hg1l := hR1.lt
  clear hR1 hg1 HR hx1
  by_cases hx0 : x = 0
  · subst hx0
    go_wp2_with fail
    refine (l91Kind_any g (p + 1) _ HR1.out (by omega)).mono ?_
    rintro e w2 ⟨l, q, rfl, hl, hq, hR2, hg2⟩
    have HR2 := Lib.hid hR2
    have Hg2 := Lib.hid (dgrown_trans Hg1.out hg2)
    have Hl := Lib.hid hl
    clear hR2 hg2 hl HR1 Hg1
    go_wp2_with fail
    go_ret
    exact ⟨l, q, rfl, .inl Hl.out, by omega, HR2.out, Hg2.out⟩
  · have tx : ((x : Int) == 0) = false := by simp; omega
    clear hx0
    go_wp2_with fail
    refine (pick_any g (p + 1) 11 _ (HR1.out.dalloc _) (by omega) (by omega) (by omega)).mono ?_
    rintro e w2 ⟨y, rfl, hy1, _, hR2, hg2⟩
    have hy : y < someTs.length := by show y < 11; omega
    obtain ⟨k, hkm, hcell⟩ := ((TRow.new w1 someTs).grown hg2 (by omega)).cell hy
    have hkl : k.length ≤ 15 := (show ∀ l ∈ someTs, l.length ≤ 15 by decide) k hkm
    have i1 : (0 : Int) ≤ (y : Int) := by omega
    have i2 : (y : Int) < 11 := by omega
    have HR2 := Lib.hid hR2
    have Hg2 := Lib.hid (dgrown_trans Hg1.out (dgrown_trans (World.grownBy_alloc w1 _ (some g)) hg2))
    have Hk := Lib.hid hkm
    have Hkind := Lib.hid (fun W => sKind_any s k W (by omega) (by omega))
    generalize bothL s k = o at Hkind
    clear hR2 hg2 hkm HR1 Hg1 hy hy1
    go_wp2_with fail
    refine (Hkind.out _).mono ?_
    rintro e w3 ⟨hc3, hb3⟩
    have HR3 := Lib.hid (HR2.out.below hb3)
    have Hg3 := Lib.hid (dgrown_trans Hg2.out (dgrown_below hb3 (some g)))
    clear hb3 HR2 Hg2 hcell
    cases o with
    | none =>
      obtain ⟨A, n, c, rfl⟩ := hc3
      go_wp2_with fail
      go_ret
      exact ⟨[110], p + 1 + 1, rfl, .inr (.inr rfl), by omega, HR3.out, Hg3.out⟩
    | some z =>
      obtain ⟨v, xs, rfl, _, _⟩ := hc3
      go_wp2_with fail
      go_ret
      exact ⟨k, p + 1 + 1, rfl, .inr (.inl Hk.out), by omega, HR3.out, Hg3.out⟩
end Go.Proofs.YtdhinlhafoiaiaaGreatDoor
/- The drawing functions of laws on schemas: texts of bounded length; what was there stays. -/
namespace Go.Proofs.YtdhinlhafoiaiaaGreatDoor
open Go.RowKit
set_option maxRecDepth 100000
set_option linter.unusedVariables false
set_option linter.unusedSimpArgs false
attribute [local go_sem] ba_get ba_toList ba_extract take_drop_all ByteArray.mk_append_mk

/-- Behind a call on a reader that is new. -/
theorem below_dgrown {w a b : World} {g : Nat} (h : Below w.heap.size w a) (hg : a.grownBy b (some g)) (hgb : w.heap.size ≤ g) : Below w.heap.size w b :=
  h.grown hg h.size (fun k hk => by injection hk with hk; omega)
def PairDr (w : World) (e : Ending) (w' : World) : Prop := ∃ s k : List UInt8, e = .returned (.tuple #[.string ⟨s.toArray⟩, .string ⟨k.toArray⟩]) ∧ DSc s ∧ DKs k ∧ Below w.heap.size w w'
def FourDr (w : World) (e : Ending) (w' : World) : Prop := ∃ a b c d : List UInt8, e = .returned (.tuple #[.string ⟨a.toArray⟩, .string ⟨b.toArray⟩, .string ⟨c.toArray⟩, .string ⟨d.toArray⟩]) ∧ a.length ≤ 100000 ∧ b.length ≤ 100000 ∧ c.length ≤ 100000 ∧ d.length ≤ 100000 ∧ Below w.heap.size w w'
set_option maxHeartbeats 1000000 in
theorem DrawSchemaCount_any (A : Option Addr) (n c : Nat) (l : List UInt8) (w : World) (h : RowAt w A n (bcells l)) (hc : n ≤ c) (hcm : c ≤ maxLen) :
    Calls Tryz.prog 14 #[.slice A n c] w (PairDr w) := by
  go_enter Tryz.func14, Tryz.ntmps14
  go_wp2_with fail
  refine (l6Open_any A n c l w h hc hcm).mono ?_
  rintro e w0 ⟨g, rfl, hR, hgb, hb0⟩
  have HR := Lib.hid hR
  have Hb0 := Lib.hid hb0
  clear hR h hb0
  go_wp2_with fail
  refine (l91Schema_any g 0 _ HR.out (by omega)).mono ?_
  rintro e w1 ⟨s1, q1, rfl, hs1, hq1, hR1, hg1⟩
  have HR1 := Lib.hid hR1
  have Hb1 := Lib.hid (below_dgrown Hb0.out hg1 hgb)
  have hl1 := hs1.1
  have Hs1 := Lib.hid hs1
  clear hR1 hg1 hs1
  go_wp2_with fail
  refine (l91Some_any g q1 s1 _ HR1.out (by omega) (by omega)).mono ?_
  rintro e w2 ⟨s2, q2, rfl, hs2, hq2, hR2, hg2⟩
  have HR2 := Lib.hid hR2
  have Hb2 := Lib.hid (below_dgrown Hb1.out hg2 hgb)
  have hl2 := hs2.len
  have Hs2 := Lib.hid hs2
  clear hR2 hg2 hs2
  go_wp2_with fail
  go_ret2
  exact ⟨s1, s2, rfl, Hs1.out, Hs2.out, Hb2.out⟩
set_option maxHeartbeats 1000000 in
theorem DrawSchemaForm_any (A : Option Addr) (n c : Nat) (l : List UInt8) (w : World) (h : RowAt w A n (bcells l)) (hc : n ≤ c) (hcm : c ≤ maxLen) :
    Calls Tryz.prog 34 #[.slice A n c] w (PairDr w) := by
  go_enter Tryz.func34, Tryz.ntmps34
  go_wp2_with fail
  refine (l6Open_any A n c l w h hc hcm).mono ?_
  rintro e w0 ⟨g, rfl, hR, hgb, hb0⟩
  have HR := Lib.hid hR
  have Hb0 := Lib.hid hb0
  clear hR h hb0
  go_wp2_with fail
  refine (l91Schema_any g 0 _ HR.out (by omega)).mono ?_
  rintro e w1 ⟨s1, q1, rfl, hs1, hq1, hR1, hg1⟩
  have HR1 := Lib.hid hR1
  have Hb1 := Lib.hid (below_dgrown Hb0.out hg1 hgb)
  have hl1 := hs1.1
  have Hs1 := Lib.hid hs1
  clear hR1 hg1 hs1
  go_wp2_with fail
  refine (l91Some_any g q1 s1 _ HR1.out (by omega) (by omega)).mono ?_
  rintro e w2 ⟨s2, q2, rfl, hs2, hq2, hR2, hg2⟩
  have HR2 := Lib.hid hR2
  have Hb2 := Lib.hid (below_dgrown Hb1.out hg2 hgb)
  have hl2 := hs2.len
  have Hs2 := Lib.hid hs2
  clear hR2 hg2 hs2
  go_wp2_with fail
  go_ret2
  exact ⟨s1, s2, rfl, Hs1.out, Hs2.out, Hb2.out⟩
set_option maxHeartbeats 1000000 in
theorem DrawSchemaCut_any (A : Option Addr) (n c : Nat) (l : List UInt8) (w : World) (h : RowAt w A n (bcells l)) (hc : n ≤ c) (hcm : c ≤ maxLen) :
    Calls Tryz.prog 50 #[.slice A n c] w (PairDr w) := by
  go_enter Tryz.func50, Tryz.ntmps50
  go_wp2_with fail
  refine (l6Open_any A n c l w h hc hcm).mono ?_
  rintro e w0 ⟨g, rfl, hR, hgb, hb0⟩
  have HR := Lib.hid hR
  have Hb0 := Lib.hid hb0
  clear hR h hb0
  go_wp2_with fail
  refine (l91Schema_any g 0 _ HR.out (by omega)).mono ?_
  rintro e w1 ⟨s1, q1, rfl, hs1, hq1, hR1, hg1⟩
  have HR1 := Lib.hid hR1
  have Hb1 := Lib.hid (below_dgrown Hb0.out hg1 hgb)
  have hl1 := hs1.1
  have Hs1 := Lib.hid hs1
  clear hR1 hg1 hs1
  go_wp2_with fail
  refine (l91Some_any g q1 s1 _ HR1.out (by omega) (by omega)).mono ?_
  rintro e w2 ⟨s2, q2, rfl, hs2, hq2, hR2, hg2⟩
  have HR2 := Lib.hid hR2
  have Hb2 := Lib.hid (below_dgrown Hb1.out hg2 hgb)
  have hl2 := hs2.len
  have Hs2 := Lib.hid hs2
  clear hR2 hg2 hs2
  go_wp2_with fail
  go_ret2
  exact ⟨s1, s2, rfl, Hs1.out, Hs2.out, Hb2.out⟩
set_option maxHeartbeats 1000000 in
theorem DrawSchemaUsed_any (A : Option Addr) (n c : Nat) (l : List UInt8) (w : World) (h : RowAt w A n (bcells l)) (hc : n ≤ c) (hcm : c ≤ maxLen) :
    Calls Tryz.prog 46 #[.slice A n c] w (PairDr w) := by
  go_enter Tryz.func46, Tryz.ntmps46
  go_wp2_with fail
  refine (l6Open_any A n c l w h hc hcm).mono ?_
  rintro e w0 ⟨g, rfl, hR, hgb, hb0⟩
  have HR := Lib.hid hR
  have Hb0 := Lib.hid hb0
  clear hR h hb0
  go_wp2_with fail
  refine (l91Schema_any g 0 _ HR.out (by omega)).mono ?_
  rintro e w1 ⟨s1, q1, rfl, hs1, hq1, hR1, hg1⟩
  have HR1 := Lib.hid hR1
  have Hb1 := Lib.hid (below_dgrown Hb0.out hg1 hgb)
  have hl1 := hs1.1
  have Hs1 := Lib.hid hs1
  clear hR1 hg1 hs1
  go_wp2_with fail
  refine (l91Some_any g q1 s1 _ HR1.out (by omega) (by omega)).mono ?_
  rintro e w2 ⟨s2, q2, rfl, hs2, hq2, hR2, hg2⟩
  have HR2 := Lib.hid hR2
  have Hb2 := Lib.hid (below_dgrown Hb1.out hg2 hgb)
  have hl2 := hs2.len
  have Hs2 := Lib.hid hs2
  clear hR2 hg2 hs2
  go_wp2_with fail
  go_ret2
  exact ⟨s1, s2, rfl, Hs1.out, Hs2.out, Hb2.out⟩
end Go.Proofs.YtdhinlhafoiaiaaGreatDoor
