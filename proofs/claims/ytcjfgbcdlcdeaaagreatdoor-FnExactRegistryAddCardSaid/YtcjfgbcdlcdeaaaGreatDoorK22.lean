/- Texts joined: MarkT, MarkV, MarkH, Reg4, AddQ, LawA, LawA2. Conditions: as each theorem names them. -/
import Derived.Deep.RegionWith
import Derived.Laws.OwnMore
import Derived.Test.YtcjfgbcdlcdeaaaGreatDoorK01
import Derived.Test.YtcjfgbcdlcdeaaaGreatDoorK14
import Derived.Test.YtcjfgbcdlcdeaaaGreatDoorK21
/- The marks that the laws write into a result, to see whether it shares memory: markText. -/
namespace Go.Proofs.YtcjfgbcdlcdeaaaGreatDoor
open Go.RowKit
set_option maxRecDepth 100000
set_option linter.unusedVariables false
attribute [local go_sem] ba_get ba_toList ba_extract take_drop_all ByteArray.mk_append_mk

def mkF : Nat → Nat → List UInt8 → List UInt8
  | 0, _, o => o
  | f + 1, k, o => if k = 0 then o else mkF f (k / 10) (byteOf (48 + k % 10) :: o)
theorem mkF_more : ∀ (f g k : Nat) (o : List UInt8), k ≤ f → k ≤ g → mkF f k o = mkF g k o
  | 0, 0, k, o, _, _ => rfl
  | 0, g + 1, k, o, h, _ => by obtain rfl : k = 0 := by omega
                               simp [mkF]
  | f + 1, 0, k, o, _, h => by obtain rfl : k = 0 := by omega
                               simp [mkF]
  | f + 1, g + 1, k, o, hf, hg => by
    simp only [mkF]
    split
    · rfl
    · exact mkF_more f g (k / 10) _ (by omega) (by omega)
theorem mkF_step (k : Nat) (o : List UInt8) (h : 0 < k) : mkF k k o = mkF (k / 10) (k / 10) (byteOf (48 + k % 10) :: o) := by
  obtain ⟨j, rfl⟩ : ∃ j, k = j + 1 := ⟨k - 1, by omega⟩
  rw [mkF, if_neg (by omega), mkF_more j ((j + 1) / 10) _ _ (by omega) (Nat.le_refl _)]

/-- The mark of a number. -/
def markT (k : Nat) : List UInt8 := if k = 0 then [109, 48] else 109 :: mkF k k []

set_option maxHeartbeats 1000000 in
theorem markText_any (k : Nat) (w : World) (hk : k ≤ 4000000000) :
    Calls Tryz.prog 72 #[.int .i64 k] w fun e w' => e = .returned (.string ⟨(markT k).toArray⟩) ∧ Below w.heap.size w w' := by
  by_cases h0 : k = 0
  · subst h0
    go_enter Tryz.func72, Tryz.ntmps72
    go_wp2_with fail
    go_ret
    exact ⟨rfl, Below.refl _ _⟩
  · have h1 : 0 < k := by omega
    have Hm := Lib.hid (show markT k = 109 :: mkF k k [] from if_neg h0)
    clear h0
    go_enter Tryz.func72, Tryz.ntmps72
    go_wp2
    go_loopw [0, 3] (fun x o wr => ∃ (j : Nat) (l : List UInt8), x = .int .i64 j ∧ o = .string ⟨l.toArray⟩ ∧ Hid (mkF k k [] = mkF j j l) ∧ l.length + j ≤ k ∧ Below w.heap.size w wr) (fun x _ _ => (intOf x).toNat)
    case atStart => exact ⟨k, [], rfl, rfl, rfl, by simp, Below.refl _ _⟩
    case round =>
      obtain ⟨j, l, rfl, rfl, hget, hlen, hb⟩ := hrel
      have hsz := hb.size
      by_cases hj : 0 < j
      · have hcv := fun W g => Tryz.conv1 W g 1 (byteOf (48 + j % 10))
        have e1 : ((48 : Int) + (j : Int) % 10) = ((byteOf (48 + j % 10)).toNat : Int) := by rw [byteOf_toNat (by omega)]; omega
        have hu : (byteOf (48 + j % 10)).toNat < 256 := (byteOf (48 + j % 10)).toNat_lt
        have Hs := Lib.hid (mkF_step j l hj)
        go_wp2_with fail
        go_roundw
        case rel =>
          refine ⟨j / 10, byteOf (48 + j % 10) :: l, by go_num, by simp, ?_, ?_, hb.alloc hsz _⟩
          · show _ = _
            rw [hget.out, Hs.out]
          · simp; omega
        case measure => simp [intOf]; omega
      · obtain rfl : j = 0 := by omega
        have Hf := Lib.hid (show 109 :: l = markT k by rw [Hm.out, hget.out]; rfl)
        go_wp2_with fail
        go_ret
        exact ⟨by rw [← Hf.out]; rfl, hb⟩

theorem grown_then {w w1 w2 : World} {row : Option Nat} (h : w.grownBy w1 row) (hb : Below w1.heap.size w1 w2) : w.grownBy w2 row :=
  ⟨hb.os.trans h.os, hb.tape.trans h.tape, hb.output.trans h.output, Nat.le_trans h.size hb.size, fun k hk hne => (hb.block k (Nat.lt_of_lt_of_le hk h.size)).trans (h.block k hk hne)⟩
theorem grown_grown {w w1 w2 : World} {row : Option Nat} (h : w.grownBy w1 row) (hb : w1.grownBy w2 row) : w.grownBy w2 row :=
  ⟨hb.os.trans h.os, hb.tape.trans h.tape, hb.output.trans h.output, Nat.le_trans h.size hb.size, fun k hk hne => (hb.block k (Nat.lt_of_lt_of_le hk h.size) hne).trans (h.block k hk hne)⟩

/-- The marks of n numbers, from k on. -/
def marks (k n : Nat) : List (List UInt8) := (List.range n).map fun i => markT (k + i)
theorem marks_length (k n : Nat) : (marks k n).length = n := by simp [marks]
theorem marks_get (k n i : Nat) (h : i < n) : (marks k n)[i]'(by rw [marks_length]; exact h) = markT (k + i) := by simp [marks]
theorem marks_snoc (k n : Nat) : marks k (n + 1) = marks k n ++ [markT (k + n)] := by simp [marks, List.range_succ]
theorem set_marks (ls : List (List UInt8)) (k i : Nat) (h : i < ls.length) : (scells (marks k i ++ ls.drop i)).set i (.string ⟨(markT (k + i)).toArray⟩) = scells (marks k (i + 1) ++ ls.drop (i + 1)) := by
  have e : ls.drop i = ls[i] :: ls.drop (i + 1) := (List.drop_eq_getElem_cons h)
  have hl := marks_length k i
  rw [e, marks_snoc]
  simp only [scells, List.map_append, List.map_cons, List.append_assoc]
  rw [List.set_append, if_neg (by simp [hl])]
  simp [hl]
theorem get_marks (ls : List (List UInt8)) (k i : Nat) (h : i < ls.length) : (scells (marks k i ++ ls.drop i))[i]? = some (.string ⟨(ls[i]).toArray⟩) := by
  have hl := marks_length k i
  rw [List.drop_eq_getElem_cons h]
  simp only [scells, List.map_append, List.map_cons]
  rw [List.getElem?_append_right (by simp [hl])]
  simp [hl]
end Go.Proofs.YtcjfgbcdlcdeaaaGreatDoor
/- The marks that the laws write into a registry, to see whether it shares memory. -/
namespace Go.Proofs.YtcjfgbcdlcdeaaaGreatDoor
open Go.RowKit
set_option maxRecDepth 100000
set_option linter.unusedVariables false
set_option linter.unusedSimpArgs false

set_option maxHeartbeats 1000000 in
theorem markVersionS_any (base g c n k : Nat) (ls : List (List UInt8)) (w : World) (hk : k + n * 2 ≤ 4000000000) (hown : w.ownsRow base 35 2 (.slice (some ⟨g, 0, none⟩) n c) n (scells ls)) :
    Calls Tryz.prog 50 #[.slice (some ⟨g, 0, none⟩) n c, .int .i64 k] w fun e w' =>
      e = .returned (.int .i64 ((k + n * 2 : Nat) : Int)) ∧ w'.ownsRow base 35 2 (.slice (some ⟨g, 0, none⟩) n c) n (scells (marks k (n * 2))) ∧ w.grownBy w' (some g) := by
  have hl : ls.length = n * 2 := by have := hown.1; simpa [scells] using this
  have Hl := Lib.hid hl
  have Hown := Lib.hid hown
  clear hl hown
  go_enter Tryz.func50, Tryz.ntmps50
  go_wp2_with fail
  go_loopw [1, 5] (fun x i wr => ∃ j y : Nat, x = .int .i64 (y : Int) ∧ i = .int .i64 j ∧ j ≤ n ∧ y ≤ 4000000000 ∧ Hid (y = k + j * 2) ∧ Hid (wr.ownsRow base 35 2 (.slice (some ⟨g, 0, none⟩) n c) n (scells (marks k (j * 2) ++ ls.drop (j * 2)))) ∧ Hid (w.grownBy wr (some g))) (fun _ i _ => n - (intOf i).toNat)
  case atStart => exact ⟨0, k, rfl, rfl, Nat.zero_le _, by omega, (by show k = k + 0 * 2; omega), (by show World.ownsRow _ _ _ _ _ _ _; have := Hown.out; simpa [marks] using this), World.grownBy.refl _ _⟩
  case round =>
    obtain ⟨j, y, rfl, rfl, hj, hy, Hy, hown, hg⟩ := hrel
    have j0 : (0 : Int) ≤ (j : Int) := by omega
    by_cases hlt : j < n
    · have j1 : (j : Int) < (n : Int) := by omega
      obtain ⟨y2, hy2⟩ : ∃ y2, y2 = y + 1 := ⟨_, rfl⟩
      obtain ⟨y3, hy3⟩ : ∃ y3, y3 = y + 2 := ⟨_, rfl⟩
      have w2 : IntKind.i64.wrap ((y : Int) + 1) = (y2 : Int) := by rw [IntWalk.i64_in _ (by omega)]; omega
      have w3 : IntKind.i64.wrap ((y2 : Int) + 1) = (y3 : Int) := by rw [IntWalk.i64_in _ (by omega)]; omega
      have Hy2 := Lib.hid hy2
      have Hy3 := Lib.hid hy3
      have hyb : y2 ≤ 4000000000 ∧ y3 ≤ 4000000000 := by have := Hy.out; omega
      clear hy2 hy3
      have Hlg := Lib.hid (show j * 2 < ls.length ∧ j * 2 + 1 < ls.length by have := Hl.out; omega)
      go_wp2_with fail
      refine (markText_any y _ hy).mono ?_
      rintro e w4 ⟨rfl, hb1⟩
      have hown1 := ownsRow_below hown.out hb1
      have hc1 := (hown1.cellAt (j * 2) (by omega)).trans (get_marks ls k (j * 2) Hlg.out.1)
      have hf1 := hown1.frozenAt (j * 2)
      have Hst := Lib.hid (hown1.stored (j * 2) (.string ⟨(markT y).toArray⟩))
      have Hg1 := Lib.hid (grown_then hg.out hb1)
      clear hown1 hb1 hown hg
      generalize ls[j * 2]'Hlg.out.1 = old at hc1
      go_wp2_with fail
      refine (markText_any y2 _ hyb.1).mono ?_
      rintro e w5 ⟨rfl, hb2⟩
      have h1 := Hst.out.1
      rw [show (scells (marks k (j * 2) ++ ls.drop (j * 2))).set (j * 2) (.string ⟨(markT y).toArray⟩) = scells (marks k (j * 2 + 1) ++ ls.drop (j * 2 + 1)) by rw [Hy.out]; exact set_marks ls k (j * 2) Hlg.out.1] at h1
      have hown2 := ownsRow_below h1 hb2
      have hc2 := (hown2.cellAt (j * 2 + 1) (by omega)).trans (get_marks ls k (j * 2 + 1) Hlg.out.2)
      have hf2 := hown2.frozenAt (j * 2 + 1)
      have Hst2 := Lib.hid (hown2.stored (j * 2 + 1) (.string ⟨(markT y2).toArray⟩))
      have Hg2 := Lib.hid (grown_then (grown_grown Hg1.out Hst.out.2) hb2)
      clear hown2 hb2 h1 hc1 hf1
      generalize ls[j * 2 + 1]'Hlg.out.2 = old2 at hc2
      go_wp2_with fail
      go_roundw
      case rel =>
        refine ⟨j + 1, y3, by go_num, by go_num, by omega, hyb.2, (by show y3 = k + (j + 1) * 2; have := Hy.out; have := Hy3.out; omega), ?_, grown_grown Hg2.out Hst2.out.2⟩
        have h2 := Hst2.out.1
        rw [show (scells (marks k (j * 2 + 1) ++ ls.drop (j * 2 + 1))).set (j * 2 + 1) (.string ⟨(markT y2).toArray⟩) = scells (marks k (j * 2 + 1 + 1) ++ ls.drop (j * 2 + 1 + 1)) by rw [show y2 = k + (j * 2 + 1) by have := Hy.out; have := Hy2.out; omega]; exact set_marks ls k (j * 2 + 1) Hlg.out.2] at h2
        rw [show (j + 1) * 2 = j * 2 + 1 + 1 by omega]
        exact h2
      case measure => simp [intOf]; omega
    · obtain rfl : j = n := by omega
      have h3 := hown.out
      rw [show ls.drop (j * 2) = [] from List.drop_of_length_le (by have := Hl.out; omega), List.append_nil] at h3
      have H3 := Lib.hid h3
      clear h3
      go_wp2_with fail
      go_ret
      exact ⟨by rw [← Hy.out]; rfl, H3.out, hg.out⟩
end Go.Proofs.YtcjfgbcdlcdeaaaGreatDoor
/- The marks that the laws look for in a registry; marks of a registry. -/
namespace Go.Proofs.YtcjfgbcdlcdeaaaGreatDoor
open Go.RowKit
set_option maxRecDepth 100000
set_option linter.unusedVariables false
set_option linter.unusedSimpArgs false

theorem marks_cell {w : World} {base g c n k : Nat} (h : w.ownsRow base 35 2 (.slice (some ⟨g, 0, none⟩) n c) n (scells (marks k (n * 2)))) {i : Nat} (hi : i < n * 2) : w.cell? ⟨g, i, none⟩ = some (.string ⟨(markT (k + i)).toArray⟩) :=
  (h.cellAt i hi).trans (by simp [scells, marks, hi])
set_option maxHeartbeats 4000000 in
theorem heldVersionS_any (base g c n k : Nat) (w : World) (hk : k + n * 2 ≤ 4000000000) (hn : n * 2 ≤ c * 2) (hown : w.ownsRow base 35 2 (.slice (some ⟨g, 0, none⟩) n c) n (scells (marks k (n * 2)))) :
    Calls Tryz.prog 51 #[.slice (some ⟨g, 0, none⟩) n c, .int .i64 k] w fun e w' => e = .returned (.int .i64 ((k + n * 2 : Nat) : Int)) ∧ Below w.heap.size w w' := by
  have Hown := Lib.hid hown
  have hgl := (hown.lt g rfl).2
  clear hown
  go_enter Tryz.func51, Tryz.ntmps51
  go_wp2_with fail
  go_loopw [1, 5] (fun x i wr => ∃ j y : Nat, x = .int .i64 (y : Int) ∧ i = .int .i64 j ∧ j ≤ n ∧ y ≤ 4000000000 ∧ Hid (y = k + j * 2) ∧ Hid (Below w.heap.size w wr)) (fun _ i _ => n - (intOf i).toNat)
  case atStart => exact ⟨0, k, rfl, rfl, Nat.zero_le _, by omega, (by show k = k + 0 * 2; omega), Below.refl _ _⟩
  case round =>
    obtain ⟨j, y, rfl, rfl, hj, hy, Hy, hb⟩ := hrel
    have j0 : (0 : Int) ≤ (j : Int) := by omega
    by_cases hlt : j < n
    · have j1 : (j : Int) < (n : Int) := by omega
      obtain ⟨y2, hy2⟩ : ∃ y2, y2 = y + 1 := ⟨_, rfl⟩
      obtain ⟨y3, hy3⟩ : ∃ y3, y3 = y + 2 := ⟨_, rfl⟩
      have w2 : IntKind.i64.wrap ((y : Int) + 1) = (y2 : Int) := by rw [IntWalk.i64_in _ (by omega)]; omega
      have w3 : IntKind.i64.wrap ((y2 : Int) + 1) = (y3 : Int) := by rw [IntWalk.i64_in _ (by omega)]; omega
      have Hy2 := Lib.hid hy2
      have Hy3 := Lib.hid hy3
      have hyb : y2 ≤ 4000000000 ∧ y3 ≤ 4000000000 := by have := Hy.out; omega
      have C0 := Lib.hid (show w.cell? ⟨g, j * 2, none⟩ = some (.string ⟨(markT y).toArray⟩) from by rw [Hy.out]; exact marks_cell Hown.out (by omega))
      have C1 := Lib.hid (show w.cell? ⟨g, j * 2 + 1, none⟩ = some (.string ⟨(markT y2).toArray⟩) from by rw [show y2 = k + (j * 2 + 1) by have := Hy.out; omega]; exact marks_cell Hown.out (by omega))
      have hz := hb.out.size
      clear hy2 hy3
      go_wp2_with fail
      refine wp_region_slots3 [12, 13, 14, 15, 16, 17, 18, 19] (by kernel_rfl) (by kernel_rfl) (by kernel_rfl) (fun u => by dsimp only [frameOf, setMany, List.set, Nat.zero_add, Nat.reduceAdd])
        (fun ix v W => match ix with | 0 => v = .slice (some ⟨g, 0, none⟩) n c | 1 => v = .int .i64 (j : Int) | 2 => v = .pointer (some ⟨g, j * 2, none⟩) | 3 => v = .pointer (some ⟨g, j * 2, none⟩) | 4 => v = .string ⟨(markT y).toArray⟩ | 5 => v = .int .i64 (y : Int) | 6 => v = .string ⟨(markT y).toArray⟩ | 7 => v = .bool false | _ => True)
        (fun L U W => Below wr.drew.heap.size wr.drew W) (fun _ _ => True) (fun _ _ _ _ _ h => h) (Below.refl _ _) ?_ ?_
      · repeat (first | exact Steps.nil | (refine Steps.cons ?_ ?_; rotate_left))
        all_goals
          rintro L U W hL hpre hR hun hdep K hK
          have HR := Lib.hid hR
          have a0 : W.cell? ⟨g, j * 2, none⟩ = some (.string ⟨(markT y).toArray⟩) := (HR.out.cell (p := ⟨g, j * 2, none⟩) (by simp; omega)).trans ((World.cell?_drew _ _).trans ((hb.out.cell (p := ⟨g, j * 2, none⟩) hgl).trans C0.out))
          clear hun hdep hR
          first | (simp [Region.binds] at hpre; done) | simp [Region.binds] at hpre | clear hpre
        iterate 6
          · go_simp
            first | exact hK _ _ _ rfl trivial HR.out rfl | exact hK _ _ _ rfl trivial HR.out (by simp [Act.put, hpre]) | exact hK undef _ _ trivial trivial HR.out (by simp [Act.put, hpre]) | exact hK _ _ _ trivial trivial HR.out rfl | exact hK _ _ _ trivial trivial HR.out (by simp [Act.put, hpre])
        · go_simp
          refine (markText_any y W (by omega)).mono ?_
          rintro e w5 ⟨rfl, hb5⟩
          exact hK _ _ _ rfl trivial (HR.out.trans (hb5.mono HR.out.size)) (by simp [Act.put, hpre])
        · go_simp
          first | exact hK _ _ _ rfl trivial HR.out rfl | exact hK _ _ _ rfl trivial HR.out (by simp [Act.put, hpre]) | exact hK undef _ _ trivial trivial HR.out (by simp [Act.put, hpre]) | exact hK _ _ _ trivial trivial HR.out rfl | exact hK _ _ _ trivial trivial HR.out (by simp [Act.put, hpre])
      · rintro L U W hL hφ hR
        have e7 : U 7 = .bool false := hφ 7 (by decide)
        simp only [e7]
        clear hφ
        have Hb1 := Lib.hid (show Below wr.heap.size wr W from (Below.refl _ _).drew.trans (hR.mono (by simp)))
        have hz1 := hR.size
        simp only [World.size_drew] at hz1
        clear hL hR
        obtain ⟨W1, rfl⟩ : ∃ W1 : World, W1 = W := ⟨_, rfl⟩
        go_wp2_with fail
        refine wp_region_slots3 [22, 23, 24, 25, 26, 27, 28, 29] (by kernel_rfl) (by kernel_rfl) (by kernel_rfl) (fun u => by dsimp only [frameOf, setMany, List.set, Nat.zero_add, Nat.reduceAdd])
          (fun ix v W => match ix with | 0 => v = .slice (some ⟨g, 0, none⟩) n c | 1 => v = .int .i64 (j : Int) | 2 => v = .pointer (some ⟨g, j * 2, none⟩) | 3 => v = .pointer (some ⟨g, j * 2 + 1, none⟩) | 4 => v = .string ⟨(markT y2).toArray⟩ | 5 => v = .int .i64 (y2 : Int) | 6 => v = .string ⟨(markT y2).toArray⟩ | 7 => v = .bool false | _ => True)
          (fun L U W => Below W1.drew.heap.size W1.drew W) (fun _ _ => True) (fun _ _ _ _ _ h => h) (Below.refl _ _) ?_ ?_
        · repeat (first | exact Steps.nil | (refine Steps.cons ?_ ?_; rotate_left))
          all_goals
            rintro L U W hL hpre hR hun hdep K hK
            have HR := Lib.hid hR
            have a0 : W.cell? ⟨g, j * 2 + 1, none⟩ = some (.string ⟨(markT y2).toArray⟩) := (HR.out.cell (p := ⟨g, j * 2 + 1, none⟩) (by simp; omega)).trans ((World.cell?_drew _ _).trans ((Hb1.out.cell (p := ⟨g, j * 2 + 1, none⟩) (Nat.lt_of_lt_of_le hgl hz)).trans ((hb.out.cell (p := ⟨g, j * 2 + 1, none⟩) hgl).trans C1.out)))
            clear hun hdep hR
            first | (simp [Region.binds] at hpre; done) | simp [Region.binds] at hpre | clear hpre
          iterate 6
            · go_simp
              first | exact hK _ _ _ rfl trivial HR.out rfl | exact hK _ _ _ rfl trivial HR.out (by simp [Act.put, hpre]) | exact hK undef _ _ trivial trivial HR.out (by simp [Act.put, hpre]) | exact hK _ _ _ trivial trivial HR.out rfl | exact hK _ _ _ trivial trivial HR.out (by simp [Act.put, hpre])
          · go_simp
            refine (markText_any y2 W (by omega)).mono ?_
            rintro e w5 ⟨rfl, hb5⟩
            exact hK _ _ _ rfl trivial (HR.out.trans (hb5.mono HR.out.size)) (by simp [Act.put, hpre])
          · go_simp
            first | exact hK _ _ _ rfl trivial HR.out rfl | exact hK _ _ _ rfl trivial HR.out (by simp [Act.put, hpre]) | exact hK undef _ _ trivial trivial HR.out (by simp [Act.put, hpre]) | exact hK _ _ _ trivial trivial HR.out rfl | exact hK _ _ _ trivial trivial HR.out (by simp [Act.put, hpre])
        · rintro L U W hL hφ hR
          have e7 : U 7 = .bool false := hφ 7 (by decide)
          simp only [e7]
          clear hφ
          have Hbw := Lib.hid (hb.out.trans ((Hb1.out.trans ((Below.refl _ _).drew.trans (hR.mono (by simp)) |>.mono Hb1.out.size)).mono hb.out.size))
          clear hL hR
          go_wp2_with fail
          go_roundw
          case rel => exact ⟨j + 1, y3, by go_num, by go_num, by omega, hyb.2, (by show y3 = k + (j + 1) * 2; have := Hy.out; have := Hy3.out; omega), Hbw.out⟩
          case measure => simp [intOf]; omega
    · obtain rfl : j = n := by omega
      go_wp2_with fail
      go_ret
      exact ⟨by rw [← Hy.out]; rfl, hb.out⟩
set_option maxHeartbeats 1000000 in
theorem heldRegistry_any (base g c n k : Nat) (w : World) (hk : k + n * 2 ≤ 4000000000) (hn : n * 2 ≤ c * 2) (hown : w.ownsRow base 35 2 (.slice (some ⟨g, 0, none⟩) n c) n (scells (marks k (n * 2)))) :
    Calls Tryz.prog 21 #[.agg #[.slice (some ⟨g, 0, none⟩) n c], .int .i64 k] w fun e w' => e = .returned (.int .i64 ((k + n * 2 : Nat) : Int)) ∧ Below w.heap.size w w' := by
  have H := Lib.hid (heldVersionS_any base g c n k (w.alloc (.cells #[.slice (some ⟨g, 0, none⟩) n c] 31)) hk hn (own_below hown ((Below.refl _ _).alloc (Nat.le_refl _) _)))
  have h0 : (0 : Int) ≤ ((k + n * 2 : Nat) : Int) := by omega
  have h1 : ((k + n * 2 : Nat) : Int) ≤ 4000000000 := by omega
  clear hown hn hk
  generalize ((k + n * 2 : Nat) : Int) = r at *
  go_enter Tryz.func21, Tryz.ntmps21
  go_wp2_with fail
  refine H.out.mono ?_
  rintro e w1 ⟨rfl, hb1⟩
  have Hb1 := Lib.hid (((Below.refl w.heap.size w).alloc (Nat.le_refl _) _).trans (hb1.mono (by simp)))
  clear hb1
  go_wp2_with fail
  go_ret
  exact ⟨rfl, Hb1.out⟩
set_option maxHeartbeats 1000000 in
theorem markRegistry_any (base g c n k : Nat) (ls : List (List UInt8)) (w : World) (hk : k + n * 2 ≤ 4000000000) (hown : w.ownsRow base 35 2 (.slice (some ⟨g, 0, none⟩) n c) n (scells ls)) :
    Calls Tryz.prog 20 #[.agg #[.slice (some ⟨g, 0, none⟩) n c], .int .i64 k] w fun e w' =>
      e = .returned (.int .i64 ((k + n * 2 : Nat) : Int)) ∧ w'.ownsRow base 35 2 (.slice (some ⟨g, 0, none⟩) n c) n (scells (marks k (n * 2))) ∧ w.grownBy w' (some g) := by
  have H := Lib.hid (markVersionS_any base g c n k ls (w.alloc (.cells #[.slice (some ⟨g, 0, none⟩) n c] 31)) hk (own_below hown ((Below.refl _ _).alloc (Nat.le_refl _) _)))
  have h0 : (0 : Int) ≤ ((k + n * 2 : Nat) : Int) := by omega
  have h1 : ((k + n * 2 : Nat) : Int) ≤ 4000000000 := by omega
  clear hown hk
  generalize ((k + n * 2 : Nat) : Int) = r at *
  go_enter Tryz.func20, Tryz.ntmps20
  go_wp2_with fail
  refine H.out.mono ?_
  rintro e w1 ⟨rfl, hown1, hg1⟩
  have Hown := Lib.hid hown1
  have Hg := Lib.hid (show w.grownBy w1 (some g) from grown_grown (grown_of_below ((Below.refl w.heap.size w).alloc (Nat.le_refl _) _) (some g)) hg1)
  clear hown1 hg1
  go_wp2_with fail
  go_ret
  exact ⟨rfl, Hown.out, Hg.out⟩
end Go.Proofs.YtcjfgbcdlcdeaaaGreatDoor
/- toRegistry once more: the row that it makes is the call's own; marks of an empty registry. -/
namespace Go.Proofs.YtcjfgbcdlcdeaaaGreatDoor
open Go.RowKit
set_option maxRecDepth 100000
set_option linter.unusedVariables false
set_option linter.unusedSimpArgs false
attribute [local go_sem] ba_toList

theorem set_next {α : Type} (a zs : List α) (i : Nat) (u : α) (ha : a.length = i) (h : i < zs.length) : (a ++ zs.drop i).set i u = (a ++ [u]) ++ zs.drop (i + 1) := by
  have e := List.drop_eq_getElem_cons h
  rw [e, List.set_append, if_neg (by omega), show i - a.length = 0 by omega, List.set_cons_zero, List.append_assoc]
  rfl
theorem grown_setR (w : World) (b o : Nat) (v : Value) : w.grownBy (w.setCell ⟨b, o, none⟩ v) (some b) :=
  ⟨rfl, rfl, rfl, by simp [World.setCell], fun k _ hne => by
    simp only [World.setCell, Array.getElem?_modify]
    rw [if_neg (by intro e; exact hne (by rw [e]))]⟩
set_option maxHeartbeats 2000000 in
theorem toVersionS_own (v : Value) (vs : List Ver) (w : World) (h : VRow w v vs) (hn : vs.length ≤ 1048576) :
    Calls Tryz.prog 47 #[v] w fun e w' => ∃ g, e = .returned (.slice (some ⟨g, 0, none⟩) vs.length vs.length) ∧ w'.ownsRow w.heap.size 35 2 (.slice (some ⟨g, 0, none⟩) vs.length vs.length) vs.length (vs.flatMap verc) ∧ Below w.heap.size w w' := by
  obtain ⟨i0, hi, hz0, hz1, hz2⟩ := info_parts Tryz.infoVer
  obtain ⟨A, c, rfl, hcap, hvm, hr⟩ := h
  have Hr := Lib.hid hr
  clear hr
  go_enter Tryz.func47, Tryz.ntmps47
  go_wp2_with (at_make; refine wpList_make_full _ rfl _ _ 29 rfl w.heap.size 35 i0 (.agg #[.string ⟨#[]⟩, .string ⟨#[]⟩]) 2 Tryz.underlying29 hi hz0 hz1 .i64 .i64 _ _ vs.length rfl rfl rfl rfl (by rw [hz2]; omega) (by unfold maxLen; omega) (Nat.le_refl _) ?_; intro w0 hown0 hgrow0)
  obtain ⟨zs, H0, hzl⟩ : ∃ zs : List Value, Hid (w0.ownsRow w.heap.size 35 2 (.slice (some ⟨w.heap.size, 0, none⟩) vs.length vs.length) vs.length zs) ∧ zs.length = vs.length * 2 := ⟨_, hown0, hown0.1⟩
  have hg0 : w.heap.size < w0.heap.size := (hown0.lt _ rfl).2
  have Hb0 := Lib.hid (show Below w.heap.size w w0 from (Below.refl _ _).grown hgrow0 (Nat.le_refl _) (by simp))
  clear hown0 hgrow0
  go_loopw [4] (fun i wr => ∃ k : Nat, i = .int .i64 k ∧ k ≤ vs.length ∧ Hid (wr.ownsRow w.heap.size 35 2 (.slice (some ⟨w.heap.size, 0, none⟩) vs.length vs.length) vs.length ((vs.take k).flatMap verc ++ zs.drop (k * 2))) ∧ Hid (Below w.heap.size w wr) ∧ w.heap.size < wr.heap.size) (fun i _ => vs.length - (intOf i).toNat)
  case atStart => exact ⟨0, rfl, Nat.zero_le _, (by show World.ownsRow _ _ _ _ _ _ _; simpa using H0.out), Hb0.out, hg0⟩
  case round =>
    obtain ⟨k, rfl, hk, hO, hb, hgz⟩ := hrel
    have k1 : (0 : Int) ≤ (k : Int) := by omega
    by_cases hlt : k < vs.length
    · have k2 : (k : Int) < (vs.length : Int) := by omega
      obtain ⟨b, off, rfl, hbl, c0, c1⟩ := VRow.at_ (Hr.out.below hb.out) hlt
      have Hts := Lib.hid (take_snoc vs k hlt)
      have hlen : ((vs.take k).flatMap verc).length = k * 2 := by rw [flatMap_len verc_len, List.length_take, Nat.min_eq_left hk]
      have Hlen := Lib.hid hlen
      generalize vs[k] = x at c0 c1 Hts
      clear hlen
      go_wp2_with fail
      refine (toVersion_any ⟨x.1.toArray⟩ ⟨x.2.toArray⟩ wr).mono ?_
      rintro e w1 ⟨rfl, hb1⟩
      have O1 := Lib.hid (own_below hO.out hb1)
      have T1 := Lib.hid (show w1.there w.heap.size (k * 2) 2 from there_sub (there_own O1.out) (k * 2) 2 (Nat.zero_le _) (by omega))
      have Hb1 := Lib.hid (hb.out.trans (hb1.mono hb.out.size))
      have hz1 : wr.heap.size ≤ w1.heap.size := hb1.size
      clear hb1 c0 c1
      go_wp2_with ((with_reducible refine wpList_store_hid (op := ⟨none, .store 35 _ _, _, _, _, none⟩) rfl 35 _ _ rfl w.heap.size (k * 2) [.string ⟨x.1.toArray⟩, .string ⟨x.2.toArray⟩] ?_ ?_ ?_ ?_ ?_ ?_); (first | rfl | (simp; done)); rfl; (exact T1.out); kernel_rfl; (simp [Value.oneCell']); intro w9 HS9)
      go_roundw
      case rel =>
        refine ⟨k + 1, by go_num, by omega, ?_, ?_, ?_⟩
        · rw [HS9.out]
          have h1 := (O1.out.stored (k * 2) (.string ⟨x.1.toArray⟩)).1
          have h2 := (h1.stored (k * 2 + 1) (.string ⟨x.2.toArray⟩)).1
          rw [set_next _ zs (k * 2) _ Hlen.out (by omega), set_next _ zs (k * 2 + 1) _ (by simp [Hlen.out]) (by omega)] at h2
          have e : (vs.take (k + 1)).flatMap verc ++ zs.drop ((k + 1) * 2) = ((vs.take k).flatMap verc ++ [.string ⟨x.1.toArray⟩] ++ [.string ⟨x.2.toArray⟩]) ++ zs.drop (k * 2 + 1 + 1) := by
            rw [Hts.out, List.flatMap_append, show (k + 1) * 2 = k * 2 + 1 + 1 by omega]; simp [verc]
          rw [e]
          exact h2
        · rw [HS9.out]; exact below_setCells _ (Nat.le_refl _) _ _ _ Hb1.out
        · rw [HS9.out, setCells_size]; omega
      case measure => simp [intOf]; omega
    · obtain rfl : k = vs.length := by omega
      have h9 := hO.out
      rw [List.take_length, List.drop_of_length_le (by omega), List.append_nil] at h9
      have H9 := Lib.hid h9
      clear h9
      go_wp2_with fail
      go_ret
      exact ⟨_, rfl, H9.out, hb.out⟩

set_option maxHeartbeats 1000000 in
theorem toRegistry_own (v : Value) (vs : List Ver) (w : World) (h : VRow w v vs) (hn : vs.length ≤ 1048576) :
    Calls Tryz.prog 16 #[.agg #[v]] w fun e w' => ∃ g, e = .returned (.agg #[.slice (some ⟨g, 0, none⟩) vs.length vs.length]) ∧ w'.ownsRow w.heap.size 35 2 (.slice (some ⟨g, 0, none⟩) vs.length vs.length) vs.length (vs.flatMap verc) ∧ Below w.heap.size w w' := by
  have H := Lib.hid h
  obtain ⟨A, c, rfl, _⟩ := h
  go_enter Tryz.func16, Tryz.ntmps16
  go_wp2_with fail
  refine (toVersionS_own _ vs _ (H.out.below ((((Below.refl _ _).alloc (Nat.le_refl _) _).alloc (by simp) _).alloc (by simp; omega) _)) hn).mono ?_
  rintro e w1 ⟨g1, rfl, hv, hb1⟩
  obtain ⟨hc1, hf1, hz⟩ := bcell hb1
  have T1 := Lib.hid (show w1.cell? ⟨w.heap.size + 1, 0, none⟩ = some (.slice none 0 0) from (hc1 (w.heap.size + 1) 0 (by simp)).trans (by simp [go_sem]))
  have t1 := T1.out
  have t2 : w1.cell? ⟨w.heap.size + 1 + 1, 0, none⟩ = some (.slice none 0 0) := (hc1 (w.heap.size + 1 + 1) 0 (by simp)).trans (by simp [go_sem])
  have u1 : w1.frozen? ⟨w.heap.size + 1, 0, none⟩ = false := (hf1 (w.heap.size + 1) 0 (by simp)).trans (by simp [go_sem])
  have u2 : w1.frozen? ⟨w.heap.size + 1 + 1, 0, none⟩ = false := (hf1 (w.heap.size + 1 + 1) 0 (by simp)).trans (by simp [go_sem])
  have hz1 : w.heap.size + 1 + 1 < w1.heap.size := hz _ (by simp)
  have hg1 := (hv.lt g1 rfl).1
  simp at hg1
  have Hv := Lib.hid hv
  have Hb1 := Lib.hid (show Below w.heap.size w w1 from ((((Below.refl _ _).alloc (Nat.le_refl _) _).alloc (by simp) _).alloc (by simp; omega) _).trans (hb1.mono (by simp; omega)))
  clear hb1 hc1 hf1 hz hv
  have hne : ¬ (w.heap.size + 1 + 1 = w.heap.size + 1) := by omega
  go_wp2_with fail
  refine bodyPost_ret (v := .agg #[.slice (some ⟨g1, 0, none⟩) vs.length vs.length]) (by simp [results, Tryz.results16, go_sem, t1, t2, u1, u2, hne, hz1]) rfl ?_
  refine ⟨_, rfl, own_base ((Hv.out.kept (grown_setR _ _ _ _) (.inr ?_)).kept (grown_setR _ _ _ _) (.inr ?_)) (by simp; omega), (Hb1.out.setCell (by simp; omega) _).setCell (by simp) _⟩
  · simp [Value.ownBlock]; omega
  · simp [Value.ownBlock]; omega
set_option maxHeartbeats 1000000 in
theorem markReg_nil (A : Option Addr) (c : Nat) (k : Nat) (w : World) (hk : k ≤ 4000000000) :
    Calls Tryz.prog 20 #[.agg #[.slice A 0 c], .int .i64 k] w fun e w' => e = .returned (.int .i64 (k : Int)) ∧ Below w.heap.size w w' := by
  have H : ∀ W, Calls Tryz.prog 50 #[.slice A 0 c, .int .i64 k] W fun e w' => e = .returned (.int .i64 (k : Int)) ∧ Below W.heap.size W w' := by
    intro W
    go_enter Tryz.func50, Tryz.ntmps50
    go_wp2_with fail
    refine wp_loop_rounds 1 ?_
    rw [rounds_succ]
    go_wp2_with fail
    go_ret
    exact ⟨rfl, Below.refl _ _⟩
  have H := Lib.hid H
  go_enter Tryz.func20, Tryz.ntmps20
  go_wp2_with fail
  refine (H.out _).mono ?_
  rintro e w1 ⟨rfl, hb1⟩
  have Hb1 := Lib.hid (((Below.refl w.heap.size w).alloc (Nat.le_refl _) _).trans (hb1.mono (by simp)))
  clear hb1
  go_wp2_with fail
  go_ret
  exact ⟨rfl, Hb1.out⟩
set_option maxHeartbeats 1000000 in
theorem heldReg_nil (A : Option Addr) (c : Nat) (k : Nat) (w : World) (hk : k ≤ 4000000000) :
    Calls Tryz.prog 21 #[.agg #[.slice A 0 c], .int .i64 k] w fun e w' => e = .returned (.int .i64 (k : Int)) ∧ Below w.heap.size w w' := by
  have H : ∀ W, Calls Tryz.prog 51 #[.slice A 0 c, .int .i64 k] W fun e w' => e = .returned (.int .i64 (k : Int)) ∧ Below W.heap.size W w' := by
    intro W
    go_enter Tryz.func51, Tryz.ntmps51
    go_wp2_with fail
    refine wp_loop_rounds 1 ?_
    rw [rounds_succ]
    go_wp2_with fail
    go_ret
    exact ⟨rfl, Below.refl _ _⟩
  have H := Lib.hid H
  go_enter Tryz.func21, Tryz.ntmps21
  go_wp2_with fail
  refine (H.out _).mono ?_
  rintro e w1 ⟨rfl, hb1⟩
  have Hb1 := Lib.hid (((Below.refl w.heap.size w).alloc (Nat.le_refl _) _).trans (hb1.mono (by simp)))
  have h0 : (0 : Int) ≤ (k : Int) := by omega
  clear hb1
  go_wp2_with fail
  go_ret
  exact ⟨rfl, Hb1.out⟩
end Go.Proofs.YtcjfgbcdlcdeaaaGreatDoor
/- RegistryAdd called in whatever order, its registry put into a new block. -/
namespace Go.Proofs.YtcjfgbcdlcdeaaaGreatDoor
open Go.RowKit
set_option linter.unusedVariables false

/-- The versions that are returned. -/
def addV (vs : List Ver) (x : Ver) : List Ver := if regOk (vs ++ [x]) = true then vs ++ [x] else []
theorem RaPost.q {vs : List Ver} {x : Ver} {w w' : World} {e : Ending} (h : RaPost vs x w e w') : ∃ v', e = .returned (.tuple #[.agg #[v'], .bool (regOk (vs ++ [x]))]) ∧ w'.ownsRow w.heap.size 35 2 v' (addV vs x).length ((addV vs x).flatMap verc) ∧ Below w.heap.size w w' := by
  obtain ⟨v', h1, h2, h3⟩ := h
  refine ⟨v', h1, ?_, h3⟩
  have := own_base h2 (Nat.le_succ _)
  unfold addV
  by_cases hr : regOk (vs ++ [x]) = true
  · rw [if_pos hr, if_pos hr] at this
    rw [if_pos hr]
    simpa using this
  · rw [if_neg hr, if_neg hr] at this
    rw [if_neg hr]
    simpa using this
structure AqSt (w1 : World) (vs us : List Ver) (ok : Bool) (l1 l4 l5 l6 l7 l8 l9 l10 : Bool) (u1 u4 u5 u6 u7 u8 u10 : Value) (W : World) : Prop where
  be : Below w1.heap.size w1 W
  a1 : l1 = true → l4 = false → ∃ g, u1 = .agg #[.slice (some ⟨g, 0, none⟩) vs.length vs.length] ∧ VRow W (.slice (some ⟨g, 0, none⟩) vs.length vs.length) vs
  yes : l4 = true → ∃ v', W.ownsRow w1.heap.size 35 2 v' us.length (us.flatMap verc) ∧ u4 = .tuple #[.agg #[v'], .bool ok] ∧ (l5 = true → u5 = .tuple #[.agg #[v'], .bool ok]) ∧ (l6 = true → u6 = .agg #[v']) ∧ (l7 = true → u7 = .bool ok) ∧ (l10 = true → u10 = .bool ok)
  al : l8 = true → ∃ B u, u8 = .pointer (some ⟨B, 0, none⟩) ∧ w1.heap.size ≤ B ∧ B < W.heap.size ∧ W.heap[B]? = some (.cells #[u] 31) ∧ (l9 = true → u6 = .agg #[u])
section
variable {w1 W W' : World} {vs us : List Ver} {ok : Bool} {l1 l4 l5 l6 l7 l8 l9 l10 : Bool} {u1 u4 u5 u6 u7 u8 u10 v' u : Value} {g B : Nat}
theorem AqSt.start : AqSt w1 vs us ok false false l5 l6 l7 false l9 l10 u1 u4 u5 u6 u7 u8 u10 w1 := ⟨Below.refl _ _, fun h => Bool.noConfusion h, fun h => Bool.noConfusion h, fun h => Bool.noConfusion h⟩
theorem AqSt.grow (h : AqSt w1 vs us ok l1 l4 l5 l6 l7 l8 l9 l10 u1 u4 u5 u6 u7 u8 u10 W) (hb : Below W.heap.size W W') : AqSt w1 vs us ok l1 l4 l5 l6 l7 l8 l9 l10 u1 u4 u5 u6 u7 u8 u10 W' := by
  refine ⟨h.be.trans (hb.mono h.be.size), fun p q => ?_, fun p => ?_, fun p => ?_⟩
  · obtain ⟨g, e, hv⟩ := h.a1 p q; exact ⟨g, e, hv.below hb⟩
  · obtain ⟨v', ho, h2⟩ := h.yes p; exact ⟨v', own_below ho hb, h2⟩
  · obtain ⟨B, u, e, h1, h2, h3, h4⟩ := h.al p; exact ⟨B, u, e, h1, Nat.lt_of_lt_of_le h2 hb.size, (hb.block B h2).trans h3, h4⟩
theorem AqSt.put1 (h : AqSt w1 vs us ok l1 l4 l5 l6 l7 l8 l9 l10 u1 u4 u5 u6 u7 u8 u10 W) (hv : VRow W (.slice (some ⟨g, 0, none⟩) vs.length vs.length) vs) : AqSt w1 vs us ok true l4 l5 l6 l7 l8 l9 l10 (.agg #[.slice (some ⟨g, 0, none⟩) vs.length vs.length]) u4 u5 u6 u7 u8 u10 W :=
  ⟨h.be, fun _ _ => ⟨g, rfl, hv⟩, h.yes, h.al⟩
theorem AqSt.put4 (h : AqSt w1 vs us ok l1 l4 l5 l6 l7 l8 l9 l10 u1 u4 u5 u6 u7 u8 u10 W) (h5 : l5 = false) (h6 : l6 = false) (h7 : l7 = false) (h10 : l10 = false) {W0 : World} (hw : w1.heap.size ≤ W0.heap.size) (ho : W.ownsRow W0.heap.size 35 2 v' us.length (us.flatMap verc)) :
    AqSt w1 vs us ok l1 true l5 l6 l7 l8 l9 l10 u1 (.tuple #[.agg #[v'], .bool ok]) u5 u6 u7 u8 u10 W := by
  subst h5 h6 h7 h10
  exact ⟨h.be, fun _ h => Bool.noConfusion h, fun _ => ⟨v', own_base ho hw, rfl, fun h => Bool.noConfusion h, fun h => Bool.noConfusion h, fun h => Bool.noConfusion h, fun h => Bool.noConfusion h⟩, h.al⟩
theorem AqSt.move (h : AqSt w1 vs us ok l1 l4 l5 l6 l7 l8 l9 l10 u1 u4 u5 u6 u7 u8 u10 W) (h4 : l4 = true) : AqSt w1 vs us ok l1 l4 true l6 l7 l8 l9 l10 u1 u4 u4 u6 u7 u8 u10 W :=
  ⟨h.be, h.a1, fun p => by obtain ⟨v', a, b, _, c⟩ := h.yes p; exact ⟨v', a, b, fun _ => b, c⟩, h.al⟩
theorem AqSt.get (h : AqSt w1 vs us ok l1 l4 l5 l6 l7 l8 l9 l10 u1 u4 u5 u6 u7 u8 u10 W) (h4 : l4 = true) (h5 : l5 = true) : ∃ v', u5 = .tuple #[.agg #[v'], .bool ok] ∧ (l9 = false → AqSt w1 vs us ok l1 l4 l5 true l7 l8 l9 l10 u1 u4 u5 (.agg #[v']) u7 u8 u10 W) ∧ AqSt w1 vs us ok l1 l4 l5 l6 true l8 l9 l10 u1 u4 u5 u6 (.bool ok) u8 u10 W := by
  obtain ⟨v', a, b, c, d, e, f⟩ := h.yes h4
  refine ⟨v', c h5, fun h9 => ⟨h.be, h.a1, fun _ => ⟨v', a, b, c, fun _ => rfl, e, f⟩, fun p => ?_⟩, ⟨h.be, h.a1, fun _ => ⟨v', a, b, c, d, fun _ => rfl, f⟩, h.al⟩⟩
  obtain ⟨B, u, e, q1, q2, q3, q4⟩ := h.al p
  exact ⟨B, u, e, q1, q2, q3, fun r => absurd (h9.symm.trans r) (by decide)⟩
theorem AqSt.alloc (h : AqSt w1 vs us ok l1 l4 l5 l6 l7 l8 l9 l10 u1 u4 u5 u6 u7 u8 u10 W) (h9 : l9 = false) : AqSt w1 vs us ok l1 l4 l5 l6 l7 true l9 l10 u1 u4 u5 u6 u7 (.pointer (some ⟨W.heap.size, 0, none⟩)) u10 (W.alloc (.cells #[.slice none 0 0] 31)) := by
  have g := h.grow ((Below.refl W.heap.size W).alloc (Nat.le_refl _) (.cells #[.slice none 0 0] 31))
  exact ⟨g.be, g.a1, g.yes, fun _ => ⟨_, _, rfl, h.be.size, by simp, heap_alloc_new _ _, fun r => absurd (h9.symm.trans r) (by decide)⟩⟩
theorem AqSt.asg (h : AqSt w1 vs us ok l1 l4 l5 l6 l7 l8 l9 l10 u1 u4 u5 u6 u7 u8 u10 W) (h7 : l7 = true) : AqSt w1 vs us ok l1 l4 l5 l6 l7 l8 l9 true u1 u4 u5 u6 u7 u8 u7 W :=
  ⟨h.be, h.a1, fun p => by obtain ⟨v', a, b, c, d, e, _⟩ := h.yes p; exact ⟨v', a, b, c, d, e, fun _ => e h7⟩, h.al⟩
theorem AqSt.store (h : AqSt w1 vs us ok l1 l4 l5 l6 l7 l8 l9 l10 u1 u4 u5 u6 u7 u8 u10 W) (h4 : l4 = true) (h6 : l6 = true) (h8 : l8 = true) : ∃ B v', u8 = .pointer (some ⟨B, 0, none⟩) ∧ u6 = .agg #[v'] ∧ B < W.heap.size ∧ (∃ u, W.heap[B]? = some (.cells #[u] 31)) ∧ (∃ A c, v' = .slice A us.length c) ∧
    AqSt w1 vs us ok l1 l4 l5 l6 l7 l8 true l10 u1 u4 u5 u6 u7 u8 u10 (W.setCell ⟨B, 0, none⟩ v') := by
  obtain ⟨v', a, b, c, d, e, f⟩ := h.yes h4
  obtain ⟨B, u, e8, q1, q2, q3, q4⟩ := h.al h8
  refine ⟨B, v', e8, d h6, q2, ⟨u, q3⟩, by obtain ⟨A, c, e, _⟩ := own_row a; exact ⟨A, c, e⟩, h.be.setCell (p := ⟨B, 0, none⟩) q1 _, fun _ r => absurd (h4.symm.trans r) (by decide), fun _ => ⟨v', a.kept (grown_setR _ _ _ _) (.inr (own_ne_box a q3)), b, c, d, e, f⟩, fun _ => ⟨B, v', e8, q1, by simpa using q2, ?_, fun _ => d h6⟩⟩
  simp [World.setCell, Array.getElem?_modify, q3]
theorem AqSt.fin (h : AqSt w1 vs us ok l1 l4 l5 l6 l7 l8 l9 l10 u1 u4 u5 u6 u7 u8 u10 W) (h4 : l4 = true) (h6 : l6 = true) (h8 : l8 = true) (h9 : l9 = true) (h10 : l10 = true) : ∃ B v', u8 = .pointer (some ⟨B, 0, none⟩) ∧ u10 = .bool ok ∧ w1.heap.size ≤ B ∧ B < W.heap.size ∧ W.cell? ⟨B, 0, none⟩ = some v' ∧ v'.ownBlock ≠ some B ∧
    W.ownsRow w1.heap.size 35 2 v' us.length (us.flatMap verc) ∧ Below w1.heap.size w1 W := by
  obtain ⟨v', a, b, c, d, e, f⟩ := h.yes h4
  obtain ⟨B, u, e8, q1, q2, q3, q4⟩ := h.al h8
  have e1 := d h6
  rw [q4 h9] at e1
  injection e1 with e1
  have e2 : u = v' := by simpa using e1
  subst e2
  exact ⟨B, u, e8, f h10, q1, q2, by simp [World.cell?, q3], own_ne_box a q3, a, h.be⟩
end
/-- A box with a row of the call's own. -/
structure BxV (lo : Nat) (W : World) (B : Nat) (v : Value) (us : List Ver) : Prop where
  le : lo ≤ B
  lt : B < W.heap.size
  c : W.cell? ⟨B, 0, none⟩ = some v
  own : W.ownsRow lo 35 2 v us.length (us.flatMap verc)
theorem BxV.after {lo B : Nat} {W W' : World} {v : Value} {us : List Ver} (h : BxV lo W B v us) (hb : Below W.heap.size W W') : BxV lo W' B v us :=
  ⟨h.le, Nat.lt_of_lt_of_le h.lt hb.size, (hb.cell (p := ⟨B, 0, none⟩) h.lt).trans h.c, own_below h.own hb⟩
theorem BxV.grown {lo B g : Nat} {W W' : World} {v : Value} {us : List Ver} (h : BxV lo W B v us) (hg : W.grownBy W' (some g)) (h1 : B ≠ g) (h2 : ∀ k, v.ownBlock = some k → k ≠ g) : BxV lo W' B v us :=
  ⟨h.le, Nat.lt_of_lt_of_le h.lt hg.size, hg.cell h.c (by intro e; injection e with e; exact h1 e), h.own.kept hg (by
    cases e : v.ownBlock with
    | none => exact .inl rfl
    | some k => exact .inr (by intro e2; injection e2 with e2; exact h2 k e e2))⟩
end Go.Proofs.YtcjfgbcdlcdeaaaGreatDoor
/- The walk of the law on RegistryAdd: program and reference return the same; the argument stays; what is returned is new. -/
namespace Go.Proofs.YtcjfgbcdlcdeaaaGreatDoor
open Go.RowKit
set_option maxRecDepth 100000
set_option linter.unusedVariables false
set_option linter.unusedSimpArgs false
attribute [local go_sem] ba_toList

/-- What the law knows of its arguments. -/
structure LaW (w : World) (A : Option Addr) (n c : Nat) (a b : List UInt8) (W : World) : Prop where
  be : Below w.heap.size w W
  lt : w.heap.size + 1 < W.heap.size
  r : W.cell? ⟨w.heap.size, 0, none⟩ = some (.slice A n c)
  s0 : W.cell? ⟨w.heap.size + 1, 0, none⟩ = some (.string ⟨a.toArray⟩)
  s1 : W.cell? ⟨w.heap.size + 1, 1, none⟩ = some (.string ⟨b.toArray⟩)
theorem LaW.after {w W W' : World} {A : Option Addr} {n c : Nat} {a b : List UInt8} (h : LaW w A n c a b W) (hb : Below W.heap.size W W') : LaW w A n c a b W' := by
  have hlt := h.lt
  exact ⟨h.be.trans (hb.mono h.be.size), Nat.lt_of_lt_of_le h.lt hb.size, (hb.cell (p := ⟨w.heap.size, 0, none⟩) (show w.heap.size < W.heap.size by omega)).trans h.r, (hb.cell (p := ⟨w.heap.size + 1, 0, none⟩) h.lt).trans h.s0, (hb.cell (p := ⟨w.heap.size + 1, 1, none⟩) h.lt).trans h.s1⟩
theorem LaW.grown {w W W' : World} {A : Option Addr} {n c g : Nat} {a b : List UInt8} (h : LaW w A n c a b W) (hg : W.grownBy W' (some g)) (hgl : w.heap.size + 1 < g) : LaW w A n c a b W' := by
  have hn : ∀ k, k < g → some k ≠ some g := fun k hk e => by injection e with e; omega
  exact ⟨h.be.grown hg h.be.size (fun k e => by injection e with e; omega), Nat.lt_of_lt_of_le h.lt hg.size, hg.cell h.r (hn w.heap.size (by omega)), hg.cell h.s0 (hn (w.heap.size + 1) hgl), hg.cell h.s1 (hn (w.heap.size + 1) hgl)⟩

/-- A registry's row is marked, or there is none. -/
structure MkH (lo : Nat) (us : List Ver) (v : Value) (W w' : World) : Prop where
  way : Below W.heap.size W w' ∨ ∃ g c, v = .slice (some ⟨g, 0, none⟩) us.length c ∧ W.grownBy w' (some g) ∧ True
  row : us.length = 0 ∨ ∃ g c, v = .slice (some ⟨g, 0, none⟩) us.length c ∧ us.length ≤ c ∧ w'.ownsRow lo 35 2 v us.length (scells (marks 1 (us.length * 2)))
  sl : ∃ A c, v = .slice A us.length c
theorem scells_ver (vs : List Ver) : scells (vs.flatMap fun v => [v.1, v.2]) = vs.flatMap verc := by
  induction vs with
  | nil => rfl
  | cons x xs ih => simp [scells, verc] at ih ⊢; exact ih
theorem mkH_mark {lo B : Nat} {us : List Ver} {v : Value} {W : World} (h : BxV lo W B v us) (hn : us.length ≤ 1048577) : Calls Tryz.prog 20 #[.agg #[v], .int .i64 ((1 : Nat) : Int)] W fun e w' => e = .returned (.int .i64 ((1 + us.length * 2 : Nat) : Int)) ∧ MkH lo us v W w' := by
  obtain ⟨A, c, rfl, hc, _, _⟩ := own_row h.own
  by_cases h0 : us.length = 0
  · rw [h0]
    refine (markReg_nil A c 1 W (by omega)).mono ?_
    rintro e w' ⟨rfl, hb⟩
    exact ⟨rfl, .inl hb, .inl h0, ⟨A, c, by rw [h0]⟩⟩
  · obtain ⟨g, hA⟩ : ∃ g, A = some ⟨g, 0, none⟩ := by
      rcases h.own.2 with ⟨_, e⟩ | ⟨g, cap, cur, e, _⟩
      · exact absurd e h0
      · injection e with e _ _; exact ⟨g, e⟩
    subst hA
    refine (markRegistry_any lo g c us.length 1 (us.flatMap fun v => [v.1, v.2]) W (by omega) (by rw [scells_ver]; exact h.own)).mono ?_
    rintro e w' ⟨rfl, ho, hg⟩
    exact ⟨rfl, .inr ⟨g, c, rfl, hg, trivial⟩, .inr ⟨g, c, rfl, hc, ho⟩, ⟨_, c, rfl⟩⟩
theorem mkH_held {lo : Nat} {us : List Ver} {v : Value} {W0 W W' : World} (h : MkH lo us v W0 W) (hb : Below W.heap.size W W') (hn : us.length ≤ 1048577) : Calls Tryz.prog 21 #[.agg #[v], .int .i64 ((1 : Nat) : Int)] W' fun e w' => e = .returned (.int .i64 ((1 + us.length * 2 : Nat) : Int)) ∧ Below W'.heap.size W' w' := by
  rcases h.row with h0 | ⟨g, c, rfl, hc, ho⟩
  · obtain ⟨A, c, rfl⟩ := h.sl
    rw [h0]
    exact heldReg_nil A c 1 W' (by omega)
  · exact heldRegistry_any lo g c us.length 1 W' (by omega) (by omega) (own_below ho hb)
set_option maxHeartbeats 16000000 in
theorem radd_law (w : World) (u : Value) (vs : List Ver) (a b : List UInt8) (h : VRow w u vs) (hl : ∀ x ∈ vs ++ [(a, b)], x.1.length ≤ maxLen ∧ x.2.length ≤ maxLen) :
    Calls Tryz.prog 3 #[.agg #[u], .agg #[.string ⟨a.toArray⟩, .string ⟨b.toArray⟩]] w fun e w' => e = .returned (.bool true) ∧ Below w.heap.size w w' := by
  have Hv := Lib.hid h
  have Hl := Lib.hid (show ∀ x ∈ vs, x.1.length ≤ maxLen ∧ x.2.length ≤ maxLen from fun x hx => hl x (List.mem_append_left _ hx))
  obtain ⟨hla, hlb⟩ := hl (a, b) (by simp)
  simp only at hla hlb
  obtain ⟨A, c, rfl, _, _, _⟩ := h
  clear hl
  have Hla := Lib.hid hla
  have Hlb := Lib.hid hlb
  clear hla hlb
  go_enter Tryz.func3, Tryz.ntmps3
  go_wp2_with fail
  refine (szRegistry_any _ vs _ (Hv.out.below (((Below.refl _ _).alloc (Nat.le_refl _) _).alloc (by simp) _)) Hl.out).mono ?_
  rintro e w1 ⟨r, rfl, q1, q2, q3, hb1⟩
  have Hq := Lib.hid q3
  have Q1 := Lib.hid (show LaW w A vs.length c a b w1 from LaW.after (W := (w.alloc (.cells #[.slice A vs.length c] 24)).alloc (.cells #[.string ⟨a.toArray⟩, .string ⟨b.toArray⟩] 26)) ⟨((Below.refl w.heap.size w).alloc (Nat.le_refl _) _).alloc (by simp) _, by simp, by go_simp, by go_simp, by go_simp⟩ hb1)
  clear q3 hb1
  have p0 := Q1.out.r
  have p1 := Q1.out.s0
  have p2 := Q1.out.s1
  by_cases hneg : r < 0
  · go_wp2_with fail
    go_ret
    exact ⟨rfl, Q1.out.be⟩
  · obtain ⟨hn0, hl0⟩ := Hq.out (by omega)
    have hn : vs.length ≤ 1048576 := by omega
    have Hl0 := Lib.hid hl0
    clear hl0
    go_wp2_with fail
    refine (szVersion_any a b r _ Hla.out Hlb.out (by omega) (by omega)).mono ?_
    rintro e w2 ⟨r2, rfl, q1, q2, q3, hb2⟩
    have Hq2 := Lib.hid q3
    have Q2 := Lib.hid (Q1.out.after hb2)
    clear q3 hb2 p0 p1 p2 Q1
    by_cases hneg2 : r2 < 0
    · go_wp2_with fail
      go_ret
      exact ⟨rfl, Q2.out.be⟩
    · obtain ⟨ha0, hb0⟩ := Hq2.out (by omega)
      have Hl4 := Lib.hid (show ∀ x ∈ vs ++ [(a, b)], x.1.length ≤ 4000000 ∧ x.2.length ≤ 4000000 from fun x hx => by
        rcases List.mem_append.1 hx with hx | hx
        · have := Hl0.out x hx; exact ⟨by omega, by omega⟩
        · rw [List.mem_singleton] at hx; subst hx; simp only; exact ⟨by omega, by omega⟩)
      clear ha0 hb0 Hq Hq2 Hl Hla Hlb Hl0
      have hn1 : vs.length ≤ 1048576 := hn
      have HB := Lib.hid Q2.out.be
      go_wp2_with fail
      refine wp_region_slots3 [27, 28, 29, 30, 31, 26, 32, 33, 6, 999, 7] (by kernel_rfl) (by kernel_rfl) (by kernel_rfl) (fun u => by dsimp only [frameOf, setMany, List.set, Nat.zero_add, Nat.reduceAdd])
        (fun ix v W => match ix with | 0 => v = .agg #[.slice A vs.length c] | 2 => v = .agg #[.string ⟨a.toArray⟩, .string ⟨b.toArray⟩] | 3 => v = .agg #[.string ⟨a.toArray⟩, .string ⟨b.toArray⟩] | _ => True)
        (fun L U W => AqSt w2.drew vs (addV vs (a, b)) (regOk (vs ++ [(a, b)])) (L 1) (L 4) (L 5) (L 6) (L 7) (L 8) (L 9) (L 10) (U 1) (U 4) (U 5) (U 6) (U 7) (U 8) (U 10) W) (fun _ _ => True) (fun _ _ _ _ _ h => h) (AqSt.start) ?_ ?_
      · repeat (first | exact Steps.nil | (refine Steps.cons ?_ ?_; rotate_left))
        all_goals
          rintro L U W hL hpre hR hun hdep K hK
          have HR := Lib.hid hR
          have hbe := HR.out.be
          have x0 := (hbe.cell (p := ⟨w.heap.size, 0, none⟩) (by have := Q2.out.lt; simp; omega)).trans ((World.cell?_drew _ _).trans Q2.out.r)
          have x1 := (hbe.cell (p := ⟨w.heap.size + 1, 0, none⟩) (by have := Q2.out.lt; simp; omega)).trans ((World.cell?_drew _ _).trans Q2.out.s0)
          have x2 := (hbe.cell (p := ⟨w.heap.size + 1, 1, none⟩) (by have := Q2.out.lt; simp; omega)).trans ((World.cell?_drew _ _).trans Q2.out.s1)
          have Hdep := Lib.hid hdep
          clear hun hdep hR
          first | (simp [Region.binds] at hpre; done) | simp [Region.binds] at hpre | clear hpre
        · go_simp
          first | exact hK _ _ _ rfl trivial HR.out rfl | exact hK _ _ _ rfl trivial HR.out (by simp [Act.put, hpre]) | exact hK undef _ _ trivial trivial HR.out (by simp [Act.put, hpre]) | exact hK _ _ _ trivial trivial HR.out rfl | exact hK _ _ _ trivial trivial HR.out (by simp [Act.put, hpre])
        · go_simp
          refine (toRegistry_own _ vs W (Hv.out.below (HB.out.trans ((Below.refl _ _).drew.trans (hbe.mono (by simp)) |>.mono HB.out.size))) hn).mono ?_
          rintro e w7 ⟨g7, rfl, ho7, hb7⟩
          go_simp
          exact hK _ _ _ trivial trivial ((HR.out.grow hb7).put1 (own_row ho7)) (by simp [Act.put, hpre])
        · go_simp
          first | exact hK _ _ _ rfl trivial HR.out rfl | exact hK _ _ _ rfl trivial HR.out (by simp [Act.put, hpre]) | exact hK undef _ _ trivial trivial HR.out (by simp [Act.put, hpre]) | exact hK _ _ _ trivial trivial HR.out rfl | exact hK _ _ _ trivial trivial HR.out (by simp [Act.put, hpre])
        · go_simp
          refine (toVersion_any ⟨a.toArray⟩ ⟨b.toArray⟩ W).mono ?_
          rintro e w7 ⟨rfl, hb7⟩
          go_simp
          exact hK _ _ _ rfl trivial (HR.out.grow hb7) (by simp [Act.put, hpre])
        · have h5 : L 5 = false := Hdep.out 5 _ rfl { on := 4, ground := Ground.data } (by simp) (by rfl) hL
          have h6 : L 6 = false := Hdep.out 6 _ rfl { on := 5, ground := Ground.data } (by simp) (by rfl) h5
          have h7 : L 7 = false := Hdep.out 7 _ rfl { on := 5, ground := Ground.data } (by simp) (by rfl) h5
          have h10 : L 10 = false := Hdep.out 10 _ rfl { on := 7, ground := Ground.data } (by simp) (by rfl) h7
          have l1 : L 1 = true := by first | exact hpre.1 | exact hpre.1.1
          have uV : U 3 = .agg #[.string ⟨a.toArray⟩, .string ⟨b.toArray⟩] := by first | exact hpre.2.2 | exact hpre.2.1.2
          obtain ⟨g7, u1, hv7⟩ := HR.out.a1 l1 hL
          simp only [u1]
          go_simp
          refine (sAdd_any g7 vs.length vs a b W hv7 hn1 Hl4.out).mono ?_
          rintro e w7 hp
          obtain ⟨v7, rfl, ho7, hb7⟩ := hp.q
          go_simp
          exact hK _ _ _ trivial trivial ((HR.out.grow hb7).put4 h5 h6 h7 h10 hbe.size ho7) (by simp [Act.put, hpre, u1])
        · have l4 : L 4 = true := by first | exact hpre | exact hpre.1 | exact hpre.2 | exact hpre.2.1 | exact hpre.1.1 | exact hpre.2.2.1
          go_simp
          exact hK _ _ _ trivial trivial (HR.out.move l4) (by simp [Act.put, hpre])
        · have l5 : L 5 = true := by first | exact hpre | exact hpre.1 | exact hpre.2 | exact hpre.2.1 | exact hpre.1.1 | exact hpre.2.2.1
          have l4 : L 4 = true := by cases h : L 4 with | true => rfl | false => exact absurd ((Hdep.out 5 _ rfl { on := 4, ground := Ground.data } (by simp) (by rfl) h).symm.trans l5) (by decide)
          obtain ⟨v7, u5, g0, g1⟩ := HR.out.get l4 l5
          have h9 : L 9 = false := Hdep.out 9 _ rfl { on := 6, ground := Ground.data } (by simp) (by rfl) hL
          simp only [u5]
          go_simp
          exact hK _ _ _ trivial trivial (g0 h9) (by simp [Act.put, hpre, u5])
        · have l5 : L 5 = true := by first | exact hpre | exact hpre.1 | exact hpre.2 | exact hpre.2.1 | exact hpre.1.1 | exact hpre.2.2.1
          have l4 : L 4 = true := by cases h : L 4 with | true => rfl | false => exact absurd ((Hdep.out 5 _ rfl { on := 4, ground := Ground.data } (by simp) (by rfl) h).symm.trans l5) (by decide)
          obtain ⟨v7, u5, g0, g1⟩ := HR.out.get l4 l5
          simp only [u5]
          go_simp
          exact hK _ _ _ trivial trivial g1 (by simp [Act.put, hpre, u5])
        · have h9 : L 9 = false := Hdep.out 9 _ rfl { on := 8, ground := Ground.data } (by simp) (by rfl) hL
          go_simp
          exact hK _ _ _ trivial trivial (HR.out.alloc h9) (by simp [Act.put, hpre])
        · have l8 : L 8 = true := by first | exact hpre.1 | exact hpre.2.1
          have l6 : L 6 = true := by first | exact hpre.2.1 | exact hpre.2
          have l5 : L 5 = true := by cases h : L 5 with | true => rfl | false => exact absurd ((Hdep.out 6 _ rfl { on := 5, ground := Ground.data } (by simp) (by rfl) h).symm.trans l6) (by decide)
          have l4 : L 4 = true := by cases h : L 4 with | true => rfl | false => exact absurd ((Hdep.out 5 _ rfl { on := 4, ground := Ground.data } (by simp) (by rfl) h).symm.trans l5) (by decide)
          obtain ⟨B7, v7, u8, u6, hB7, ⟨u0, hx7⟩, ⟨A7, c7, e7⟩, hs7⟩ := HR.out.store l4 l6 l8
          subst e7
          have k0 : W.cell? ⟨B7, 0, none⟩ = some u0 := by simp [World.cell?, hx7]
          have k1 : W.frozen? ⟨B7, 0, none⟩ = false := by simp [World.frozen?, hx7]
          simp only [u8, u6]
          go_simp
          exact hK undef _ _ trivial trivial hs7 (by simp [Act.put, hpre, u8, u6])
        · have l7 : L 7 = true := by first | exact hpre | exact hpre.1 | exact hpre.2 | exact hpre.2.1 | exact hpre.1.1 | exact hpre.2.2.1
          go_simp
          exact hK _ _ _ trivial trivial (HR.out.asg l7) (by simp [Act.put, hpre])
      · rintro L U W hL hφ hR
        clear hφ
        obtain ⟨B6, v6, u8, u10, hBl, hBt, hBc, hBn, hBo, hBe⟩ := hR.fin (hL 4 (by decide)) (hL 6 (by decide)) (hL 8 (by decide)) (hL 9 (by decide)) (hL 10 (by decide))
        simp only [u8, u10]
        clear hR hL u8 u10
        have Q3 := Lib.hid (Q2.out.after ((Below.refl _ _).drew.trans (hBe.mono (by simp))))
        have hz2 := Q2.out.lt
        have X6 := Lib.hid (show BxV (w.heap.size + 2) W B6 v6 (addV vs (a, b)) from ⟨by simp at hBl; omega, hBt, hBc, own_base hBo (by simp; omega)⟩)
        clear hBe hBc hBn hBo hBl hBt HB Q2
        obtain ⟨w3, rfl⟩ : ∃ w3 : World, w3 = W := ⟨_, rfl⟩
        have p0 := Q3.out.r
        go_wp2_with fail
        refine (toRegistry_own _ vs _ (Hv.out.below Q3.out.be) hn).mono ?_
        rintro e w4 ⟨gx, rfl, ho4, hb4⟩
        have hgx := ho4.lt gx rfl
        have Q4 := Lib.hid (Q3.out.after hb4)
        have X64 := Lib.hid (X6.out.after hb4)
        have hz4 := hb4.size
        clear p0 hb4
        have hz3 := Q3.out.lt
        have H6b := Lib.hid (show B6 < gx ∧ ∀ k, v6.ownBlock = some k → k < gx from ⟨by have := X6.out.lt; omega, fun k e => by have := (X6.out.own.lt k e).2; omega⟩)
        obtain ⟨w5, hw5⟩ : ∃ w5, w5 = w4.alloc (.cells #[.slice (some ⟨gx, 0, none⟩) vs.length vs.length] 31) := ⟨_, rfl⟩
        have hb45 : Below w4.heap.size w4 w5 := by rw [hw5]; exact (Below.refl _ _).alloc (Nat.le_refl _) _
        have Q5 := Lib.hid (Q4.out.after hb45)
        have X65 := Lib.hid (X64.out.after hb45)
        have HO5 := Lib.hid (own_below ho4 hb45)
        have C5 := Lib.hid (show w5.cell? ⟨w4.heap.size, 0, none⟩ = some (.slice (some ⟨gx, 0, none⟩) vs.length vs.length) from by rw [hw5]; go_simp)
        have hl5 : w4.heap.size < w5.heap.size := by rw [hw5]; simp
        have HB := Lib.hid Q5.out.be
        clear hb45 ho4 Q3 Q4 X6 X64
        go_upto_region 10 with fail
        rw [← hw5]
        clear hw5
        generalize w4.heap.size = B8 at *
        refine wp_region_slots3 [37, 38, 39, 40, 36, 41, 42, 9, 999, 10] (by kernel_rfl) (by kernel_rfl) (by kernel_rfl) (fun u => by dsimp only [frameOf, setMany, List.set, Nat.zero_add, Nat.reduceAdd])
          (fun ix v W => match ix with | 0 => v = .agg #[.slice (some ⟨gx, 0, none⟩) vs.length vs.length] | 1 => v = .agg #[.string ⟨a.toArray⟩, .string ⟨b.toArray⟩] | 2 => v = .agg #[.string ⟨a.toArray⟩, .string ⟨b.toArray⟩] | _ => True)
          (fun L U W => AqSt w5.drew vs (addV vs (a, b)) (regOk (vs ++ [(a, b)])) false (L 3) (L 4) (L 5) (L 6) (L 7) (L 8) (L 9) undef (U 3) (U 4) (U 5) (U 6) (U 7) (U 9) W) (fun _ _ => True) (fun _ _ _ _ _ h => h) (AqSt.start) ?_ ?_
        · repeat (first | exact Steps.nil | (refine Steps.cons ?_ ?_; rotate_left))
          all_goals
            rintro L U W hL hpre hR hun hdep K hK
            have HR := Lib.hid hR
            have hbe := HR.out.be
            have x0 := (hbe.cell (p := ⟨w.heap.size, 0, none⟩) (by have := Q5.out.lt; simp; omega)).trans ((World.cell?_drew _ _).trans Q5.out.r)
            have x1 := (hbe.cell (p := ⟨w.heap.size + 1, 0, none⟩) (by have := Q5.out.lt; simp; omega)).trans ((World.cell?_drew _ _).trans Q5.out.s0)
            have x2 := (hbe.cell (p := ⟨w.heap.size + 1, 1, none⟩) (by have := Q5.out.lt; simp; omega)).trans ((World.cell?_drew _ _).trans Q5.out.s1)
            have x3 := (hbe.cell (p := ⟨B8, 0, none⟩) (by simp; omega)).trans ((World.cell?_drew _ _).trans C5.out)
            have Hdep := Lib.hid hdep
            clear hun hdep hR
            first | (simp [Region.binds] at hpre; done) | simp [Region.binds] at hpre | clear hpre
          iterate 2
            · go_simp
              first | exact hK _ _ _ rfl trivial HR.out rfl | exact hK _ _ _ rfl trivial HR.out (by simp [Act.put, hpre]) | exact hK undef _ _ trivial trivial HR.out (by simp [Act.put, hpre]) | exact hK _ _ _ trivial trivial HR.out rfl | exact hK _ _ _ trivial trivial HR.out (by simp [Act.put, hpre])
          · go_simp
            refine (toVersion_any ⟨a.toArray⟩ ⟨b.toArray⟩ W).mono ?_
            rintro e w7 ⟨rfl, hb7⟩
            go_simp
            exact hK _ _ _ rfl trivial (HR.out.grow hb7) (by simp [Act.put, hpre])
          · have h4 : L 4 = false := Hdep.out 4 _ rfl { on := 3, ground := Ground.data } (by simp) (by rfl) hL
            have h5 : L 5 = false := Hdep.out 5 _ rfl { on := 4, ground := Ground.data } (by simp) (by rfl) h4
            have h6 : L 6 = false := Hdep.out 6 _ rfl { on := 4, ground := Ground.data } (by simp) (by rfl) h4
            have h9 : L 9 = false := Hdep.out 9 _ rfl { on := 6, ground := Ground.data } (by simp) (by rfl) h6
            have hv7 := (own_row HO5.out).below ((Below.refl _ _).drew.trans (hbe.mono (by simp)))
            go_simp
            refine (iAdd_any gx vs.length vs a b W hv7 hn1 Hl4.out).mono ?_
            rintro e w7 hp
            obtain ⟨v7, rfl, ho7, hb7⟩ := hp.q
            go_simp
            exact hK _ _ _ trivial trivial ((HR.out.grow hb7).put4 h4 h5 h6 h9 hbe.size ho7) (by simp [Act.put, hpre])
          · have l3 : L 3 = true := by first | exact hpre | exact hpre.1 | exact hpre.2 | exact hpre.2.1 | exact hpre.1.1 | exact hpre.2.2.1
            go_simp
            exact hK _ _ _ trivial trivial (HR.out.move l3) (by simp [Act.put, hpre])
          · have l4 : L 4 = true := by first | exact hpre | exact hpre.1 | exact hpre.2 | exact hpre.2.1 | exact hpre.1.1 | exact hpre.2.2.1
            have l3 : L 3 = true := by cases h : L 3 with | true => rfl | false => exact absurd ((Hdep.out 4 _ rfl { on := 3, ground := Ground.data } (by simp) (by rfl) h).symm.trans l4) (by decide)
            obtain ⟨v7, u5, g0, g1⟩ := HR.out.get l3 l4
            have h9 : L 8 = false := Hdep.out 8 _ rfl { on := 5, ground := Ground.data } (by simp) (by rfl) hL
            simp only [u5]
            go_simp
            exact hK _ _ _ trivial trivial (g0 h9) (by simp [Act.put, hpre, u5])
          · have l4 : L 4 = true := by first | exact hpre | exact hpre.1 | exact hpre.2 | exact hpre.2.1 | exact hpre.1.1 | exact hpre.2.2.1
            have l3 : L 3 = true := by cases h : L 3 with | true => rfl | false => exact absurd ((Hdep.out 4 _ rfl { on := 3, ground := Ground.data } (by simp) (by rfl) h).symm.trans l4) (by decide)
            obtain ⟨v7, u5, g0, g1⟩ := HR.out.get l3 l4
            simp only [u5]
            go_simp
            exact hK _ _ _ trivial trivial g1 (by simp [Act.put, hpre, u5])
          · have h9 : L 8 = false := Hdep.out 8 _ rfl { on := 7, ground := Ground.data } (by simp) (by rfl) hL
            go_simp
            exact hK _ _ _ trivial trivial (HR.out.alloc h9) (by simp [Act.put, hpre])
          · have l7 : L 7 = true := by first | exact hpre.1 | exact hpre.2.1
            have l5 : L 5 = true := by first | exact hpre.2.1 | exact hpre.2
            have l4 : L 4 = true := by cases h : L 4 with | true => rfl | false => exact absurd ((Hdep.out 5 _ rfl { on := 4, ground := Ground.data } (by simp) (by rfl) h).symm.trans l5) (by decide)
            have l3 : L 3 = true := by cases h : L 3 with | true => rfl | false => exact absurd ((Hdep.out 4 _ rfl { on := 3, ground := Ground.data } (by simp) (by rfl) h).symm.trans l4) (by decide)
            obtain ⟨B7, v7, u8, u6, hB7, ⟨u0, hx7⟩, ⟨A7, c7, e7⟩, hs7⟩ := HR.out.store l3 l5 l7
            subst e7
            have k0 : W.cell? ⟨B7, 0, none⟩ = some u0 := by simp [World.cell?, hx7]
            have k1 : W.frozen? ⟨B7, 0, none⟩ = false := by simp [World.frozen?, hx7]
            simp only [u8, u6]
            go_simp
            exact hK undef _ _ trivial trivial hs7 (by simp [Act.put, hpre, u8, u6])
          · have l6 : L 6 = true := by first | exact hpre | exact hpre.1 | exact hpre.2 | exact hpre.2.1 | exact hpre.1.1 | exact hpre.2.2.1
            go_simp
            exact hK _ _ _ trivial trivial (HR.out.asg l6) (by simp [Act.put, hpre])
        · rintro L U W hL hφ hR
          clear hφ
          obtain ⟨B9, v9, u8, u10, hBl, hBt, hBc, hBn, hBo, hBe⟩ := hR.fin (hL 3 (by decide)) (hL 5 (by decide)) (hL 7 (by decide)) (hL 8 (by decide)) (hL 9 (by decide))
          simp only [u8, u10]
          clear hR hL u8 u10
          have hBe2 := (Below.refl w5.heap.size w5).drew.trans (hBe.mono (by simp))
          have Q6 := Lib.hid (Q5.out.after hBe2)
          have X66 := Lib.hid (X65.out.after hBe2)
          have HO6 := Lib.hid (own_below HO5.out hBe2)
          have C6 := Lib.hid ((hBe2.cell (p := ⟨B8, 0, none⟩) hl5).trans C5.out)
          have hz6 := hBe2.size
          have hz5 := Q5.out.lt
          have X9 := Lib.hid (show BxV (w.heap.size + 2) W B9 v9 (addV vs (a, b)) from ⟨by simp at hBl; omega, hBt, hBc, own_base hBo (by simp; omega)⟩)
          have H9b := Lib.hid (show gx < B9 ∧ B6 < B9 ∧ (∀ k, v9.ownBlock = some k → gx < k ∧ B6 < k) ∧ v9.ownBlock ≠ some B9 ∧ (∀ k, v6.ownBlock = some k → v9.ownBlock ≠ some k) from by
            have h1 := X65.out.lt
            have h2 : gx < w5.heap.size := by have := hgx.2; omega
            refine ⟨by simp at hBl; omega, by simp at hBl; omega, fun k e => by have := (hBo.lt k e).1; simp at this; exact ⟨by omega, by omega⟩, hBn, fun k e e2 => ?_⟩
            have h3 := (hBo.lt k e2).1
            have h4 := H6b.out.2 k e
            simp at h3
            omega)
          clear hBe hBe2 hBc hBn hBo hBl hBt HB Q5 X65 HO5 C5
          obtain ⟨w6, rfl⟩ : ∃ w6 : World, w6 = W := ⟨_, rfl⟩
          have p6 := X66.out.c
          have p9 := X9.out.c
          obtain ⟨ok, hok⟩ : ∃ ok, regOk (vs ++ [(a, b)]) = ok := ⟨_, rfl⟩
          rw [hok]
          have Hok := Lib.hid hok
          clear hok
          have tok : (ok != ok) = false := by simp
          obtain ⟨us, hus⟩ : ∃ us, addV vs (a, b) = us := ⟨_, rfl⟩
          rw [hus] at X66 X9
          have Hus := Lib.hid hus
          go_wp2_with fail
          refine (eqRegistry_any v9 v6 us _ (own_row X9.out.own) (own_row X66.out.own)).mono ?_
          rintro e w7 ⟨rfl, hb7⟩
          have Q7 := Lib.hid (Q6.out.after hb7)
          have X67 := Lib.hid (X66.out.after hb7)
          have X97 := Lib.hid (X9.out.after hb7)
          have HO7 := Lib.hid (own_below HO6.out hb7)
          have C7 := Lib.hid ((hb7.cell (p := ⟨B8, 0, none⟩) (show B8 < w6.heap.size by omega)).trans C6.out)
          have hz7 := hb7.size
          clear hb7 p6 p9 Q6 X66 X9 HO6 C6
          go_wp2_with fail
          refine wp_region_slots3 [52, 53, 54, 55, 56] (by kernel_rfl) (by kernel_rfl) (by kernel_rfl) (fun u => by dsimp only [frameOf, setMany, List.set, Nat.zero_add, Nat.reduceAdd])
            (fun ix v W => match ix with | 0 => v = .agg #[.slice (some ⟨gx, 0, none⟩) vs.length vs.length] | 1 => v = .agg #[.slice A vs.length c] | 3 => v = .bool true | 4 => v = .bool false | _ => True)
            (fun L U W => Below w7.drew.heap.size w7.drew W ∧ (L 2 = true → ∃ g3, U 2 = .agg #[.slice (some ⟨g3, 0, none⟩) vs.length vs.length] ∧ VRow W (.slice (some ⟨g3, 0, none⟩) vs.length vs.length) vs)) (fun _ _ => True) (fun _ _ _ _ _ h => h) (⟨Below.refl _ _, fun h => Bool.noConfusion h⟩) ?_ ?_
          · repeat (first | exact Steps.nil | (refine Steps.cons ?_ ?_; rotate_left))
            all_goals
              rintro L U W hL hpre hR hun hdep K hK
              have HR := Lib.hid hR
              have hbe := HR.out.1
              have x0 := (hbe.cell (p := ⟨w.heap.size, 0, none⟩) (by have := Q7.out.lt; simp; omega)).trans ((World.cell?_drew _ _).trans Q7.out.r)
              have x3 := (hbe.cell (p := ⟨B8, 0, none⟩) (by simp; omega)).trans ((World.cell?_drew _ _).trans C7.out)
              clear hun hdep hR
              first | (simp [Region.binds] at hpre; done) | simp [Region.binds] at hpre | clear hpre
            iterate 2
              · go_simp
                first | exact hK _ _ _ rfl trivial HR.out rfl | exact hK _ _ _ rfl trivial HR.out (by simp [Act.put, hpre]) | exact hK undef _ _ trivial trivial HR.out (by simp [Act.put, hpre]) | exact hK _ _ _ trivial trivial HR.out rfl | exact hK _ _ _ trivial trivial HR.out (by simp [Act.put, hpre])
            · go_simp
              refine (toRegistry_own _ vs W (Hv.out.below (Q7.out.be.trans ((Below.refl _ _).drew.trans (hbe.mono (by simp)) |>.mono Q7.out.be.size))) hn).mono ?_
              rintro e w9 ⟨g7, rfl, ho7, hb7⟩
              go_simp
              exact hK _ _ _ trivial trivial ⟨hbe.trans (hb7.mono hbe.size), fun _ => ⟨g7, rfl, own_row ho7⟩⟩ (by simp [Act.put, hpre])
            · have l2 : L 2 = true := by first | exact hpre.2 | exact hpre.2.1
              obtain ⟨g3, u2, hv3⟩ := HR.out.2 l2
              simp only [u2]
              go_simp
              refine (eqRegistry_any _ _ vs W ((own_row HO7.out).below ((Below.refl _ _).drew.trans (hbe.mono (by simp)))) hv3).mono ?_
              rintro e w9 ⟨rfl, hb5⟩
              go_simp
              exact hK _ _ _ rfl trivial ⟨hbe.trans (hb5.mono hbe.size), fun h => ⟨g3, u2, hv3.below hb5⟩⟩ (by simp [Act.put, hpre, u2])
            · go_simp
              first | exact hK _ _ _ rfl trivial HR.out rfl | exact hK _ _ _ rfl trivial HR.out (by simp [Act.put, hpre]) | exact hK undef _ _ trivial trivial HR.out (by simp [Act.put, hpre]) | exact hK _ _ _ trivial trivial HR.out rfl | exact hK _ _ _ trivial trivial HR.out (by simp [Act.put, hpre])
          · rintro L U W hL hφ hR
            have e4 : U 4 = .bool false := hφ 4 (by decide)
            simp only [e4]
            clear hφ
            have hBe2 := (Below.refl w7.heap.size w7).drew.trans (hR.1.mono (by simp))
            have Q8 := Lib.hid (Q7.out.after hBe2)
            have X68 := Lib.hid (X67.out.after hBe2)
            have X98 := Lib.hid (X97.out.after hBe2)
            have HO8 := Lib.hid (own_below HO7.out hBe2)
            have p8 : W.cell? ⟨B8, 0, none⟩ = some (.slice (some ⟨gx, 0, none⟩) vs.length vs.length) := (hBe2.cell (p := ⟨B8, 0, none⟩) (show B8 < w7.heap.size by omega)).trans C7.out
            clear hR hL hBe2 Q7 X67 X97 HO7 C7
            obtain ⟨w8, rfl⟩ : ∃ w8 : World, w8 = W := ⟨_, rfl⟩
            have k0 : (0 : Int) ≤ ((1 + vs.length * 2 : Nat) : Int) := by omega
            have hmk := markRegistry_any w3.heap.size gx vs.length vs.length 1 (vs.flatMap fun v => [v.1, v.2]) w8 (by omega) (by rw [scells_ver]; exact HO8.out)
            have Hmk := Lib.hid hmk
            clear hmk
            generalize ((1 + vs.length * 2 : Nat) : Int) = k1 at *
            go_wp2_with fail
            refine Hmk.out.mono ?_
            rintro e w9 ⟨rfl, _, hg9⟩
            have Q9 := Lib.hid (Q8.out.grown hg9 (by omega))
            have X69 := Lib.hid (X68.out.grown hg9 (by have := H6b.out.1; omega) (fun k e => by have := H6b.out.2 k e; omega))
            have X99 := Lib.hid (X98.out.grown hg9 (by have := H9b.out.1; omega) (fun k e => by have := (H9b.out.2.2.1 k e).1; omega))
            have p6 := X69.out.c
            have p9 := X99.out.c
            clear hg9 p8 Q8 X68 X98 HO8 Hmk
            go_wp2_with fail
            refine (eqRegistry_any v9 v6 us _ (own_row X99.out.own) (own_row X69.out.own)).mono ?_
            rintro e w10 ⟨rfl, hb10⟩
            have Q10 := Lib.hid (Q9.out.after hb10)
            have X610 := Lib.hid (X69.out.after hb10)
            have X910 := Lib.hid (X99.out.after hb10)
            clear hb10 p6 p9 Q9 X69 X99
            have p9 := X910.out.c
            have hul : us.length ≤ 1048577 := by rw [← hus]; unfold addV; split <;> simp; omega
            have m0 : (0 : Int) ≤ ((1 + us.length * 2 : Nat) : Int) := by omega
            obtain ⟨mm, hmm⟩ : ∃ mm : Int, mm = ((1 + us.length * 2 : Nat) : Int) := ⟨_, rfl⟩
            have m1 : (0 : Int) ≤ mm := by omega
            have tmm : (mm != mm) = false := by simp
            have hMH : (∀ W, BxV (w.heap.size + 2) W B9 v9 us → Calls Tryz.prog 20 #[.agg #[v9], .int .i64 ((1 : Nat) : Int)] W fun e w' => e = .returned (.int .i64 mm) ∧ MkH (w.heap.size + 2) us v9 W w') ∧ ∀ W0 W W', MkH (w.heap.size + 2) us v9 W0 W → Below W.heap.size W W' → Calls Tryz.prog 21 #[.agg #[v9], .int .i64 ((1 : Nat) : Int)] W' fun e w' => e = .returned (.int .i64 mm) ∧ Below W'.heap.size W' w' := by
              rw [hmm]
              exact ⟨fun W h => mkH_mark h (by omega), fun W0 W W' h hb => mkH_held h hb (by omega)⟩
            have HMK := Lib.hid hMH.1
            have HHE := Lib.hid hMH.2
            clear hMH m0 hmm
            obtain ⟨A9, c9, e9⟩ : ∃ A9 c9, v9 = .slice A9 us.length c9 := by obtain ⟨A9, c9, e, _⟩ := own_row X910.out.own; exact ⟨A9, c9, e⟩
            rw [e9] at p9
            have He9 := Lib.hid e9
            have hMc := HMK.out w10 X910.out
            rw [e9] at hMc
            have HMc := Lib.hid hMc
            clear hMc e9
            go_wp2_with fail
            refine HMc.out.mono ?_
            rintro e w11 ⟨rfl, hM⟩
            rw [← He9.out] at hM
            have HM := Lib.hid hM
            have hLa : LaW w A vs.length c a b w11 ∧ BxV (w.heap.size + 2) w11 B6 v6 us ∧ w11.cell? ⟨B9, 0, none⟩ = some v9 ∧ B9 < w11.heap.size := by
              rcases hM.way with hb | ⟨g, cc, eg, hg, _⟩
              · exact ⟨Q10.out.after hb, X610.out.after hb, (X910.out.after hb).c, (X910.out.after hb).lt⟩
              · have h9 := H9b.out
                have e1 : v9.ownBlock = some g := by rw [eg]; rfl
                refine ⟨Q10.out.grown hg (by have := (h9.2.2.1 g e1).1; have := hgx.1; omega), X610.out.grown hg (by have := (h9.2.2.1 g e1).2; omega) (fun k e => fun ek => h9.2.2.2.2 k e (by rw [ek]; exact e1)), hg.cell X910.out.c (by intro e; exact h9.2.2.2.1 (by rw [e1, e])), Nat.lt_of_lt_of_le X910.out.lt hg.size⟩
            have Q11 := Lib.hid hLa.1
            have X611 := Lib.hid hLa.2.1
            have C11 := Lib.hid hLa.2.2.1
            have hl11 := hLa.2.2.2
            have p9 : w11.cell? ⟨B9, 0, none⟩ = some (.slice A9 us.length c9) := by rw [hLa.2.2.1, He9.out]
            have hHc := HHE.out _ _ _ hM (Below.refl _ _)
            rw [He9.out] at hHc
            have HHc := Lib.hid hHc
            clear hLa hM hHc Q10 X610 X910 HMc
            go_wp2_with fail
            refine HHc.out.mono ?_
            rintro e w12 ⟨rfl, hb12⟩
            have Hb12 := Lib.hid hb12
            have Q12 := Lib.hid (Q11.out.after hb12)
            have X612 := Lib.hid (X611.out.after hb12)
            have C12 := Lib.hid ((hb12.cell (p := ⟨B9, 0, none⟩) hl11).trans C11.out)
            have hl12 := Nat.lt_of_lt_of_le hl11 hb12.size
            have HB := Lib.hid Q12.out.be
            clear hb12 p9 Q11 X611 C11 HHc
            go_wp2_with fail
            refine wp_region_slots3 [85, 86, 87, 88, 89, 84, 90, 91, 14, 999, 15] (by kernel_rfl) (by kernel_rfl) (by kernel_rfl) (fun u => by dsimp only [frameOf, setMany, List.set, Nat.zero_add, Nat.reduceAdd])
              (fun ix v W => match ix with | 0 => v = .agg #[.slice A vs.length c] | 2 => v = .agg #[.string ⟨a.toArray⟩, .string ⟨b.toArray⟩] | 3 => v = .agg #[.string ⟨a.toArray⟩, .string ⟨b.toArray⟩] | _ => True)
              (fun L U W => AqSt w12.drew vs us ok (L 1) (L 4) (L 5) (L 6) (L 7) (L 8) (L 9) (L 10) (U 1) (U 4) (U 5) (U 6) (U 7) (U 8) (U 10) W) (fun _ _ => True) (fun _ _ _ _ _ h => h) (AqSt.start) ?_ ?_
            · repeat (first | exact Steps.nil | (refine Steps.cons ?_ ?_; rotate_left))
              all_goals
                rintro L U W hL hpre hR hun hdep K hK
                have HR := Lib.hid hR
                have hbe := HR.out.be
                have x0 := (hbe.cell (p := ⟨w.heap.size, 0, none⟩) (by have := Q12.out.lt; simp; omega)).trans ((World.cell?_drew _ _).trans Q12.out.r)
                have x1 := (hbe.cell (p := ⟨w.heap.size + 1, 0, none⟩) (by have := Q12.out.lt; simp; omega)).trans ((World.cell?_drew _ _).trans Q12.out.s0)
                have x2 := (hbe.cell (p := ⟨w.heap.size + 1, 1, none⟩) (by have := Q12.out.lt; simp; omega)).trans ((World.cell?_drew _ _).trans Q12.out.s1)
                have Hdep := Lib.hid hdep
                clear hun hdep hR
                first | (simp [Region.binds] at hpre; done) | simp [Region.binds] at hpre | clear hpre
              · go_simp
                first | exact hK _ _ _ rfl trivial HR.out rfl | exact hK _ _ _ rfl trivial HR.out (by simp [Act.put, hpre]) | exact hK undef _ _ trivial trivial HR.out (by simp [Act.put, hpre]) | exact hK _ _ _ trivial trivial HR.out rfl | exact hK _ _ _ trivial trivial HR.out (by simp [Act.put, hpre])
              · go_simp
                refine (toRegistry_own _ vs W (Hv.out.below (HB.out.trans ((Below.refl _ _).drew.trans (hbe.mono (by simp)) |>.mono HB.out.size))) hn).mono ?_
                rintro e w7 ⟨g7, rfl, ho7, hb7⟩
                go_simp
                exact hK _ _ _ trivial trivial ((HR.out.grow hb7).put1 (own_row ho7)) (by simp [Act.put, hpre])
              · go_simp
                first | exact hK _ _ _ rfl trivial HR.out rfl | exact hK _ _ _ rfl trivial HR.out (by simp [Act.put, hpre]) | exact hK undef _ _ trivial trivial HR.out (by simp [Act.put, hpre]) | exact hK _ _ _ trivial trivial HR.out rfl | exact hK _ _ _ trivial trivial HR.out (by simp [Act.put, hpre])
              · go_simp
                refine (toVersion_any ⟨a.toArray⟩ ⟨b.toArray⟩ W).mono ?_
                rintro e w7 ⟨rfl, hb7⟩
                go_simp
                exact hK _ _ _ rfl trivial (HR.out.grow hb7) (by simp [Act.put, hpre])
              · have h5 : L 5 = false := Hdep.out 5 _ rfl { on := 4, ground := Ground.data } (by simp) (by rfl) hL
                have h6 : L 6 = false := Hdep.out 6 _ rfl { on := 5, ground := Ground.data } (by simp) (by rfl) h5
                have h7 : L 7 = false := Hdep.out 7 _ rfl { on := 5, ground := Ground.data } (by simp) (by rfl) h5
                have h10 : L 10 = false := Hdep.out 10 _ rfl { on := 7, ground := Ground.data } (by simp) (by rfl) h7
                have l1 : L 1 = true := by first | exact hpre.1 | exact hpre.1.1
                have uV : U 3 = .agg #[.string ⟨a.toArray⟩, .string ⟨b.toArray⟩] := by first | exact hpre.2.2 | exact hpre.2.1.2
                obtain ⟨g7, u1, hv7⟩ := HR.out.a1 l1 hL
                simp only [u1]
                go_simp
                refine (iAdd_any g7 vs.length vs a b W hv7 hn1 Hl4.out).mono ?_
                rintro e w7 hp
                have hp2 := hp.q
                rw [Hok.out, Hus.out] at hp2
                obtain ⟨v7, rfl, ho7, hb7⟩ := hp2
                go_simp
                exact hK _ _ _ trivial trivial ((HR.out.grow hb7).put4 h5 h6 h7 h10 hbe.size ho7) (by simp [Act.put, hpre, u1])
              · have l4 : L 4 = true := by first | exact hpre | exact hpre.1 | exact hpre.2 | exact hpre.2.1 | exact hpre.1.1 | exact hpre.2.2.1
                go_simp
                exact hK _ _ _ trivial trivial (HR.out.move l4) (by simp [Act.put, hpre])
              · have l5 : L 5 = true := by first | exact hpre | exact hpre.1 | exact hpre.2 | exact hpre.2.1 | exact hpre.1.1 | exact hpre.2.2.1
                have l4 : L 4 = true := by cases h : L 4 with | true => rfl | false => exact absurd ((Hdep.out 5 _ rfl { on := 4, ground := Ground.data } (by simp) (by rfl) h).symm.trans l5) (by decide)
                obtain ⟨v7, u5, g0, g1⟩ := HR.out.get l4 l5
                have h9 : L 9 = false := Hdep.out 9 _ rfl { on := 6, ground := Ground.data } (by simp) (by rfl) hL
                simp only [u5]
                go_simp
                exact hK _ _ _ trivial trivial (g0 h9) (by simp [Act.put, hpre, u5])
              · have l5 : L 5 = true := by first | exact hpre | exact hpre.1 | exact hpre.2 | exact hpre.2.1 | exact hpre.1.1 | exact hpre.2.2.1
                have l4 : L 4 = true := by cases h : L 4 with | true => rfl | false => exact absurd ((Hdep.out 5 _ rfl { on := 4, ground := Ground.data } (by simp) (by rfl) h).symm.trans l5) (by decide)
                obtain ⟨v7, u5, g0, g1⟩ := HR.out.get l4 l5
                simp only [u5]
                go_simp
                exact hK _ _ _ trivial trivial g1 (by simp [Act.put, hpre, u5])
              · have h9 : L 9 = false := Hdep.out 9 _ rfl { on := 8, ground := Ground.data } (by simp) (by rfl) hL
                go_simp
                exact hK _ _ _ trivial trivial (HR.out.alloc h9) (by simp [Act.put, hpre])
              · have l8 : L 8 = true := by first | exact hpre.1 | exact hpre.2.1
                have l6 : L 6 = true := by first | exact hpre.2.1 | exact hpre.2
                have l5 : L 5 = true := by cases h : L 5 with | true => rfl | false => exact absurd ((Hdep.out 6 _ rfl { on := 5, ground := Ground.data } (by simp) (by rfl) h).symm.trans l6) (by decide)
                have l4 : L 4 = true := by cases h : L 4 with | true => rfl | false => exact absurd ((Hdep.out 5 _ rfl { on := 4, ground := Ground.data } (by simp) (by rfl) h).symm.trans l5) (by decide)
                obtain ⟨B7, v7, u8, u6, hB7, ⟨u0, hx7⟩, ⟨A7, c7, e7⟩, hs7⟩ := HR.out.store l4 l6 l8
                subst e7
                have k0 : W.cell? ⟨B7, 0, none⟩ = some u0 := by simp [World.cell?, hx7]
                have k1 : W.frozen? ⟨B7, 0, none⟩ = false := by simp [World.frozen?, hx7]
                simp only [u8, u6]
                go_simp
                exact hK undef _ _ trivial trivial hs7 (by simp [Act.put, hpre, u8, u6])
              · have l7 : L 7 = true := by first | exact hpre | exact hpre.1 | exact hpre.2 | exact hpre.2.1 | exact hpre.1.1 | exact hpre.2.2.1
                go_simp
                exact hK _ _ _ trivial trivial (HR.out.asg l7) (by simp [Act.put, hpre])
            · rintro L U W hL hφ hR
              clear hφ
              obtain ⟨B14, v14, u8, u10, hBl, hBt, hBc, hBn, hBo, hBe⟩ := hR.fin (hL 4 (by decide)) (hL 6 (by decide)) (hL 8 (by decide)) (hL 9 (by decide)) (hL 10 (by decide))
              simp only [u8, u10]
              clear hR hL u8 u10
              have hBe2 := (Below.refl w12.heap.size w12).drew.trans (hBe.mono (by simp))
              have Q13 := Lib.hid (Q12.out.after hBe2)
              have X613 := Lib.hid (X612.out.after hBe2)
              have C13 := Lib.hid ((hBe2.cell (p := ⟨B9, 0, none⟩) hl12).trans C12.out)
              have Hb13 := Lib.hid (Hb12.out.trans (hBe2.mono Hb12.out.size))
              have hl13 := Nat.lt_of_lt_of_le hl12 hBe2.size
              have HO14 := Lib.hid hBo
              have p14 := hBc
              have p6 := X613.out.c
              clear hBe hBe2 hBc hBn hBo hBl hBt HB Q12 X612 C12
              obtain ⟨w13, rfl⟩ : ∃ w13 : World, w13 = W := ⟨_, rfl⟩
              go_wp2_with fail
              refine (eqRegistry_any v14 v6 us _ (own_row HO14.out) (own_row X613.out.own)).mono ?_
              rintro e w14 ⟨rfl, hb14⟩
              have Q14 := Lib.hid (Q13.out.after hb14)
              have p9 : w14.cell? ⟨B9, 0, none⟩ = some (.slice A9 us.length c9) := by rw [← He9.out]; exact (hb14.cell (p := ⟨B9, 0, none⟩) hl13).trans C13.out
              have hHc := HHE.out _ _ w14 HM.out (Hb13.out.trans (hb14.mono Hb13.out.size))
              rw [He9.out] at hHc
              have HHc := Lib.hid hHc
              clear hb14 hHc Q13 X613 C13 p14 p6
              go_wp2_with fail
              refine HHc.out.mono ?_
              rintro e w15 ⟨rfl, hb15⟩
              have Q15 := Lib.hid (Q14.out.after hb15)
              clear hb15 Q14 p9 HHc
              go_wp2_with fail
              go_ret
              exact ⟨rfl, Q15.out.be⟩
end Go.Proofs.YtcjfgbcdlcdeaaaGreatDoor
/- How a version that came in is opened; the walk of the law on RegistryAdd as the card wants it. -/
namespace Go.Proofs.YtcjfgbcdlcdeaaaGreatDoor
set_option linter.unusedVariables false
set_option maxRecDepth 100000
set_option linter.unusedSimpArgs false
open Go.ChangeShapes Go.WideShapes Go.ChangeAt Go.RowKit Go.Deep

section
variable {H : Type} {enc : TypeId × Value → H} {W : World} {base : Nat} {v : Value} {d : DataW H} {ps : List MemPlace}
theorem arg_version (hv : Value.okWide Tryz.prog W .any base 26 v) (h : DataW.Trod enc Tryz.prog W 0 (fun _ => true) true 26 v d ps) :
    ∃ (a b : List UInt8), v = .agg #[.string ⟨a.toArray⟩, .string ⟨b.toArray⟩] ∧ a.length ≤ maxLen ∧ b.length ≤ maxLen := by
  obtain ⟨cs, rfl, hsz⟩ := okWide_struct Tryz.underlying26 hv
  obtain ⟨fuel, hf⟩ := h
  obtain ⟨a, b, hcs, ha, hb⟩ := trod_ver hf
  obtain ⟨l⟩ := cs
  simp [Value.cells] at hcs
  subst hcs
  exact ⟨a.data.toList, b.data.toList, by simp, by simpa using ha, by simpa using hb⟩
end
theorem FnExactRegistryAdd_walk (w : World) (u : Value) (vs : List Ver) (h : VRow w u vs) (hl : ∀ x ∈ vs, x.1.length ≤ maxLen ∧ x.2.length ≤ maxLen) (a b : List UInt8) (ha : a.length ≤ maxLen) (hb : b.length ≤ maxLen) :
    Calls Tryz.prog 3 #[.agg #[u], .agg #[.string ⟨a.toArray⟩, .string ⟨b.toArray⟩]] w fun e w' => e = .returned (.bool true) ∧ Below w.heap.size w w' :=
  radd_law w u vs a b h fun x hx => by
    rcases List.mem_append.1 hx with hx | hx
    · exact hl x hx
    · rw [List.mem_singleton] at hx; subst hx; exact ⟨ha, hb⟩
end Go.Proofs.YtcjfgbcdlcdeaaaGreatDoor
