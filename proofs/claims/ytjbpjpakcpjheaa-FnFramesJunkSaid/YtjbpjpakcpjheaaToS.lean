/- toStringS and DrawFramesPut: lists of texts that a call makes itself. -/
import Derived.Test.YtjbpjpakcpjheaaDraw1
import Derived.Test.YtjbpjpakcpjheaaApp
namespace Go.Proofs.Ytjbpjpakcpjheaa
open Go.RowKit
set_option maxRecDepth 100000
set_option linter.unusedVariables false
attribute [local go_sem] ba_get ba_toList ba_extract take_drop_all ByteArray.mk_append_mk

theorem set_mid (A B : List Value) (k : Nat) (x y : Value) (h : A.length = k) : (A ++ x :: B).set k y = A ++ y :: B := by
  subst h
  rw [List.set_append, if_neg (by omega)]; simp

/-- A row of blocks from base on stays while an older block turns. -/
theorem ownsRow_above {w w' : World} {base g : Nat} {e : TypeId} {size : Nat} {v : Value} {n : Nat} {xs : List Value} (h : w.ownsRow base e size v n xs) (hg : w.grownBy w' (some g)) (hlt : g < base) : w'.ownsRow base e size v n xs :=
  h.kept hg (by
    rcases hv : v.ownBlock with _ | k
    · exact .inl rfl
    · refine .inr (fun e => ?_)
      injection e with e
      have := (h.lt k hv).1
      omega)

set_option maxHeartbeats 1000000 in
theorem toStringS_any (A : Option Addr) (n c : Nat) (ls : List (List UInt8)) (w : World) (h : RowAt w A n (scells ls)) (hn : n ≤ 1048576) :
    Calls Try.prog 22 #[.slice A n c] w fun e w' => ∃ v, e = .returned v ∧ w'.ownsRow w.heap.size 9 1 v n (scells ls) ∧ Below w.heap.size w w' := by
  obtain ⟨i0, hi, hz0, hz1, hz2⟩ := info_parts Try.infoStr
  have hl : ls.length = n := by have := h.1; simpa [scells] using this
  have H := Lib.hid h
  have Hl := Lib.hid hl
  clear h hl
  go_enter Try.func22, Try.ntmps22
  go_wp2_with (at_make; refine wpList_make_full _ rfl _ _ 29 rfl w.heap.size 9 i0 (.string ⟨#[]⟩) 1 Try.underlying29 hi hz0 hz1 .i64 .i64 _ _ n rfl rfl rfl rfl (by rw [hz2]; omega) (by unfold maxLen; omega) (Nat.le_refl _) ?_; intro w0 hown0 hgrow0)
  go_loopw [4] (fun i wr => ∃ (k : Nat) (ys : List Value), i = .int .i64 k ∧ k ≤ n ∧ Hid (wr.ownsRow w.heap.size 9 1 (.slice (some ⟨w.heap.size, 0, none⟩) n n) n (scells (ls.take k) ++ ys)) ∧ Hid (Below w.heap.size w wr)) (fun i _ => n - (intOf i).toNat)
  case atStart => exact ⟨0, (madeCells (Value.string ⟨#[]⟩).cells (n * 1)).toList, rfl, Nat.zero_le _, hown0, (Below.refl _ _).grown hgrow0 (Nat.le_refl _) (by simp)⟩
  case round =>
    obtain ⟨k, ys, rfl, hk, hown, hb⟩ := hrel
    have hl := Hl.out
    have ho1 := hown.out.1
    have hlen : k + ys.length = n := by simpa [scells, Nat.min_eq_left (show k ≤ ls.length by omega)] using ho1
    clear ho1
    by_cases hlt : k < n
    · obtain ⟨b, o, rfl, hbl, hc⟩ := (H.out.below hb.out).at_ hlt
      have hx : wr.cell? ⟨b, o + k, none⟩ = some (.string ⟨(ls[k]'(by omega)).toArray⟩) := by rw [hc]; simp [scells]
      have Hsn := Lib.hid (take_snoc ls k (by omega))
      generalize ls[k]'(show k < ls.length by omega) = s at hx Hsn
      obtain ⟨y, zs, rfl⟩ : ∃ y zs, ys = y :: zs := by
        cases ys with
        | nil => simp at hlen; omega
        | cons y zs => exact ⟨y, zs, rfl⟩
      have hkl : (scells (ls.take k)).length = k := by simp [scells]; omega
      have hst := hown.out.stored k (.string ⟨s.toArray⟩)
      rw [set_mid _ _ _ _ _ hkl] at hst
      have Hst := Lib.hid hst
      have hfz := hown.out.frozenAt k
      have hcl := hown.out.cellAt k (by omega)
      rw [List.getElem?_append_right (by omega), hkl] at hcl
      simp at hcl
      clear hc hst hkl hlen
      go_wp2_with fail
      go_roundw
      case rel =>
        refine ⟨k + 1, zs, by go_num, by omega, ?_, ?_⟩
        · rw [Hsn.out, scells_snoc, List.append_assoc]
          exact Hst.out.1
        · exact hb.out.grown Hst.out.2 hb.out.size (fun j hj => by injection hj with hj; omega)
      case measure => simp [intOf]; omega
    · obtain rfl : k = n := by omega
      have hy : ys = [] := List.eq_nil_of_length_eq_zero (by omega)
      subst hy
      have e : ls.take k = ls := List.take_of_length_le (by omega)
      have Ho := Lib.hid (show wr.ownsRow w.heap.size 9 1 (.slice (some ⟨w.heap.size, 0, none⟩) k k) k (scells ls) by have := hown.out; rw [e] at this; simpa using this)
      clear e hlen hl
      go_wp2_with fail
      go_ret
      exact ⟨_, rfl, Ho.out, hb.out⟩

set_option maxHeartbeats 1600000 in
theorem DrawFramesPut_any (A : Option Addr) (n c : Nat) (l : List UInt8) (w : World) (h : RowAt w A n (bcells l)) (hc : n ≤ c) (hcm : c ≤ maxLen) :
    Calls Try.prog 27 #[.slice A n c] w fun e w' => ∃ (v : Value) (ls : List (List UInt8)), e = .returned v ∧ w'.ownsRow w.heap.size 9 1 v ls.length (scells ls) ∧ ls.length ≤ 5 ∧ Below w.heap.size w w' := by
  go_enter Try.func27, Try.ntmps27
  go_wp2_with fail
  refine (l6Open_any A n c l w h hc hcm).mono ?_
  rintro e w1 ⟨g, rfl, hR, hgb, hb1⟩
  have HR := Lib.hid hR
  have hgl := hR.lt
  have Hb1 := Lib.hid hb1
  clear hR h hb1
  go_wp2_with fail
  refine (pick_any g 0 6 _ (HR.out.alloc _) (by omega) (by omega) (by omega)).mono ?_
  rintro e w2 ⟨x, rfl, hx1, _, hR2, hg2⟩
  have hx : x < 6 := by omega
  have hb2 : Below w.heap.size w w2 := below_grown (Hb1.out.alloc Hb1.out.size _) hg2 hgb
  have ho : w2.ownsRow (g + 1) 9 1 (.slice (some ⟨w1.heap.size, 0, none⟩) 0 0) 0 (scells []) := by
    have h1 := World.ownsRow_lit (base := g + 1) (e := 9) (size := 1) w1 #[] 0 (by omega) (Nat.zero_le _) rfl
    exact h1.kept hg2 (.inr (by simp [Value.ownBlock]; omega))
  have hs2 : g + 1 ≤ w2.heap.size := hR2.lt
  have HR2 := Lib.hid hR2
  have Hb2 := Lib.hid hb2
  have Ho := Lib.hid ho
  have Hs2 := Lib.hid hs2
  have Hgb := Lib.hid hgb
  clear hR2 hb2 ho hg2 hx1 hs2 hgb
  go_wp2_with fail
  go_loopw [4, 5] (fun v k wr => ∃ (ls : List (List UInt8)) (y q : Nat), k = .int .i64 (y : Int) ∧ y ≤ 5 ∧ ls.length + y ≤ 5 ∧ q + y ≤ 100 ∧ Hid (Rdr wr g q) ∧ Hid (wr.ownsRow (g + 1) 9 1 v ls.length (scells ls)) ∧ Hid (Below w.heap.size w wr)) (fun _ k _ => (intOf k).toNat)
  case atStart => exact ⟨[], x, 1, rfl, by omega, by simp; omega, by omega, HR2.out, Ho.out, Hb2.out⟩
  case round =>
    obtain ⟨ls, y, q, rfl, hy5, hlen, hq, hR, hown, hb⟩ := hrel
    by_cases hy : 0 < y
    · go_wp2_with fail
      refine (l6Many_any [120] 100 _ (by simp) (by omega)).mono ?_
      rintro e w3 ⟨⟨l1, rfl, hl1⟩, rfl⟩
      go_wp2_with fail
      refine (l6Many_any [126] 9 _ (by simp) (by omega)).mono ?_
      rintro e w3 ⟨⟨l2, rfl, hl2⟩, rfl⟩
      go_wp2_with fail
      refine (l6Many_any [121] 101 _ (by simp) (by omega)).mono ?_
      rintro e w3 ⟨⟨l3, rfl, hl3⟩, rfl⟩
      simp at hl1 hl2 hl3
      have T := Lib.hid (textRowOf wr [[], [104, 105], [126, 126, 126], l1, l2, l3] 101 (by simp; omega))
      have Ha := Lib.hid (hR.out.alloc (.cells (scells [[], [104, 105], [126, 126, 126], l1, l2, l3]).toArray 9))
      have Hlt := Lib.hid hR.out.lt
      clear hl1 hl2 hl3
      go_wp2_with fail
      refine (pick_any g q 40 _ Ha.out (by omega) (by omega) (by omega)).mono ?_
      rintro e w4 ⟨z, rfl, hz1, _, hR4, hg4⟩
      have hz : z % 6 < 6 := Nat.mod_lt _ (by omega)
      obtain ⟨s, hcell, hs⟩ := (T.out.grown hg4 (by have := Hlt.out; omega)).cell hz
      have i1 : (0 : Int) ≤ (z : Int) := by omega
      have i0 : (z : Int) % 6 = ((z % 6 : Nat) : Int) := by omega
      generalize z % 6 = z6 at hz hcell i0
      have i2 : (0 : Int) ≤ (z6 : Int) := by omega
      have i3 : (z6 : Int) < 6 := by omega
      have HR4 := Lib.hid hR4
      have Hown4 := Lib.hid (ownsRow_above (hown.out.alloc (.cells (scells [[], [104, 105], [126, 126, 126], l1, l2, l3]).toArray 9)) hg4 (Nat.lt_succ_self _))
      have Hb4 := Lib.hid (below_grown (hb.out.alloc hb.out.size (.cells (scells [[], [104, 105], [126, 126, 126], l1, l2, l3]).toArray 9)) hg4 Hgb.out)
      have Hs4 := Lib.hid (show g + 1 ≤ w4.heap.size from hR4.lt)
      clear hR4 hg4 hz1
      go_wp2_with (at_builtin; refine wpList_app1 _ rfl _ _ 29 rfl (g + 1) 9 (.string ⟨#[]⟩) 16 Try.underlying29 Try.infoStr rfl w4 (.string ⟨s.toArray⟩) rfl rfl _ ls.length (scells ls) rfl rfl Hown4.out (by unfold maxLen; omega) (by omega) Hs4.out ?_; intro v' w5 hown5 hb5)
      have Hown5 := Lib.hid (show w5.ownsRow (g + 1) 9 1 v' (ls ++ [s]).length (scells (ls ++ [s])) by rw [scells_snoc, List.length_append]; exact hown5)
      have Hb5 := Lib.hid (Hb4.out.trans (hb5.mono (by have := Hgb.out; omega)))
      have HR5 := Lib.hid (HR4.out.belowg hb5 hb5.size)
      clear hown5 hb5
      go_wp2_with fail
      go_roundw
      case rel => exact ⟨ls ++ [s], y - 1, q + 1, by go_num, by omega, by rw [List.length_append]; simp; omega, by omega, HR5.out, Hown5.out, Hb5.out⟩
      case measure => simp [intOf]; omega
    · go_wp2_with fail
      go_ret
      exact ⟨_, ls, rfl, (by
        have h := hown.out
        refine ⟨h.1, ?_⟩
        rcases h.2 with h | ⟨g2, cap, cur, e1, e2, e3⟩
        · exact .inl h
        · exact .inr ⟨g2, cap, cur, e1, by have := Hgb.out; omega, e3⟩), by omega, hb.out⟩
end Go.Proofs.Ytjbpjpakcpjheaa
