/- Texts joined: SType, SField, SEnds, SValid, SValid2, SOf1, SOf, SUsed1, Row. Conditions: as each theorem names them. -/
import Derived.BigQuiet
import Derived.Sort.Walk0
import Derived.Deep.MidRow
import Derived.Deep.AppendLies
import Derived.Test.YtcjfgbcdlcdeaaaGreatDoorK01
import Derived.Test.YtcjfgbcdlcdeaaaGreatDoorK02
import Derived.Test.YtcjfgbcdlcdeaaaGreatDoorK03
import Derived.Test.YtcjfgbcdlcdeaaaGreatDoorK09
import Derived.Test.YtcjfgbcdlcdeaaaGreatDoorK10
import Derived.Test.YtcjfgbcdlcdeaaaGreatDoorK11
import Derived.Test.YtcjfgbcdlcdeaaaGreatDoorK12
/- l3ReadType, whole: what it answers is typeS. -/
namespace Go.Proofs.YtcjfgbcdlcdeaaaGreatDoor
open Go.RowKit

theorem sReadType_any (s : List UInt8) (w : World) (hs : s.length ≤ 1000) :
    Calls Tryz.prog 115 #[.string ⟨s.toArray⟩] w (StPost (typeS s) w) := by
  rcases cutL_cases 61 s with ⟨hn, _⟩ | ⟨p, u, h, hp, _⟩
  · exact sType_none s w hs hn
  · cases p with
    | nil => exact sType_empty s u w hs h
    | cons c nm =>
      rcases Bool.eq_false_or_eq_true (nameOk nm) with hnm | hnm
      · by_cases hso : sortOk c
        · by_cases hu : u = []
          · rcases hso with rfl | rfl | rfl
            · exact sType_bare82 s nm u w hs h hp hnm hu
            · exact sType_bare85 s nm u w hs h hp hnm hu
            · exact sType_bare69 s nm u w hs h hp hnm hu
          · rcases hso with rfl | rfl | rfl
            · exact sType_full82 s nm u w hs h hp hnm hu
            · exact sType_full85 s nm u w hs h hp hnm hu
            · exact sType_full69 s nm u w hs h hp hnm hu
        · exact sType_sort s c nm u w hs h hp hnm hso
      · exact sType_name s c nm u w hs h hp hnm

end Go.Proofs.YtcjfgbcdlcdeaaaGreatDoor
/- What the reference looks up: the field of a tag, the type of a name, of a kind. -/
namespace Go.Proofs.YtcjfgbcdlcdeaaaGreatDoor
open Go.RowKit
set_option maxRecDepth 100000
set_option linter.unusedVariables false
attribute [local go_sem] ba_get ba_toList ba_extract take_drop_all ByteArray.mk_append_mk

/-- What looking for a field returns. -/
def sfR : Option Fd → Value
  | some f => .tuple #[sfV f, .bool true]
  | none => .tuple #[sf0, .bool false]

set_option maxHeartbeats 1000000 in
theorem sField_any (st nm fv : Value) (fs : List Fd) (n : Nat) (w : World) (h : SFds w fv fs) (hn : n ≤ 1000000000) :
    Calls Tryz.prog 125 #[.agg #[st, nm, fv], .int .i64 n] w fun e w' => e = .returned (sfR (fieldT fs n)) ∧ Below w.heap.size w w' := by
  obtain ⟨A, c, rfl, hl, hr⟩ := h
  have Hr := Lib.hid hr
  clear hr
  go_enter Tryz.func125, Tryz.ntmps125
  go_wp2_with fail
  go_loopw [6] (fun i wr => ∃ k : Nat, i = .int .i64 k ∧ k ≤ fs.length ∧ wr = (w.alloc (.cells #[st, nm, .slice A fs.length c] 133)).alloc (.cells #[.int .i64 0, .string ⟨#[]⟩, .string ⟨#[]⟩, .string ⟨#[]⟩] 135) ∧ Hid (∀ f ∈ fs.take k, decide (f.tag = n) = false)) (fun i _ => fs.length - (intOf i).toNat)
  case atStart => exact ⟨0, rfl, Nat.zero_le _, rfl, by intro f hf; simp at hf⟩
  case round =>
    obtain ⟨k, rfl, hk, rfl, hin⟩ := hrel
    by_cases hlt : k < fs.length
    · obtain ⟨b, off, rfl, hb, c0, c1, c2, c3⟩ := SFds.at_ Hr.out hlt
      have Hts := Lib.hid (take_snoc fs k hlt)
      have Hft := Lib.hid (find_take (p := fun f => decide (f.tag = n)) hlt hin.out)
      generalize fs[k] = f at c0 c1 c2 c3 Hts Hft
      have k1 : (0 : Int) ≤ (k : Int) := by omega
      have k2 : (k : Int) < (fs.length : Int) := by omega
      by_cases he : f.tag = n
      · have t1 : ((f.tag : Int) == (n : Int)) = true := by simp [he]
        have Hfin := Lib.hid (show fieldT fs n = some f by unfold fieldT; rw [Hft.out, if_pos (by simpa using he)])
        clear he
        go_wp2_with fail
        exact bodyPost_ret (v := .tuple #[sfV f, .bool true]) (by simp [results, Tryz.results125, go_sem, sfV]) rfl ⟨by rw [Hfin.out]; rfl, ((Below.refl _ _).alloc (Nat.le_refl _) _).alloc (by simp) _⟩
      · have t1 : ((f.tag : Int) == (n : Int)) = false := by rw [beq_eq_false_iff_ne]; omega
        have Hin := Lib.hid (show ∀ g ∈ fs.take (k + 1), decide (g.tag = n) = false by
          intro g hg
          rw [Hts.out] at hg
          rcases List.mem_append.1 hg with hg | hg
          · exact hin.out g hg
          · simp at hg; subst hg; simpa using he)
        clear he
        go_wp2_with fail
        go_roundw
        case rel => exact ⟨k + 1, by go_num, by omega, trivial, Hin.out⟩
        case measure => simp [intOf]; omega
    · have Hfin := Lib.hid (show fieldT fs n = none from find_all_none (fun f hf => hin.out f (by rw [List.take_of_length_le (by omega)]; exact hf)))
      go_wp2_with fail
      exact bodyPost_ret (v := .tuple #[sf0, .bool false]) (by simp [results, Tryz.results125, go_sem, sf0]) rfl ⟨by rw [Hfin.out]; rfl, ((Below.refl _ _).alloc (Nat.le_refl _) _).alloc (by simp) _⟩

/-- What looking for a type returns. -/
def styR : Option (Ty × Value) → Value
  | some x => .tuple #[styV x.1 x.2, .bool true]
  | none => .tuple #[sty0, .bool false]

set_option maxHeartbeats 1000000 in
theorem sFind_any (v : Value) (xs : List (Ty × Value)) (n : List UInt8) (w : World) (h : SSc w v xs) :
    Calls Tryz.prog 135 #[v, .string ⟨n.toArray⟩] w fun e w' => e = .returned (styR (findX xs n)) ∧ Below w.heap.size w w' := by
  obtain ⟨A, c, rfl, hl, hr, hf⟩ := h
  have Hr := Lib.hid hr
  have Hf := Lib.hid hf
  clear hr hf
  go_enter Tryz.func135, Tryz.ntmps135
  go_wp2_with fail
  go_loopw [6] (fun i wr => ∃ k : Nat, i = .int .i64 k ∧ k ≤ xs.length ∧ wr = w.alloc (.cells #[.int .u8 0, .string ⟨#[]⟩, .slice none 0 0] 133) ∧ Hid (∀ x ∈ xs.take k, decide (x.1.name = n) = false)) (fun i _ => xs.length - (intOf i).toNat)
  case atStart => exact ⟨0, rfl, Nat.zero_le _, rfl, by intro f hf; simp at hf⟩
  case round =>
    obtain ⟨k, rfl, hk, rfl, hin⟩ := hrel
    by_cases hlt : k < xs.length
    · obtain ⟨b, off, rfl, hb, c0, c1, c2⟩ := SSc.at_ Hr.out hlt
      have Hts := Lib.hid (take_snoc xs k hlt)
      have Hft := Lib.hid (find_take (p := fun x => decide (x.1.name = n)) hlt hin.out)
      have hfx := Hf.out _ (List.getElem_mem hlt)
      generalize xs[k] = x at c0 c1 c2 Hts Hft hfx
      obtain ⟨t, fv⟩ := x
      simp only [] at c0 c1 c2 hfx
      obtain ⟨A2, d2, hfv, _⟩ := hfx
      subst hfv
      have k1 : (0 : Int) ≤ (k : Int) := by omega
      have k2 : (k : Int) < (xs.length : Int) := by omega
      by_cases he : t.name = n
      · have t1 : (t.name == n) = true := by simp [he]
        have Hfin := Lib.hid (show findX xs n = some (t, .slice A2 t.fields.length d2) by unfold findX; rw [Hft.out, if_pos (by simpa using he)])
        clear he
        go_wp2_with fail
        refine bodyPost_ret (v := .tuple #[styV t (.slice A2 t.fields.length d2), .bool true]) (by simp [results, Tryz.results135, go_sem, styV]) rfl ?_
        exact ⟨by rw [Hfin.out]; rfl, (Below.refl _ _).alloc (Nat.le_refl _) _⟩
      · have t1 : (t.name == n) = false := by simpa using he
        have Hin := Lib.hid (show ∀ g ∈ xs.take (k + 1), decide (g.1.name = n) = false by
          intro g hg
          rw [Hts.out] at hg
          rcases List.mem_append.1 hg with hg | hg
          · exact hin.out g hg
          · simp at hg; subst hg; simpa using he)
        clear he
        go_wp2_with fail
        go_roundw
        case rel => exact ⟨k + 1, by go_num, by omega, trivial, Hin.out⟩
        case measure => simp [intOf]; omega
    · have Hfin := Lib.hid (show findX xs n = none from find_all_none (fun f hf => hin.out f (by rw [List.take_of_length_le (by omega)]; exact hf)))
      go_wp2_with fail
      refine bodyPost_ret (v := .tuple #[sty0, .bool false]) (by simp [results, Tryz.results135, go_sem, sty0]) rfl ?_
      exact ⟨by rw [Hfin.out]; rfl, (Below.refl _ _).alloc (Nat.le_refl _) _⟩

/-- A kind's text begins with a byte: @ or another. -/
theorem kd_head {k : Kd} (h : kdOk k) : (k.signs = [] ∧ k.base = [64] ∧ kdB k = 64 :: (k.name ++ [59]) ∧ k.name.length ≤ 3) ∨ (¬ (k.signs = [] ∧ k.base = [64]) ∧ ∃ c t, kdB k = c :: t ∧ c ≠ 64 ∧ t.length ≤ 12) := by
  obtain ⟨h1, h2, h3⟩ := h
  cases hs : k.signs with
  | cons c t =>
    refine .inr ⟨by simp, c, t ++ coreB k, by unfold kdB; rw [hs]; rfl, ?_, ?_⟩
    · rw [hs] at h1
      simp only [List.all_cons, Bool.and_eq_true] at h1
      rintro rfl
      exact absurd h1.1 (by decide)
    · unfold kdB at h3; rw [hs] at h3; simp at h3 ⊢; omega
  | nil =>
    rcases h2 with ⟨hb, hn⟩ | ⟨hb, _⟩
    · exact .inl ⟨rfl, hb, by unfold kdB coreB; rw [hs, if_pos hb]; rfl, (nameOk_iff.1 hn).2.1⟩
    · refine .inr ⟨?_, ?_⟩
      · rintro ⟨_, h⟩
        rcases hb with hb | hb | hb <;> · rw [hb] at h; revert h; decide
      · have hc : kdB k = k.base := by
          unfold kdB coreB
          rw [hs, if_neg (by rcases hb with hb | hb | hb <;> · rw [hb]; decide)]; rfl
        rw [hc]
        rcases hb with hb | hb | hb <;> · rw [hb]; exact ⟨_, _, rfl, by decide, by simp⟩

set_option maxHeartbeats 400000 in
theorem sRef_any (v : Value) (xs : List (Ty × Value)) (k : Kd) (w : World) (h : SSc w v xs) (hk : kdOk k) :
    Calls Tryz.prog 124 #[v, .string ⟨(kdB k).toArray⟩] w fun e w' => e = .returned (styR (refX xs k)) ∧ Below w.heap.size w w' := by
  have H := Lib.hid h
  clear h
  rcases kd_head hk with ⟨h1, h2, h3, h4⟩ | ⟨h1, c, t, h3, h4, h5⟩
  · have Hr := Lib.hid (show refX xs k = findX xs k.name from if_pos ⟨h1, h2⟩)
    rw [h3]
    clear h1 h2 h3
    go_enter Tryz.func124, Tryz.ntmps124
    go_wp2_with fail
    refine (l2Ref_yes k.name _ (by omega)).mono ?_
    rintro e w' ⟨rfl, rfl⟩
    go_wp2_with fail
    refine (sFind_any v xs k.name _ (H.out.below ((Below.refl _ _).alloc (Nat.le_refl _) _))).mono ?_
    rintro e w2 ⟨rfl, hb⟩
    cases hf : findX xs k.name with
    | none =>
      rw [hf] at Hr
      obtain ⟨hc, hfz, hz⟩ := bcell hb
      have Hb := Lib.hid (((Below.refl w.heap.size w).alloc (Nat.le_refl _) _).trans (hb.mono (by simp)))
      clear hb hf
      unfold styR sty0
      go_wp2_with fail
      refine bodyPost_ret (v := .tuple #[sty0, .bool false]) (by simp [results, Tryz.results124, go_sem, sty0, hc]) rfl ?_
      exact ⟨by rw [Hr.out]; rfl, ((Hb.out.setCell (Nat.le_refl _) _).setCell (Nat.le_refl _) _).setCell (Nat.le_refl _) _⟩
    | some x =>
      obtain ⟨t, fv⟩ := x
      have hm := (findX_mem hf).1
      obtain ⟨A, c, _, _, _, hfs⟩ := H.out
      obtain ⟨A2, d2, e2, _⟩ := hfs _ hm
      simp only at e2
      subst e2
      rw [hf] at Hr
      obtain ⟨hc, hfz, hz⟩ := bcell hb
      have Hb := Lib.hid (((Below.refl w.heap.size w).alloc (Nat.le_refl _) _).trans (hb.mono (by simp)))
      clear hb hf hm hfs
      unfold styR styV
      go_wp2_with fail
      refine bodyPost_ret (v := .tuple #[styV t (.slice A2 t.fields.length d2), .bool true]) (by simp [results, Tryz.results124, go_sem, styV, hc]) rfl ?_
      exact ⟨by rw [Hr.out]; rfl, ((Hb.out.setCell (Nat.le_refl _) _).setCell (Nat.le_refl _) _).setCell (Nat.le_refl _) _⟩
  · have Hr := Lib.hid (show refX xs k = none from if_neg h1)
    rw [h3]
    clear h1 h3
    go_enter Tryz.func124, Tryz.ntmps124
    go_wp2_with fail
    refine (l2Ref_no c t _ h4 (by omega)).mono ?_
    rintro e w' ⟨rfl, rfl⟩
    go_wp2_with fail
    refine bodyPost_ret (v := .tuple #[sty0, .bool false]) (by simp [results, Tryz.results124, go_sem, sty0]) rfl ?_
    exact ⟨by rw [Hr.out]; rfl, (Below.refl _ _).alloc (Nat.le_refl _) _⟩
end Go.Proofs.YtcjfgbcdlcdeaaaGreatDoor
/- ends: whether going from union to union ends. -/
namespace Go.Proofs.YtcjfgbcdlcdeaaaGreatDoor
open Go.RowKit
set_option maxRecDepth 100000
set_option linter.unusedVariables false
set_option linter.unusedSimpArgs false
attribute [local go_sem] ba_get ba_toList ba_extract take_drop_all ByteArray.mk_append_mk

theorem ends_no (S : List Ty) (n : Nat) (t : Ty) (h : t.sort ≠ 85) : endsN S (n + 1) t = true := by
  simp only [endsN, nextTy, if_neg h]
theorem ends_ref (xs : List (Ty × Value)) (n : Nat) (t : Ty) (f : Fd) (fs : List Fd) (h : t.sort = 85) (hf : t.fields = f :: fs) :
    endsN (tysOf xs) (n + 1) t = (match refX xs f.kind with | none => true | some u => endsN (tysOf xs) n u.1) := by
  simp only [endsN, nextTy, if_pos h, hf, refX]
  by_cases hk : f.kind.signs = [] ∧ f.kind.base = [64]
  · rw [if_pos hk, if_pos hk, findX_ty]
    cases findX xs f.kind.name <;> rfl
  · rw [if_neg hk, if_neg hk]
theorem union_head {t : Ty} (h : tyOk t) (hs : t.sort = 85) : ∃ f fs, t.fields = f :: fs ∧ kdOk f.kind := by
  obtain ⟨h1, h2, h3, h4, h5⟩ := h
  cases hf : t.fields with
  | nil => have := h5 hf; rw [hs] at this; exact absurd this (by decide)
  | cons f fs =>
    refine ⟨f, fs, rfl, ?_⟩
    have := h3.1 f (by rw [hf]; simp)
    exact (this.2.2.2.2 (by rw [hs]; decide)).1
theorem refX_mem {xs : List (Ty × Value)} {k : Kd} {x : Ty × Value} (h : refX xs k = some x) : x ∈ xs := by
  unfold refX at h
  split at h
  · exact (findX_mem h).1
  · cases h

set_option maxHeartbeats 1000000 in
theorem sEnds_any (v fv : Value) (xs : List (Ty × Value)) (t : Ty) (w : World) (h : SSc w v xs) (ht : tyOk t) (hft : SFds w fv t.fields) (hok : ∀ x ∈ xs, tyOk x.1) :
    Calls Tryz.prog 151 #[v, styV t fv] w fun e w' => e = .returned (.bool (endsN (tysOf xs) (xs.length + 1) t)) ∧ Below w.heap.size w w' := by
  have H := Lib.hid h
  have Hok := Lib.hid hok
  obtain ⟨A, c, rfl, hxl, _⟩ := h
  obtain ⟨A1, c1, rfl, hfl, hr1⟩ := hft
  have Hr1 := Lib.hid hr1
  have Ht := Lib.hid ht
  clear hok hr1 ht
  unfold styV
  go_enter Tryz.func151, Tryz.ntmps151
  go_wp2_with fail
  go_loopw [5] (fun i wr => ∃ (n : Nat) (cur : Ty) (A2 : Option Addr) (c2 : Nat), i = .int .i64 n ∧ n ≤ xs.length + 1 ∧ Hid (tyOk cur) ∧ Hid (RowAt w A2 (cur.fields.length * 4) (cur.fields.flatMap sfc)) ∧
      Hid (endsN (tysOf xs) (xs.length + 1) t = endsN (tysOf xs) (xs.length + 1 - n) cur) ∧ Hid (Below w.heap.size w wr) ∧ w.heap.size < wr.heap.size ∧
      wr.cell? ⟨w.heap.size, 0, none⟩ = some (.int .u8 (cur.sort.toNat : Int)) ∧ wr.cell? ⟨w.heap.size, 1, none⟩ = some (.string ⟨cur.name.toArray⟩) ∧ wr.cell? ⟨w.heap.size, 2, none⟩ = some (.slice A2 cur.fields.length c2) ∧
      (∀ j, wr.frozen? ⟨w.heap.size, j, none⟩ = false)) (fun i _ => xs.length + 1 - (intOf i).toNat)
  case atStart => exact ⟨0, t, A1, c1, rfl, Nat.zero_le _, Ht.out, Hr1.out, rfl, (Below.refl _ _).alloc (Nat.le_refl _) _, by simp, by simp, by simp, by simp, by simp⟩
  case round =>
    obtain ⟨n, cur, A2, c2, rfl, hn, hcu, hrow, heq, hb, hsz, u0, u1, u2, f1⟩ := hrel
    by_cases hlt : n ≤ xs.length
    · have k1 : (n : Int) ≤ (xs.length : Int) := by omega
      obtain ⟨m, hm⟩ : ∃ m, xs.length + 1 - n = m + 1 := ⟨xs.length - n, by omega⟩
      have hm2 : xs.length + 1 - (n + 1) = m := by omega
      rw [hm] at heq
      have hcl := cur.sort.toNat_lt
      by_cases hs : cur.sort = 85
      · have t1 : ((cur.sort.toNat : Int) != 85) = false := by have := byte_eq hs; simpa using this
        have t2 : ((cur.sort.toNat : Int) == 85) = true := byte_eq hs
        obtain ⟨f, fs, hfs, hkd⟩ := union_head hcu.out hs
        have Heq := Lib.hid (show endsN (tysOf xs) (xs.length + 1) t = (match refX xs f.kind with | none => true | some u => endsN (tysOf xs) m u.1) by rw [heq.out]; exact ends_ref xs m cur f fs hs hfs)
        have hlf : 0 < cur.fields.length := by rw [hfs]; simp
        have hf0 : cur.fields[0] = f := by simp [hfs]
        obtain ⟨b, off, rfl, hbl, g0, g1, g2, g3⟩ := SFds.at_ (hrow.out.below hb.out) hlf
        rw [hf0] at g0 g1 g2 g3
        simp only [Nat.zero_mul, Nat.add_zero] at g0 g1 g2 g3
        have Hkd := Lib.hid hkd
        have l1 : (0 : Int) < (cur.fields.length : Int) := by omega
        clear hs heq hkd hf0 hfs
        go_wp2_with fail
        refine (sRef_any (.slice A xs.length c) xs f.kind _ (H.out.below hb.out) Hkd.out).mono ?_
        rintro e w4 ⟨rfl, hb4⟩
        obtain ⟨hc4, hfz4, hz4⟩ := bcell hb4
        have Hb5 := Lib.hid (hb.out.trans (hb4.mono (Nat.le_of_lt hsz)))
        rw [← hc4 _ _ hsz] at u0 u1 u2
        have f1' : ∀ j, w4.frozen? ⟨w.heap.size, j, none⟩ = false := fun j => (hfz4 _ j hsz).trans (f1 j)
        have hsz4 := hz4 _ hsz
        have Hrow' := Lib.hid (fun (x : Ty × Value) (hx : x ∈ xs) => ((show ∀ x ∈ xs, SFds w x.2 x.1.fields from (by obtain ⟨_, _, _, _, _, hf⟩ := H.out; exact hf)) x hx))
        have hn1 : ¬ (w4.heap.size = w.heap.size) := by omega
        have hn2 : ¬ (w.heap.size = w4.heap.size) := by omega
        clear hb4 hc4 hfz4 hz4 f1 hb
        cases hr : refX xs f.kind with
        | none =>
          rw [hr] at Heq
          unfold styR sty0
          go_wp2_with fail
          go_ret
          exact ⟨by rw [Heq.out]; first | rfl | trivial, (by (repeat (first | exact Hb5.out | refine Below.setCell ?_ (by first | exact Nat.le_refl _ | (simp; done) | (simp; omega) | omega) _ | refine Below.alloc ?_ (by first | exact Nat.le_refl _ | (simp; done) | (simp; omega) | omega) _ | refine Below.drew ?_)))⟩
        | some x =>
          rw [hr] at Heq
          obtain ⟨u, uv⟩ := x
          have Hm := Lib.hid (refX_mem hr)
          obtain ⟨A5, c5, e5, _, hr5⟩ := Hrow'.out _ Hm.out
          simp only [] at e5 hr5
          subst e5
          have Hr5 := Lib.hid hr5
          clear hr hr5
          unfold styR styV
          go_wp2_with fail
          go_roundw
          case rel =>
            refine ⟨n + 1, u, A5, c5, by go_num, by omega, Hok.out _ Hm.out, Hr5.out, by rw [hm2]; exact Heq.out, (by (repeat (first | exact Hb5.out | refine Below.setCell ?_ (by first | exact Nat.le_refl _ | (simp; done) | (simp; omega) | omega) _ | refine Below.alloc ?_ (by first | exact Nat.le_refl _ | (simp; done) | (simp; omega) | omega) _ | refine Below.drew ?_))), by simp; omega, by simp [go_sem, u0, u1, u2, f1', hn1, hn2, hsz4], by simp [go_sem, u0, u1, u2, f1', hn1, hn2, hsz4], by simp [go_sem, u0, u1, u2, f1', hn1, hn2, hsz4], by intro j; simp [go_sem, f1', hn1, hn2, hsz4]⟩
          case measure => simp [intOf]; omega
      · have t1 : ((cur.sort.toNat : Int) != 85) = true := by have := byte_ne hs; simpa using this
        have t2 : ((cur.sort.toNat : Int) == 85) = false := byte_ne hs
        have Hend := Lib.hid (show endsN (tysOf xs) (xs.length + 1) t = true by rw [heq.out]; exact ends_no _ m cur hs)
        clear hs heq
        go_wp2_with fail
        go_ret
        exact ⟨by rw [Hend.out]; first | rfl | trivial, hb.out⟩
    · have k1 : ¬ (n : Int) ≤ (xs.length : Int) := by omega
      have Hend := Lib.hid (show endsN (tysOf xs) (xs.length + 1) t = false by rw [heq.out, show xs.length + 1 - n = 0 by omega]; rfl)
      clear heq
      go_wp2_with fail
      go_ret
      exact ⟨by rw [Hend.out]; first | rfl | trivial, hb.out⟩
end Go.Proofs.YtcjfgbcdlcdeaaaGreatDoor
/- valid: names differ, kinds name types, unions end. -/
namespace Go.Proofs.YtcjfgbcdlcdeaaaGreatDoor
open Go.RowKit
set_option maxRecDepth 100000
set_option linter.unusedVariables false
set_option linter.unusedSimpArgs false
attribute [local go_sem] ba_get ba_toList ba_extract take_drop_all ByteArray.mk_append_mk

def isRef (k : Kd) : Bool := decide (k.base = [64])
def refNm (k : Kd) : List UInt8 := if k.base = [64] then k.name else []
theorem l2RefCore_any (k : Kd) (hk : kdOk k) (w : World) :
    Calls Tryz.prog 133 #[.string ⟨(coreB k).toArray⟩] w fun e w' => e = .returned (.tuple #[.string ⟨(refNm k).toArray⟩, .bool (isRef k)]) ∧ w = w' := by
  obtain ⟨_, hb, hl⟩ := hk
  unfold coreB refNm isRef
  by_cases h : k.base = [64]
  · rw [if_pos h, if_pos h, decide_eq_true h]
    refine l2Ref_yes k.name w ?_
    rcases hb with ⟨_, hn⟩ | ⟨h2, _⟩
    · have := (nameOk_iff.1 hn).2.1; omega
    · rcases h2 with h2 | h2 | h2 <;> · rw [h] at h2; exact absurd h2 (by decide)
  · rw [if_neg h, if_neg h, decide_eq_false h]
    rcases hb with ⟨h2, _⟩ | ⟨h2, _⟩
    · exact absurd h2 h
    · rcases h2 with h2 | h2 | h2 <;> · rw [h2]; exact l2Ref_no _ [] w (by decide) (by simp)
theorem l2CoreK_any (k : Kd) (hk : kdOk k) (w : World) :
    Calls Tryz.prog 134 #[.string ⟨(kdB k).toArray⟩] w fun e w' => e = .returned (.string ⟨(coreB k).toArray⟩) ∧ w = w' :=
  l2Core_any k w hk.1 (core_head hk.2.1) (by have := hk.2.2; omega)
/-- May a kind be named, as far as the reference looks. -/
theorem refOk_find (xs : List (Ty × Value)) (k : Kd) : refOk (tysOf xs) k ↔ (isRef k = true → (findX xs (refNm k)).isSome = true) := by
  unfold refOk isRef refNm
  by_cases h : k.base = [64]
  · rw [if_pos h, findX_ty]; simp [h]
  · rw [if_neg h]; simp [h]

def validP (S : List Ty) : Prop := (S.Pairwise fun t u => t.name ≠ u.name) ∧ kindsOk S ∧ ∀ t ∈ S, endsN S (S.length + 1) t = true
/-- What has been looked at of k types. -/
def okTo (xs : List (Ty × Value)) (k : Nat) : Prop :=
  (((xs.take k).map (·.1)).Pairwise fun t u => t.name ≠ u.name) ∧ ∀ x ∈ xs.take k, x.1.sort ≠ 69 → ∀ f ∈ x.1.fields, refOk (tysOf xs) f.kind
theorem okTo_zero (xs : List (Ty × Value)) : okTo xs 0 := ⟨by simp, by simp⟩
theorem okTo_succ {xs : List (Ty × Value)} {k : Nat} (hk : k < xs.length) (h : okTo xs k) (h1 : ∀ x ∈ xs.take k, x.1.name ≠ xs[k].1.name) (h2 : xs[k].1.sort ≠ 69 → ∀ f ∈ xs[k].1.fields, refOk (tysOf xs) f.kind) : okTo xs (k + 1) := by
  unfold okTo
  rw [take_snoc xs k hk]
  refine ⟨?_, ?_⟩
  · rw [List.map_append, List.pairwise_append]
    refine ⟨h.1, by simp, ?_⟩
    intro a ha b hb
    obtain ⟨x, hx, rfl⟩ := List.mem_map.1 ha
    simp at hb; subst hb
    exact h1 x hx
  · intro x hx
    rcases List.mem_append.1 hx with hx | hx
    · exact h.2 x hx
    · simp at hx; subst hx; exact h2
theorem okTo_all {xs : List (Ty × Value)} (h : okTo xs xs.length) : ((tysOf xs).Pairwise fun t u => t.name ≠ u.name) ∧ kindsOk (tysOf xs) := by
  unfold okTo at h
  rw [List.take_length] at h
  refine ⟨h.1, ?_⟩
  intro t ht hs f hf
  obtain ⟨x, hx, rfl⟩ := List.mem_map.1 ht
  exact h.2 x hx hs f hf
theorem not_names {xs : List (Ty × Value)} {j k : Nat} (hjk : j < k) (hk : k < xs.length) (h : xs[j].1.name = xs[k].1.name) : ¬ validP (tysOf xs) := by
  rintro ⟨hp, _⟩
  have := List.pairwise_iff_getElem.1 hp j k (by unfold tysOf; simp; omega) (by unfold tysOf; simp; omega) hjk
  unfold tysOf at this
  simp at this
  exact this h
theorem not_kind {xs : List (Ty × Value)} {k j : Nat} (hk : k < xs.length) (hs : xs[k].1.sort ≠ 69) (hj : j < xs[k].1.fields.length) (h : ¬ refOk (tysOf xs) xs[k].1.fields[j].kind) : ¬ validP (tysOf xs) := by
  rintro ⟨_, hp, _⟩
  exact h (hp xs[k].1 (List.mem_map.2 ⟨xs[k], List.getElem_mem hk, rfl⟩) hs _ (List.getElem_mem hj))
theorem not_ends {xs : List (Ty × Value)} {k : Nat} (hk : k < xs.length) (h : endsN (tysOf xs) (xs.length + 1) xs[k].1 = false) : ¬ validP (tysOf xs) := by
  rintro ⟨_, _, hp⟩
  have := hp xs[k].1 (List.mem_map.2 ⟨xs[k], List.getElem_mem hk, rfl⟩)
  rw [show (tysOf xs).length = xs.length by unfold tysOf; simp, h] at this
  cases this
end Go.Proofs.YtcjfgbcdlcdeaaaGreatDoor
/- valid, walked. -/
namespace Go.Proofs.YtcjfgbcdlcdeaaaGreatDoor
open Go.RowKit
set_option maxRecDepth 100000
set_option linter.unusedVariables false
set_option linter.unusedSimpArgs false
attribute [local go_sem] ba_get ba_toList ba_extract take_drop_all ByteArray.mk_append_mk

set_option maxHeartbeats 2000000 in
theorem sValid_any (v : Value) (xs : List (Ty × Value)) (w : World) (h : SSc w v xs) (hok : ∀ x ∈ xs, tyOk x.1) :
    Calls Tryz.prog 116 #[v] w fun e w' => (∃ b, e = .returned (.bool b) ∧ (b = true ↔ validP (tysOf xs))) ∧ Below w.heap.size w w' := by
  have H := Lib.hid h
  have Hok := Lib.hid hok
  obtain ⟨A, c, rfl, hxl, hrow, hfds⟩ := h
  have Hrow := Lib.hid hrow
  have Hfds := Lib.hid hfds
  clear hok hrow hfds
  go_enter Tryz.func116, Tryz.ntmps116
  go_wp2_with fail
  go_loopw [3] (fun i wr => ∃ k : Nat, i = .int .i64 k ∧ k ≤ xs.length ∧ Hid (okTo xs k) ∧ Hid (Below w.heap.size w wr)) (fun i _ => xs.length - (intOf i).toNat)
  case atStart => exact ⟨0, rfl, Nat.zero_le _, okTo_zero xs, Below.refl _ _⟩
  case round =>
    obtain ⟨k, rfl, hk, hto, hbr⟩ := hrel
    by_cases hlt : k < xs.length
    · have k1 : (0 : Int) ≤ (k : Int) := by omega
      have k2 : (k : Int) < (xs.length : Int) := by omega
      go_wp2_with fail
      go_loopw [4] (fun i wq => ∃ j : Nat, i = .int .i64 j ∧ j ≤ k ∧ (∃ q, wq = wr.drewN q) ∧ Hid (∀ x ∈ xs.take j, x.1.name ≠ xs[k].1.name)) (fun i _ => k - (intOf i).toNat)
      case atStart => exact ⟨0, rfl, Nat.zero_le _, ⟨0, rfl⟩, by intro x hx; simp at hx⟩
      case round =>
        obtain ⟨j, rfl, hj, ⟨q, rfl⟩, hin⟩ := hrel
        obtain ⟨b, off, rfl, hbl, c0, c1, c2⟩ := SSc.at_ (Hrow.out.below hbr.out) hlt
        by_cases hjl : j < k
        · obtain ⟨b', off', e', hbl', d0, d1, d2⟩ := SSc.at_ (Hrow.out.below hbr.out) (show j < xs.length by omega)
          simp only [Option.some.injEq, Addr.mk.injEq] at e'
          obtain ⟨rfl, rfl, _⟩ := e'
          have Hnn := Lib.hid (fun h => not_names (xs := xs) hjl hlt h)
          have Hts := Lib.hid (take_snoc xs j (show j < xs.length by omega))
          have j1 : (0 : Int) ≤ (j : Int) := by omega
          have j2 : (j : Int) < (xs.length : Int) := by omega
          have j3 : (j : Int) < (k : Int) := by omega
          by_cases he : xs[j].1.name = xs[k].1.name
          · have t1 : (xs[j].1.name == xs[k].1.name) = true := by simpa using he
            have Hno := Lib.hid (Hnn.out he)
            clear he
            go_wp2_with fail
            go_quiet (fail)
            go_wp2_with fail
            go_ret
            exact ⟨⟨false, rfl, by simp [Hno.out]⟩, below_drewN (below_drewN hbr.out q) _⟩
          · have t1 : (xs[j].1.name == xs[k].1.name) = false := by simpa using he
            have Hin := Lib.hid (show ∀ x ∈ xs.take (j + 1), x.1.name ≠ xs[k].1.name by
              intro x hx
              rw [Hts.out] at hx
              rcases List.mem_append.1 hx with hx | hx
              · exact hin.out x hx
              · simp at hx; subst hx; exact he)
            clear he
            go_wp2_with fail
            go_quiet (fail)
            go_wp2
            go_roundw
            case rel => exact ⟨j + 1, by go_num, by omega, ⟨_, rfl⟩, Hin.out⟩
            case measure => simp [intOf]; omega
        · obtain rfl : j = k := by omega
          have j3 : ¬ (j : Int) < (j : Int) := by omega
          have Hbk := Lib.hid (below_drewN hbr.out q)
          have Hnk := Lib.hid hin.out
          have Hxk := Lib.hid (Hfds.out _ (List.getElem_mem hlt))
          have Hokk := Lib.hid (Hok.out _ (List.getElem_mem hlt))
          have Hnok := Lib.hid (fun (jj : Nat) (hs : xs[j].1.sort ≠ 69) (hjj : jj < xs[j].1.fields.length) h => not_kind hlt hs hjj h)
          have Hsuc := Lib.hid (fun h2 => okTo_succ hlt hto.out Hnk.out h2)
          clear hin hbl c0 c1 c2 hto
          go_wp2_with fail
          go_loopw [5] (fun i wq => ∃ m : Nat, i = .int .i64 m ∧ m ≤ (xs[j]).1.fields.length ∧ Hid (Below w.heap.size w wq) ∧ Hid (∀ f ∈ (xs[j]).1.fields.take m, refOk (tysOf xs) f.kind)) (fun i _ => (xs[j]).1.fields.length - (intOf i).toNat)
          case atStart => exact ⟨0, rfl, Nat.zero_le _, Hbk.out, by intro x hx; simp at hx⟩
          case round =>
            obtain ⟨m, rfl, hm, hbq, hin⟩ := hrel
            obtain ⟨b', off', e', hbl', d0, d1, d2⟩ := SSc.at_ (Hrow.out.below hbq.out) hlt
            simp only [Option.some.injEq, Addr.mk.injEq] at e'
            obtain ⟨rfl, rfl, _⟩ := e'
            generalize xs[j] = x at d0 d1 d2 Hxk Hokk Hnok Hsuc hin hm ⊢
            obtain ⟨t, fv⟩ := x
            simp only [] at d0 d1 d2 hm
            obtain ⟨A2, c2, e2, hfl, hr2⟩ := Hxk.out
            simp only [] at e2
            subst e2
            have Hr2 := Lib.hid hr2
            clear hr2
            have hsl := t.sort.toNat_lt
            have hfl' : t.fields.length ≤ 1000 := hfl
            by_cases hml : m < t.fields.length
            · have m1 : (0 : Int) ≤ (m : Int) := by omega
              have m2 : (m : Int) < (t.fields.length : Int) := by omega
              by_cases hs : t.sort = 69
              · have t1 : ((t.sort.toNat : Int) != 69) = false := by have := byte_eq hs; simpa using this
                have t2 : ((t.sort.toNat : Int) == 69) = true := byte_eq hs
                have Hto := Lib.hid (Hsuc.out (fun h => absurd hs h))
                clear hs
                go_wp2_with fail
                go_roundw
                case rel => exact ⟨j + 1, by go_num, by omega, Hto.out, hbq.out⟩
                case measure => simp [intOf]; omega
              · have t1 : ((t.sort.toNat : Int) != 69) = true := by have := byte_ne hs; simpa using this
                have t2 : ((t.sort.toNat : Int) == 69) = false := byte_ne hs
                obtain ⟨bf, of, rfl, hbf, g0, g1, g2, g3⟩ := SFds.at_ (Hr2.out.below hbq.out) hml
                have hfm := List.getElem_mem hml
                have Hkd := Lib.hid ((Hokk.out.2.2.1.1 _ hfm).2.2.2.2 hs).1
                have Hno := Lib.hid (fun h => Hnok.out m hs hml h)
                have Hts := Lib.hid (take_snoc t.fields m hml)
                generalize t.fields[m] = f at g0 g1 g2 g3 Hkd Hno Hts
                clear hs hfm
                have Hrf := Lib.hid (refOk_find xs f.kind)
                have Hfind := Lib.hid (fun W (hW : Below w.heap.size w W) => sFind_any (.slice (some ⟨b, off, none⟩) xs.length c) xs (refNm f.kind) W (H.out.below hW))
                go_wp2_with fail
                refine (l2CoreK_any f.kind Hkd.out _).mono ?_
                rintro e w4 ⟨rfl, rfl⟩
                go_wp2_with fail
                refine (l2RefCore_any f.kind Hkd.out _).mono ?_
                rintro e w4 ⟨rfl, rfl⟩
                go_wp2_with fail
                refine (Hfind.out _ hbq.out).mono ?_
                rintro e w4 ⟨rfl, hb4⟩
                have Hb4 := Lib.hid (hbq.out.trans (hb4.mono hbq.out.size))
                clear hb4
                cases hx : findX xs (refNm f.kind) with
                | none =>
                  unfold styR sty0
                  rcases hir : isRef f.kind with _ | _
                  · have hrk : refOk (tysOf xs) f.kind := Hrf.out.2 (fun h => by rw [hir] at h; cases h)
                    have Hin := Lib.hid (show ∀ f ∈ t.fields.take (m + 1), refOk (tysOf xs) f.kind by
                      intro g hg
                      rw [Hts.out] at hg
                      rcases List.mem_append.1 hg with hg | hg
                      · exact hin.out g hg
                      · simp at hg; subst hg; exact hrk)
                    clear hrk
                    go_wp2_with fail
                    go_roundw
                    case rel => exact ⟨m + 1, by go_num, by omega, (by (repeat (first | exact Hb4.out | refine Below.setCell ?_ (by first | exact Nat.le_refl _ | exact Hb4.out.size | (simp; done) | (simp; omega) | omega) _ | refine Below.alloc ?_ (by first | exact Nat.le_refl _ | exact Hb4.out.size | (simp; done) | (simp; omega) | omega) _ | refine Below.drew ?_))), Hin.out⟩
                    case measure => simp [intOf]; omega
                  · have Hn := Lib.hid (Hno.out (fun h => by have := Hrf.out.1 h hir; rw [hx] at this; cases this))
                    go_wp2_with fail
                    go_ret
                    exact ⟨⟨false, rfl, by simp [Hn.out]⟩, (by (repeat (first | exact Hb4.out | refine Below.setCell ?_ (by first | exact Nat.le_refl _ | exact Hb4.out.size | (simp; done) | (simp; omega) | omega) _ | refine Below.alloc ?_ (by first | exact Nat.le_refl _ | exact Hb4.out.size | (simp; done) | (simp; omega) | omega) _ | refine Below.drew ?_)))⟩
                | some y =>
                  have hrk : refOk (tysOf xs) f.kind := Hrf.out.2 (fun _ => by rw [hx]; rfl)
                  obtain ⟨ty, yv⟩ := y
                  obtain ⟨A5, c5, e5, _⟩ := Hfds.out _ (findX_mem hx).1
                  simp only [] at e5
                  subst e5
                  unfold styR styV
                  rcases hir : isRef f.kind with _ | _
                  · skip
                    have Hin := Lib.hid (show ∀ f ∈ t.fields.take (m + 1), refOk (tysOf xs) f.kind by
                      intro g hg
                      rw [Hts.out] at hg
                      rcases List.mem_append.1 hg with hg | hg
                      · exact hin.out g hg
                      · simp at hg; subst hg; exact hrk)
                    clear hrk
                    go_wp2_with fail
                    go_roundw
                    case rel => exact ⟨m + 1, by go_num, by omega, (by (repeat (first | exact Hb4.out | refine Below.setCell ?_ (by first | exact Nat.le_refl _ | exact Hb4.out.size | (simp; done) | (simp; omega) | omega) _ | refine Below.alloc ?_ (by first | exact Nat.le_refl _ | exact Hb4.out.size | (simp; done) | (simp; omega) | omega) _ | refine Below.drew ?_))), Hin.out⟩
                    case measure => simp [intOf]; omega
                  · skip
                    have Hin := Lib.hid (show ∀ f ∈ t.fields.take (m + 1), refOk (tysOf xs) f.kind by
                      intro g hg
                      rw [Hts.out] at hg
                      rcases List.mem_append.1 hg with hg | hg
                      · exact hin.out g hg
                      · simp at hg; subst hg; exact hrk)
                    clear hrk
                    go_wp2_with fail
                    go_roundw
                    case rel => exact ⟨m + 1, by go_num, by omega, (by (repeat (first | exact Hb4.out | refine Below.setCell ?_ (by first | exact Nat.le_refl _ | exact Hb4.out.size | (simp; done) | (simp; omega) | omega) _ | refine Below.alloc ?_ (by first | exact Nat.le_refl _ | exact Hb4.out.size | (simp; done) | (simp; omega) | omega) _ | refine Below.drew ?_))), Hin.out⟩
                    case measure => simp [intOf]; omega
            · obtain rfl : m = t.fields.length := by omega
              have m2 : ¬ (t.fields.length : Int) < (t.fields.length : Int) := by omega
              have Hto := Lib.hid (Hsuc.out (fun _ f hf => hin.out f (by rw [List.take_length]; exact hf)))
              go_wp2_with fail
              go_roundw
              case rel => exact ⟨j + 1, by go_num, by omega, Hto.out, hbq.out⟩
              case measure => simp [intOf]; omega
    · obtain rfl : k = xs.length := by omega
      have k2 : ¬ (xs.length : Int) < (xs.length : Int) := by omega
      have Hall := Lib.hid (okTo_all hto.out)
      clear hto
      go_wp2_with fail
      go_loopw [10] (fun i wq => ∃ j : Nat, i = .int .i64 j ∧ j ≤ xs.length ∧ Hid (Below w.heap.size w wq) ∧ Hid (∀ x ∈ xs.take j, endsN (tysOf xs) (xs.length + 1) x.1 = true)) (fun i _ => xs.length - (intOf i).toNat)
      case atStart => exact ⟨0, rfl, Nat.zero_le _, hbr.out, by intro x hx; simp at hx⟩
      case round =>
        obtain ⟨j, rfl, hj, hbq, hin⟩ := hrel
        by_cases hjl : j < xs.length
        · obtain ⟨b, off, rfl, hbl, d0, d1, d2⟩ := SSc.at_ (Hrow.out.below hbq.out) hjl
          have Hts := Lib.hid (take_snoc xs j hjl)
          have Hno := Lib.hid (fun h => not_ends (xs := xs) hjl h)
          have Hokj := Lib.hid (Hok.out _ (List.getElem_mem hjl))
          have hxj := (Hfds.out _ (List.getElem_mem hjl)).below hbq.out
          generalize xs[j] = x at d0 d1 d2 Hts Hno Hokj hxj
          obtain ⟨t, fv⟩ := x
          simp only [] at d0 d1 d2 hxj
          have Hxj := Lib.hid hxj
          obtain ⟨A2, c2, rfl, _⟩ := hxj
          have j1 : (0 : Int) ≤ (j : Int) := by omega
          have j2 : (j : Int) < (xs.length : Int) := by omega
          have He := Lib.hid (fun W (hW : Below w.heap.size w W) (hX : SFds W (.slice A2 t.fields.length c2) t.fields) => sEnds_any (.slice (some ⟨b, off, none⟩) xs.length c) (.slice A2 t.fields.length c2) xs t W (H.out.below hW) Hokj.out hX Hok.out)
          go_wp2_with fail
          refine (He.out _ hbq.out Hxj.out).mono ?_
          rintro e w4 ⟨rfl, hb4⟩
          have Hb4 := Lib.hid (hbq.out.trans (hb4.mono hbq.out.size))
          clear hb4
          rcases Bool.eq_false_or_eq_true (endsN (tysOf xs) (xs.length + 1) t) with he | he
          · have Hin := Lib.hid (show ∀ x ∈ xs.take (j + 1), endsN (tysOf xs) (xs.length + 1) x.1 = true by
              intro x hx
              rw [Hts.out] at hx
              rcases List.mem_append.1 hx with hx | hx
              · exact hin.out x hx
              · simp at hx; subst hx; exact he)
            rw [he]
            clear he
            go_wp2_with fail
            go_roundw
            case rel => exact ⟨j + 1, by go_num, by omega, Hb4.out, Hin.out⟩
            case measure => simp [intOf]; omega
          · have Hn := Lib.hid (Hno.out he)
            rw [he]
            clear he
            go_wp2_with fail
            go_ret
            exact ⟨⟨false, rfl, by simp [Hn.out]⟩, Hb4.out⟩
        · obtain rfl : j = xs.length := by omega
          have Hfin := Lib.hid (show validP (tysOf xs) from ⟨Hall.out.1, Hall.out.2, fun t ht => by
            obtain ⟨x, hx, rfl⟩ := List.mem_map.1 ht
            rw [show (tysOf xs).length = xs.length by unfold tysOf; simp]
            exact hin.out x (by rw [List.take_length]; exact hx)⟩)
          clear hin
          go_wp2_with fail
          go_ret
          exact ⟨⟨true, rfl, by simp [Hfin.out]⟩, hbq.out⟩
end Go.Proofs.YtcjfgbcdlcdeaaaGreatDoor
/- l3Of: plain words, and appending beside rows of another type. -/
namespace Go.Proofs.YtcjfgbcdlcdeaaaGreatDoor
open Go.RowKit
set_option linter.unusedVariables false

theorem own_types {w : World} {b1 b2 k1 k2 n1 n2 : Nat} {e1 e2 : TypeId} {v1 v2 : Value} {xs ys : List Value} (h1 : w.ownsRow b1 e1 k1 v1 n1 xs) (h2 : w.ownsRow b2 e2 k2 v2 n2 ys) (hne : e1 ≠ e2) : v1.ownBlock = none ∨ v1.ownBlock ≠ v2.ownBlock := by
  rcases h1.2 with ⟨rfl, _⟩ | ⟨g, cap, cur, rfl, _, hh, _⟩
  · exact .inl rfl
  · rcases h2.2 with ⟨rfl, _⟩ | ⟨g', cap', cur', rfl, _, hh', _⟩
    · exact .inr (by simp [Value.ownBlock])
    · refine .inr ?_
      simp only [Value.ownBlock, ne_eq, Option.some.injEq]
      rintro rfl
      rw [hh] at hh'
      simp only [Option.some.injEq, Obj.cells.injEq] at hh'
      exact hne hh'.2.1

section
variable {P : Program}
/-- wpList_appK, and what else it keeps. -/
theorem wpList_appG (w : World) {ops : Array Oper} {rest : List Oper} {o : Oper} {a : Act} {Q : Exit → Act → World → Prop} (hgd : o.guard = none) (s x : Operand) (t : TypeId)
    (ho : o.op = .call { callee := .builtin .append, args := #[s, x], argTypes := #[t, t] })
    (base : Nat) (e : TypeId) (z : Value) (k bytes : Nat) (ht : P.underlying t = some (.slice e)) (hinfo : (P.info? e).map (fun i => (i.zero, i.size, i.bytes)) = some (some z, k, bytes))
    (hzs : z.cells.size = k) (hk : 0 < k) (W : World) (us : List Value) (hul : us.length = k) (hw : w = W.alloc (.cells us.toArray e)) (hu : ∀ u ∈ us, u.oneCell' = true) (v : Value) (n : Nat) (xs : List Value) (hs : a.eval s = v) (hx : a.eval x = .slice (some ⟨W.heap.size, 0, none⟩) 1 1)
    (hown : W.ownsRow base e k v n xs)
    (h63 : n + 1 ≤ maxLen) (hbytes : (n + 1) * bytes ≤ 140737488355328) (hbase : base ≤ W.heap.size)
    (h : ∀ v' w', w'.ownsRow base e k v' (n + 1) (xs ++ us) → Below base W w' → (W.alloc (.cells us.toArray e)).grownBy w' v.ownBlock → wpList P ops Q rest (a.put o.dst v') w') : wpList P ops Q (o :: rest) a w := by
  subst hw
  obtain ⟨i0, hi, hz0, hz1, hz2⟩ := info_parts hinfo
  refine wpList_append_own _ hgd s x t ho base e i0 z k bytes ht hi hz0 hz1 hz2 hzs hk v n xs hs (hown.alloc _) ⟨W.heap.size, 0, none⟩ 1 1 us hx (by omega) ?_ hu h63 hbytes ?_ ?_
  · intro j y hj
    have e1 : (⟨W.heap.size, 0, none⟩ : Addr).add j = ⟨W.heap.size, j, none⟩ := by unfold Addr.add; split <;> simp_all
    rw [e1, World.cell?_alloc_new]
    simpa using hj
  · have : (W.alloc (.cells us.toArray e)).heap.size = W.heap.size + 1 := by simp
    omega
  · intro v' w' h1 h2 _
    exact h v' w' h1 (((Below.refl base W).alloc hbase _).grown h2 (by simp; omega) (fun k hk => (hown.lt k hk).1)) h2
end

/-- Types that were read, each with a row of the call's own for its fields. -/
def OwnTys (w : World) (base : Nat) (xs : List (Ty × Value)) : Prop := ∀ x ∈ xs, w.ownsRow base 135 4 x.2 x.1.fields.length (x.1.fields.flatMap sfc) ∧ tyOk x.1
theorem OwnTys.below {w w' : World} {base : Nat} {xs : List (Ty × Value)} (h : OwnTys w base xs) (hb : Below w.heap.size w w') : OwnTys w' base xs := fun x hx => ⟨ownsRow_below (h x hx).1 hb, (h x hx).2⟩
theorem OwnTys.grown {w w' : World} {base b2 k n : Nat} {xs : List (Ty × Value)} {v : Value} {ys : List Value} {e : TypeId} (h : OwnTys w base xs) (hv : w.ownsRow b2 e k v n ys) (hne : 135 ≠ e) (hg : w.grownBy w' v.ownBlock) : OwnTys w' base xs :=
  fun x hx => ⟨(h x hx).1.kept hg (own_types (h x hx).1 hv hne), (h x hx).2⟩
theorem OwnTys.fds {w : World} {base : Nat} {xs : List (Ty × Value)} (h : OwnTys w base xs) : ∀ x ∈ xs, SFds w x.2 x.1.fields := fun x hx => by
  obtain ⟨h1, h2⟩ := h x hx
  have hl := h2.2.2.2.1
  obtain ⟨A, c, e, hr⟩ := RowAt.ownK h1 (by unfold maxLen; omega)
  exact ⟨A, c, e, by omega, hr⟩
theorem SSc.own {w : World} {base : Nat} {v : Value} {xs : List (Ty × Value)} (h : w.ownsRow base 133 3 v xs.length (xs.flatMap stc)) (hl : xs.length ≤ 1000) (ht : OwnTys w base xs) : SSc w v xs := by
  obtain ⟨A, c, e, hr⟩ := RowAt.ownK h (by unfold maxLen; omega)
  exact ⟨A, c, e, hl, hr, ht.fds⟩

theorem typesL_step {L : List (List UInt8)} {k : Nat} (hk : k < L.length) {S : List Ty} (h : typesL L = (typesL (L.drop k)).map (S ++ ·)) :
    typesL L = (match typeS L[k] with | none => none | some t => (typesL (L.drop (k + 1))).map ((S ++ [t]) ++ ·)) := by
  rw [h, List.drop_eq_getElem_cons hk, typesL, typeS_eq]
  cases typeI L[k] with
  | none => rfl
  | some t =>
    simp only
    cases typesL (L.drop (k + 1)) with
    | none => rfl
    | some r => simp
/-- What the whole answers. -/
theorem schemaL_lines {s : List UInt8} (h : 400 < s.length ∨ linesS s = none) : schemaL s = none := by
  cases hs : schemaL s with
  | none => rfl
  | some S =>
    have := schemaL_ref.1 hs
    rcases h with h | h
    · omega
    · rw [h] at this; exact absurd this.2.1 (by simp)
theorem schemaL_valid {s : List UInt8} {S : List Ty} (h4 : s.length ≤ 400) (h : linesS s = some S) (b : Bool) (hb : b = true ↔ validP S) : schemaL s = if b = true then some S else none := by
  cases b with
  | true =>
    rw [if_pos rfl]
    exact schemaL_ref.2 ⟨h4, h, hb.1 rfl⟩
  | false =>
    rw [if_neg (by decide)]
    cases hs : schemaL s with
    | none => rfl
    | some T =>
      have := schemaL_ref.1 hs
      rw [h] at this
      obtain ⟨_, e, hv⟩ := this
      simp only [Option.some.injEq] at e
      subst e
      exact absurd (hb.2 hv) (by decide)
end Go.Proofs.YtcjfgbcdlcdeaaaGreatDoor
/- l3Of: reads a schema that is valid. -/
namespace Go.Proofs.YtcjfgbcdlcdeaaaGreatDoor
open Go.RowKit
set_option maxRecDepth 100000
set_option linter.unusedVariables false
set_option linter.unusedSimpArgs false
attribute [local go_sem] ba_get ba_toList ba_extract take_drop_all ByteArray.mk_append_mk

/-- What reading a schema leaves. -/
def ScPost (o : Option (List Ty)) (w : World) (e : Ending) (w' : World) : Prop :=
  (match o with
    | some S => ∃ v xs, e = .returned (.tuple #[v, .bool true]) ∧ tysOf xs = S ∧ SSc w' v xs
    | none => ∃ A n c, e = .returned (.tuple #[.slice A n c, .bool false])) ∧ Below w.heap.size w w'
theorem ScPost.no {w w' : World} {e : Ending} {o : Option (List Ty)} (ho : o = none) {A : Option Addr} {n c : Nat} (he : e = .returned (.tuple #[.slice A n c, .bool false])) (hb : Below w.heap.size w w') : ScPost o w e w' := by
  rw [ho]; exact ⟨⟨A, n, c, he⟩, hb⟩
theorem ScPost.yes {w w' : World} {e : Ending} {o : Option (List Ty)} {v : Value} {xs : List (Ty × Value)} (ho : o = some (tysOf xs)) (he : e = .returned (.tuple #[v, .bool true])) (hs : SSc w' v xs) (hb : Below w.heap.size w w') : ScPost o w e w' := by
  rw [ho]; exact ⟨⟨v, xs, he, rfl, hs⟩, hb⟩

/-- A row of texts that is never empty. -/
theorem own_texts {w : World} {base : Nat} {v : Value} {ls : List (List UInt8)} (h : w.ownsRow base 9 1 v ls.length (scells ls)) (hne : ls ≠ []) :
    ∃ g c, v = .slice (some ⟨g, 0, none⟩) ls.length c ∧ base ≤ g ∧ g < w.heap.size ∧ ∀ j (hj : j < ls.length), w.cell? ⟨g, j, none⟩ = some (.string ⟨ls[j].toArray⟩) := by
  rcases h.2 with ⟨_, h0⟩ | ⟨g, cap, cur, rfl, hb, hh, _⟩
  · cases ls with
    | nil => exact absurd rfl hne
    | cons => simp at h0
  · refine ⟨g, cap, rfl, hb, (h.lt g rfl).2, fun j hj => ?_⟩
    have := h.cells (g := g) rfl j (.string ⟨ls[j].toArray⟩) (by simp [scells, hj])
    rwa [addr0] at this
theorem linesS_long {s : List UInt8} (h : 9 < (splitL 10 s).length) : linesS s = none := if_pos (.inl h)
theorem linesS_last {s : List UInt8} (h : (splitL 10 s).getLast? ≠ some []) : linesS s = none := if_pos (.inr h)
theorem linesS_go {s : List UInt8} (h : ¬ 9 < (splitL 10 s).length) (h2 : (splitL 10 s).getLast? = some []) : linesS s = typesL (splitL 10 s).dropLast := if_neg (by rintro (h3 | h3) <;> contradiction)

set_option maxHeartbeats 2000000 in
/-- Too long, too many lines, or no line's end. -/
theorem sOf_early (s : List UInt8) (w : World) (hs : s.length ≤ 4000000) (h : 400 < s.length ∨ 9 < (splitL 10 s).length ∨ (splitL 10 s).getLast? ≠ some []) :
    Calls Tryz.prog 84 #[.string ⟨s.toArray⟩] w (ScPost (schemaL s) w) := by
  have HF := Lib.hid (show schemaL s = none by
    rcases h with h | h | h
    · exact schemaL_lines (.inl h)
    · exact schemaL_lines (.inr (linesS_long h))
    · exact schemaL_lines (.inr (linesS_last h)))
  have Hcut := Lib.hid (fun W => l3Cut_any s 10 10 rfl W hs)
  have hne := splitL_ne 10 s
  have hle := splitL_len 10 s
  generalize splitL 10 s = L at h Hcut hne hle
  go_enter Tryz.func84, Tryz.ntmps84
  go_wp2_with fail
  refine (Hcut.out _).mono ?_
  rintro e w1 ⟨v, rfl, ho, hb⟩
  obtain ⟨g, c, rfl, hg1, hg2, hcells⟩ := own_texts ho hne
  have hpos : 0 < L.length := List.length_pos_iff.2 hne
  have Hb := Lib.hid hb
  have k1 : (0 : Int) ≤ (L.length : Int) - 1 := by omega
  have k2 : (L.length : Int) - 1 < (L.length : Int) := by omega
  have k3 : ((L.length : Int) - 1).toNat = L.length - 1 := by omega
  by_cases h1 : 400 < s.length
  · have q1 : (400 : Int) < (s.length : Int) := by omega
    clear h hcells ho hb
    go_wp2_with fail
    refine bodyPost_ret (v := .tuple #[.slice none 0 0, .bool false]) (by simp [results, Tryz.results84, go_sem]) rfl ?_
    exact ScPost.no HF.out rfl Hb.out
  · have q1 : ¬ (400 : Int) < (s.length : Int) := by omega
    by_cases h2 : 9 < L.length
    · have q2 : (9 : Int) < (L.length : Int) := by omega
      clear h hcells ho hb
      go_wp2_with fail
      refine bodyPost_ret (v := .tuple #[.slice none 0 0, .bool false]) (by simp [results, Tryz.results84, go_sem]) rfl ?_
      exact ScPost.no HF.out rfl Hb.out
    · have q2 : ¬ (9 : Int) < (L.length : Int) := by omega
      have h3 : L.getLast? ≠ some [] := by rcases h with h | h | h <;> first | exact h | exact absurd h h1 | exact absurd h h2
      have cl := hcells (L.length - 1) (by omega)
      have he : ¬ (L[L.length - 1] = []) := by
        intro e
        apply h3
        rw [List.getLast?_eq_getElem?, List.getElem?_eq_getElem (by omega), e]
      have he' : (L[L.length - 1] == []) = false := by simpa using he
      clear h hcells ho hb h3
      generalize L[L.length - 1] = x at cl he he'
      go_wp2_with fail
      refine bodyPost_ret (v := .tuple #[.slice none 0 0, .bool false]) (by simp [results, Tryz.results84, go_sem]) rfl ?_
      exact ScPost.no HF.out rfl Hb.out
end Go.Proofs.YtcjfgbcdlcdeaaaGreatDoor
/- The reference's used: plain words and small laws. -/
namespace Go.Proofs.YtcjfgbcdlcdeaaaGreatDoor
open Go.RowKit
set_option linter.unusedVariables false

theorem blt (a b : Name) : Op.bytesLess a b = decide (a < b) := bytesLess_eq a b

/-- A slice that reads as texts. -/
def OutRow (w : World) (v : Value) (l : List Name) : Prop :=
  ∃ g c, v = .slice (some ⟨g, 0, none⟩) l.length c ∧ g < w.heap.size ∧ l.length ≤ c ∧ c ≤ maxLen ∧ ∀ j (hj : j < l.length), w.cell? ⟨g, j, none⟩ = some (.string ⟨l[j].toArray⟩)
theorem OutRow.below {w w' : World} {v : Value} {l : List Name} (h : OutRow w v l) (hb : Below w.heap.size w w') : OutRow w' v l := by
  obtain ⟨g, c, rfl, hg, h1, h2, hc⟩ := h
  exact ⟨g, c, rfl, Nat.lt_of_lt_of_le hg hb.size, h1, h2, fun j hj => (hb.cell (p := ⟨g, j, none⟩) hg).trans (hc j hj)⟩
theorem OutRow.own {w : World} {base : Nat} {v : Value} {n : Nat} {l : List Name} (h : w.ownsRow base 9 1 v n (scells l)) (hne : l ≠ []) : OutRow w v l := by
  obtain rfl : n = l.length := by have := h.1; simp [scells] at this; omega
  rcases h.2 with ⟨_, h0⟩ | ⟨g, cap, cur, rfl, hb, hh, hnc, hcm, _⟩
  · cases l with
    | nil => exact absurd rfl hne
    | cons => simp at h0
  · refine ⟨g, cap, rfl, (h.lt g rfl).2, hnc, hcm, fun j hj => ?_⟩
    have := h.cells (g := g) rfl j (.string ⟨l[j].toArray⟩) (by simp [scells, hj])
    rwa [addr0] at this

def UsPost (l : List Name) (w : World) (e : Ending) (w' : World) : Prop := ∃ v, e = .returned v ∧ OutRow w' v l ∧ Below w.heap.size w w'

/-- Where a name's place is. -/
theorem place (p : Name → Bool) : ∀ (l : List Name), (∀ (j : Nat) (hj : j < l.length), j < (l.takeWhile p).length → p l[j] = true) ∧ (∀ (h : (l.takeWhile p).length < l.length), p l[(l.takeWhile p).length] = false) ∧
    l.takeWhile p = l.take (l.takeWhile p).length ∧ l.dropWhile p = l.drop (l.takeWhile p).length ∧ (l.takeWhile p).length ≤ l.length
  | [] => by simp
  | x :: l => by
    obtain ⟨i1, i2, i3, i4, i5⟩ := place p l
    by_cases h : p x = true
    · simp only [List.takeWhile_cons, List.dropWhile_cons, h, if_true, List.length_cons]
      refine ⟨?_, ?_, ?_, ?_, by omega⟩
      · intro j hj hlt
        cases j with
        | zero => simpa using h
        | succ j => simpa using i1 j (by simpa using hj) (by simpa using hlt)
      · intro hh
        simpa using i2 (by simpa using hh)
      · simpa using i3
      · simpa using i4
    · have h' : p x = false := by simpa using h
      simp [h']

theorem used_no {S : List Ty} {n : Nat} {k : Kd} {l : List Name} (h : k.base ≠ [64]) : usedN S (n + 1) k l = l := by rw [usedN, if_neg (fun e => h e.1)]
theorem used_has {S : List Ty} {n : Nat} {k : Kd} {l : List Name} (h : hasS k.name l = true) : usedN S (n + 1) k l = l := by rw [usedN, if_neg (fun e => by rw [h] at e; exact absurd e.2 (by decide))]
theorem used_step {S : List Ty} {n : Nat} {k : Kd} {l : List Name} {t : Ty} (hb : k.base = [64]) (h : hasS k.name l = false) (hf : findTy S k.name = some t) :
    usedN S (n + 1) k l = if t.sort = 69 then putS k.name l else t.fields.foldl (fun o f => usedN S n f.kind o) (putS k.name l) := by rw [usedN, if_pos ⟨hb, h⟩, hf]
/-- What is used, so far: the words that each call keeps. -/
theorem used_keep {S : List Ty} (hS : kindsOk S) (n : Nat) {k : Kd} {l : List Name} (hk : refOk S k) (hm : Mets S l) (hs : SortedN l) :
    Mets S (usedN S n k l) ∧ SortedN (usedN S n k l) ∧ l.length ≤ (usedN S n k l).length := by
  obtain ⟨h1, h2⟩ := used_met S n k l l hs (List.Perm.refl _)
  obtain ⟨h3, m, h4⟩ := metN_mets hS n k l hk hm
  refine ⟨h3.perm h2.symm, h1, ?_⟩
  rw [h2.length_eq, h4]; simp
theorem fold_take {α β : Type} (f : β → α → β) (b : β) (l : List α) (j : Nat) (hj : j < l.length) : (l.take (j + 1)).foldl f b = f ((l.take j).foldl f b) l[j] := by
  rw [take_snoc l j hj, List.foldl_append]; rfl
theorem SSc.fds {w : World} {v : Value} {xs : List (Ty × Value)} (h : SSc w v xs) {x : Ty × Value} (hx : x ∈ xs) : SFds w x.2 x.1.fields := by
  obtain ⟨_, _, _, _, _, h⟩ := h
  exact h x hx
theorem fields_len {t : Ty} (h : tyOk t) : t.fields.length ≤ 8 ∧ (t.sort = 69 → 0 < t.fields.length) := by
  obtain ⟨_, _, _, h4, h5⟩ := h
  refine ⟨h4, fun e => ?_⟩
  rcases Nat.eq_zero_or_pos t.fields.length with h0 | h0
  · have := h5 (List.eq_nil_of_length_eq_zero h0)
    rw [e] at this; exact absurd this (by decide)
  · exact h0
theorem bne_byte {c d : UInt8} (h : c ≠ d) : ((c.toNat : Int) != (d.toNat : Int)) = true := by
  rw [bne_iff_ne]; intro e
  exact h (UInt8.toNat_inj.1 (by omega))
theorem bne_byte_no {c d : UInt8} (h : c = d) : ((c.toNat : Int) != (d.toNat : Int)) = false := by subst h; simp
/-- The cells of a part of a row. -/
theorem take_cells {w : World} {g : Nat} {l : List Name} (h : ∀ j (hj : j < l.length), w.cell? ⟨g, j, none⟩ = some (.string ⟨l[j].toArray⟩)) {j i : Nat} {x : Value} (hx : (scells (l.take j))[i]? = some x) : w.cell? ⟨g, i, none⟩ = some x := by
  unfold scells at hx
  rw [List.getElem?_map, List.getElem?_take] at hx
  split at hx
  · rename_i hij
    cases hq : l[i]? with
    | none => rw [hq] at hx; cases hx
    | some y =>
      rw [hq] at hx
      simp at hx; subst hx
      obtain ⟨hi, rfl⟩ := List.getElem?_eq_some_iff.1 hq
      exact h i hi
  · cases hx
theorem drop_cells {w : World} {g : Nat} {l : List Name} (h : ∀ j (hj : j < l.length), w.cell? ⟨g, j, none⟩ = some (.string ⟨l[j].toArray⟩)) {j i : Nat} {x : Value} (hx : (scells (l.drop j))[i]? = some x) : w.cell? ⟨g, j + i, none⟩ = some x := by
  unfold scells at hx
  rw [List.getElem?_map, List.getElem?_drop] at hx
  cases hq : l[j + i]? with
  | none => rw [hq] at hx; cases hx
  | some y =>
    rw [hq] at hx
    simp at hx; subst hx
    obtain ⟨hi, rfl⟩ := List.getElem?_eq_some_iff.1 hq
    exact h (j + i) hi
end Go.Proofs.YtcjfgbcdlcdeaaaGreatDoor
/- Structs of many cells as ranges of cells: kept, made, written in part; results that lie in cells. Conditions: as each theorem names them. -/
namespace Go.Proofs.YtcjfgbcdlcdeaaaGreatDoor
open Go.RowKit
set_option linter.unusedVariables false

theorem rangeAt_below {B : Nat} {w w' : World} {b o : Nat} {cs : List Value} (h : w.rangeAt b o cs) (hb : b < B) (hw : Below B w w') : w'.rangeAt b o cs := fun j v hv => (hw.cell (p := ⟨b, o + j, none⟩) hb).trans (h j v hv)
theorem there_below {B : Nat} {w w' : World} {b o n : Nat} (h : w.there b o n) (hb : b < B) (hw : Below B w w') : w'.there b o n := fun j hj => by
  rw [hw.cell (p := ⟨b, o + j, none⟩) hb, hw.frozen (p := ⟨b, o + j, none⟩) hb]; exact h j hj
theorem rangeAt_grown {w w' : World} {b o : Nat} {cs : List Value} {row : Option Nat} (h : w.rangeAt b o cs) (hg : w.grownBy w' row) (hne : some b ≠ row) : w'.rangeAt b o cs := fun j v hv => hg.cell (h j v hv) hne
theorem there_grown {w w' : World} {b o n : Nat} {row : Option Nat} (h : w.there b o n) (hg : w.grownBy w' row) (hb : b < w.heap.size) (hne : some b ≠ row) : w'.there b o n := fun j hj => by
  rw [hg.cell_far ⟨b, o + j, none⟩ hb hne, hg.frozen_far ⟨b, o + j, none⟩ hb hne]; exact h j hj
theorem there_sub {w : World} {b o n : Nat} (h : w.there b o n) (p m : Nat) (h1 : o ≤ p) (h2 : p + m ≤ o + n) : w.there b p m := fun j hj => by
  have := h (p + j - o) (by omega)
  rwa [show o + (p + j - o) = p + j by omega] at this
theorem rangeAt_new (w : World) (cs : List Value) (t : TypeId) : (w.alloc (.cells cs.toArray t)).rangeAt w.heap.size 0 cs := fun j v hv => by
  rw [World.cell?_alloc_new]; simpa using hv
theorem there_new (w : World) (cs : List Value) (t : TypeId) : (w.alloc (.cells cs.toArray t)).there w.heap.size 0 cs.length := fun j hj => by
  refine ⟨?_, by simp⟩
  rw [World.cell?_alloc_new]; simp; omega
theorem below_setCells {B : Nat} {a : World} (b : Nat) (hb : B ≤ b) : ∀ (vs : List Value) (o : Nat) (w : World), Below B a w → Below B a (w.setCells b o vs)
  | [], _, _, h => h
  | v :: r, o, w, h => below_setCells b hb r (o + 1) _ (h.setCell hb v)
theorem setCells_size (b : Nat) : ∀ (vs : List Value) (o : Nat) (w : World), (w.setCells b o vs).heap.size = w.heap.size
  | [], _, _ => rfl
  | v :: r, o, w => by rw [World.setCells, setCells_size b r]; simp
theorem rangeAt_cell {w : World} {b o : Nat} {cs : List Value} (h : w.rangeAt b o cs) (j : Nat) {v : Value} (hv : cs[j]? = some v) : w.cell? ⟨b, o + j, none⟩ = some v := h j v hv
theorem rangeAt_part {w : World} {b o : Nat} (l1 l2 l3 : List Value) (h : w.rangeAt b o (l1 ++ (l2 ++ l3))) : w.rangeAt b (o + l1.length) l2 := fun j v hv => by
  have hj := (List.getElem?_eq_some_iff.1 hv).1
  rw [Nat.add_assoc]
  exact h _ v (by rw [List.getElem?_append_right (by omega), Nat.add_sub_cancel_left, List.getElem?_append_left hj]; exact hv)
/-- A part of a range is written. -/
theorem rangeAt_setCells_in {w : World} {b : Nat} (l1 l2 l3 l2' : List Value) (h : w.rangeAt b 0 (l1 ++ (l2 ++ l3))) (hl : l2'.length = l2.length) : (w.setCells b l1.length l2').rangeAt b 0 (l1 ++ (l2' ++ l3)) := fun j v hv => by
  have hjl : j < l1.length + (l2'.length + l3.length) := by
    have := (List.getElem?_eq_some_iff.1 hv).1
    simpa using this
  have hsome : ∀ i, i < l2'.length → (w.cell? ⟨b, l1.length + i, none⟩).isSome = true := fun i hi => by
    have e : (l1 ++ (l2 ++ l3))[l1.length + i]? = some (l2[i]'(by omega)) := by
      rw [List.getElem?_append_right (by omega), List.getElem?_append_left (by omega), Nat.add_sub_cancel_left, List.getElem?_eq_getElem (by omega)]
    have := h _ _ e
    rw [Nat.zero_add] at this
    rw [this]; rfl
  rw [Nat.zero_add]
  rcases Nat.lt_or_ge j l1.length with h1 | h1
  · rw [World.cell?_setCells_out b l2' l1.length w ⟨b, j, none⟩ (fun _ _ => .inl h1)]
    rw [List.getElem?_append_left h1] at hv
    have := h j v (by rw [List.getElem?_append_left h1]; exact hv)
    rwa [Nat.zero_add] at this
  · rw [List.getElem?_append_right h1] at hv
    rcases Nat.lt_or_ge (j - l1.length) l2'.length with h2 | h2
    · rw [List.getElem?_append_left h2, List.getElem?_eq_getElem h2] at hv
      have := World.cell?_setCells_in b l2' l1.length w hsome (j - l1.length) h2
      rw [show l1.length + (j - l1.length) = j by omega] at this
      rw [this]; exact hv
    · rw [World.cell?_setCells_out b l2' l1.length w ⟨b, j, none⟩ (fun _ _ => .inr (by show l1.length + l2'.length ≤ j; omega))]
      rw [List.getElem?_append_right h2] at hv
      have := h j v (by rw [List.getElem?_append_right h1, List.getElem?_append_right (by omega), ← hl]; exact hv)
      rwa [Nat.zero_add] at this

section
variable {P : Program}
/-- A struct is stored: the world behind it under a name of its own. -/
theorem wpList_store_hid {ops : Array Oper} {rest : List Oper} {op : Oper} {a : Act} {w : World} {Q : Exit → Act → World → Prop} (hgd : op.guard = none) (ty : TypeId) (x y : Operand) (ho : op.op = .store ty x y)
    (b o : Nat) (cs : List Value) (hx : a.eval x = .pointer (some ⟨b, o, none⟩)) (hy : a.eval y = .agg cs.toArray)
    (ht : w.there b o cs.length) (hi : (P.info? ty).map (·.size) = some cs.length) (h1 : ∀ v ∈ cs, v.oneCell' = true)
    (h : ∀ w', Hid (w' = w.setCells b o cs) → wpList P ops Q rest (a.put op.dst undef) w') : wpList P ops Q (op :: rest) a w :=
  wpList_store_mid hgd ty x y ho b o cs.toArray hx hy (by simpa using ht) (by simpa using hi) (all_oneCell_toArray h1) (h _ rfl)
/-- Results: a struct that lies in cells, and a slot. -/
theorem results_cell_tmp {fn : Func} {p q : Tmp} {ty : TypeId} (h : fn.results = #[.cell p ty, .tmp q]) (tmps : Array Value) (w : World) (b : Nat) (cs : List Value) (d : TypeDesc) (x : Value)
    (hp : tmps.getD p undef = .pointer (some ⟨b, 0, none⟩)) (hq : tmps.getD q undef = x) (hc : w.rangeAt b 0 cs) (hu : P.underlying ty = some d) (hd : d.isRow = true) (hi : (P.info? ty).map (·.size) = some cs.length) :
    (results fn tmps).run P w = .ok (.tuple #[.agg cs.toArray, x]) w := by
  have hp' : tmps[p]?.getD undef = .pointer (some ⟨b, 0, none⟩) := by simpa using hp
  have hq' : tmps[q]?.getD undef = x := by simpa using hq
  simp [results, h, hp', hq', asAddr, run_loadVar_mid w b 0 ty cs d hc hu hd hi]
/-- Results: a slot, a struct that lies in cells, a slot. -/
theorem results_tmp_cell_tmp {fn : Func} {r p q : Tmp} {ty : TypeId} (h : fn.results = #[.tmp r, .cell p ty, .tmp q]) (tmps : Array Value) (w : World) (b : Nat) (cs : List Value) (d : TypeDesc) (y x : Value)
    (hr : tmps.getD r undef = y) (hp : tmps.getD p undef = .pointer (some ⟨b, 0, none⟩)) (hq : tmps.getD q undef = x) (hc : w.rangeAt b 0 cs) (hu : P.underlying ty = some d) (hd : d.isRow = true) (hi : (P.info? ty).map (·.size) = some cs.length) :
    (results fn tmps).run P w = .ok (.tuple #[y, .agg cs.toArray, x]) w := by
  have hp' : tmps[p]?.getD undef = .pointer (some ⟨b, 0, none⟩) := by simpa using hp
  have hq' : tmps[q]?.getD undef = x := by simpa using hq
  have hr' : tmps[r]?.getD undef = y := by simpa using hr
  simp [results, h, hp', hq', hr', asAddr, run_loadVar_mid w b 0 ty cs d hc hu hd hi]
end
end Go.Proofs.YtcjfgbcdlcdeaaaGreatDoor
