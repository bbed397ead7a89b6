/- Texts joined: SType, SField, SEnds, SValid, SValid2, SOf1, SOf, SOf2, SKind, SKindA, DSchema, Draws, SL5. Conditions: as each theorem names them. -/
import Derived.BigQuiet
import Derived.Test.YtcjfgbcdlcdeaaaDoorK01
import Derived.Test.YtcjfgbcdlcdeaaaDoorK02
import Derived.Test.YtcjfgbcdlcdeaaaDoorK07
import Derived.Test.YtcjfgbcdlcdeaaaDoorK08
import Derived.Test.YtcjfgbcdlcdeaaaDoorK09
import Derived.Test.YtcjfgbcdlcdeaaaDoorK10
/- l3ReadType, whole: what it answers is typeS. -/
namespace Go.Proofs.YtcjfgbcdlcdeaaaDoor
open Go.RowKit

theorem sReadType_any (s : List UInt8) (w : World) (hs : s.length ≤ 1000) :
    Calls Tryd.prog 25 #[.string ⟨s.toArray⟩] w (StPost (typeS s) w) := by
  rcases cutL_cases 61 s with ⟨hn, _⟩ | ⟨p, u, h, hp, _⟩
  · exact sType_none s w hs hn
  · cases p with
    | nil => exact sType_empty s u w hs h
    | cons c nm =>
      rcases Bool.eq_false_or_eq_true (nameOk nm) with hnm | hnm
      · by_cases hso : sortOk c
        · by_cases hu : u = []
          · rcases hso with rfl | rfl | rfl
            · exact sType_bare82 s nm u w hs h hp hnm hu
            · exact sType_bare85 s nm u w hs h hp hnm hu
            · exact sType_bare69 s nm u w hs h hp hnm hu
          · rcases hso with rfl | rfl | rfl
            · exact sType_full82 s nm u w hs h hp hnm hu
            · exact sType_full85 s nm u w hs h hp hnm hu
            · exact sType_full69 s nm u w hs h hp hnm hu
        · exact sType_sort s c nm u w hs h hp hnm hso
      · exact sType_name s c nm u w hs h hp hnm

end Go.Proofs.YtcjfgbcdlcdeaaaDoor
/- What the reference looks up: the field of a tag, the type of a name, of a kind. -/
namespace Go.Proofs.YtcjfgbcdlcdeaaaDoor
open Go.RowKit
set_option maxRecDepth 100000
set_option linter.unusedVariables false
attribute [local go_sem] ba_get ba_toList ba_extract take_drop_all ByteArray.mk_append_mk

/-- What looking for a field returns. -/
def sfR : Option Fd → Value
  | some f => .tuple #[sfV f, .bool true]
  | none => .tuple #[sf0, .bool false]

set_option maxHeartbeats 1000000 in
theorem sField_any (st nm fv : Value) (fs : List Fd) (n : Nat) (w : World) (h : SFds w fv fs) (hn : n ≤ 1000000000) :
    Calls Tryd.prog 52 #[.agg #[st, nm, fv], .int .i64 n] w fun e w' => e = .returned (sfR (fieldT fs n)) ∧ Below w.heap.size w w' := by
  obtain ⟨A, c, rfl, hl, hr⟩ := h
  have Hr := Lib.hid hr
  clear hr
  go_enter Tryd.func52, Tryd.ntmps52
  go_wp2_with fail
  go_loopw [6] (fun i wr => ∃ k : Nat, i = .int .i64 k ∧ k ≤ fs.length ∧ wr = (w.alloc (.cells #[st, nm, .slice A fs.length c] 48)).alloc (.cells #[.int .i64 0, .string ⟨#[]⟩, .string ⟨#[]⟩, .string ⟨#[]⟩] 50) ∧ Hid (∀ f ∈ fs.take k, decide (f.tag = n) = false)) (fun i _ => fs.length - (intOf i).toNat)
  case atStart => exact ⟨0, rfl, Nat.zero_le _, rfl, by intro f hf; simp at hf⟩
  case round =>
    obtain ⟨k, rfl, hk, rfl, hin⟩ := hrel
    by_cases hlt : k < fs.length
    · obtain ⟨b, off, rfl, hb, c0, c1, c2, c3⟩ := SFds.at_ Hr.out hlt
      have Hts := Lib.hid (take_snoc fs k hlt)
      have Hft := Lib.hid (find_take (p := fun f => decide (f.tag = n)) hlt hin.out)
      generalize fs[k] = f at c0 c1 c2 c3 Hts Hft
      have k1 : (0 : Int) ≤ (k : Int) := by omega
      have k2 : (k : Int) < (fs.length : Int) := by omega
      by_cases he : f.tag = n
      · have t1 : ((f.tag : Int) == (n : Int)) = true := by simp [he]
        have Hfin := Lib.hid (show fieldT fs n = some f by unfold fieldT; rw [Hft.out, if_pos (by simpa using he)])
        clear he
        go_wp2_with fail
        exact bodyPost_ret (v := .tuple #[sfV f, .bool true]) (by simp [results, Tryd.results52, go_sem, sfV]) rfl ⟨by rw [Hfin.out]; rfl, ((Below.refl _ _).alloc (Nat.le_refl _) _).alloc (by simp) _⟩
      · have t1 : ((f.tag : Int) == (n : Int)) = false := by rw [beq_eq_false_iff_ne]; omega
        have Hin := Lib.hid (show ∀ g ∈ fs.take (k + 1), decide (g.tag = n) = false by
          intro g hg
          rw [Hts.out] at hg
          rcases List.mem_append.1 hg with hg | hg
          · exact hin.out g hg
          · simp at hg; subst hg; simpa using he)
        clear he
        go_wp2_with fail
        go_roundw
        case rel => exact ⟨k + 1, by go_num, by omega, trivial, Hin.out⟩
        case measure => simp [intOf]; omega
    · have Hfin := Lib.hid (show fieldT fs n = none from find_all_none (fun f hf => hin.out f (by rw [List.take_of_length_le (by omega)]; exact hf)))
      go_wp2_with fail
      exact bodyPost_ret (v := .tuple #[sf0, .bool false]) (by simp [results, Tryd.results52, go_sem, sf0]) rfl ⟨by rw [Hfin.out]; rfl, ((Below.refl _ _).alloc (Nat.le_refl _) _).alloc (by simp) _⟩

/-- What looking for a type returns. -/
def styR : Option (Ty × Value) → Value
  | some x => .tuple #[styV x.1 x.2, .bool true]
  | none => .tuple #[sty0, .bool false]

set_option maxHeartbeats 1000000 in
theorem sFind_any (v : Value) (xs : List (Ty × Value)) (n : List UInt8) (w : World) (h : SSc w v xs) :
    Calls Tryd.prog 36 #[v, .string ⟨n.toArray⟩] w fun e w' => e = .returned (styR (findX xs n)) ∧ Below w.heap.size w w' := by
  obtain ⟨A, c, rfl, hl, hr, hf⟩ := h
  have Hr := Lib.hid hr
  have Hf := Lib.hid hf
  clear hr hf
  go_enter Tryd.func36, Tryd.ntmps36
  go_wp2_with fail
  go_loopw [6] (fun i wr => ∃ k : Nat, i = .int .i64 k ∧ k ≤ xs.length ∧ wr = w.alloc (.cells #[.int .u8 0, .string ⟨#[]⟩, .slice none 0 0] 48) ∧ Hid (∀ x ∈ xs.take k, decide (x.1.name = n) = false)) (fun i _ => xs.length - (intOf i).toNat)
  case atStart => exact ⟨0, rfl, Nat.zero_le _, rfl, by intro f hf; simp at hf⟩
  case round =>
    obtain ⟨k, rfl, hk, rfl, hin⟩ := hrel
    by_cases hlt : k < xs.length
    · obtain ⟨b, off, rfl, hb, c0, c1, c2⟩ := SSc.at_ Hr.out hlt
      have Hts := Lib.hid (take_snoc xs k hlt)
      have Hft := Lib.hid (find_take (p := fun x => decide (x.1.name = n)) hlt hin.out)
      have hfx := Hf.out _ (List.getElem_mem hlt)
      generalize xs[k] = x at c0 c1 c2 Hts Hft hfx
      obtain ⟨t, fv⟩ := x
      simp only [] at c0 c1 c2 hfx
      obtain ⟨A2, d2, hfv, _⟩ := hfx
      subst hfv
      have k1 : (0 : Int) ≤ (k : Int) := by omega
      have k2 : (k : Int) < (xs.length : Int) := by omega
      by_cases he : t.name = n
      · have t1 : (t.name == n) = true := by simp [he]
        have Hfin := Lib.hid (show findX xs n = some (t, .slice A2 t.fields.length d2) by unfold findX; rw [Hft.out, if_pos (by simpa using he)])
        clear he
        go_wp2_with fail
        refine bodyPost_ret (v := .tuple #[styV t (.slice A2 t.fields.length d2), .bool true]) (by simp [results, Tryd.results36, go_sem, styV]) rfl ?_
        exact ⟨by rw [Hfin.out]; rfl, (Below.refl _ _).alloc (Nat.le_refl _) _⟩
      · have t1 : (t.name == n) = false := by simpa using he
        have Hin := Lib.hid (show ∀ g ∈ xs.take (k + 1), decide (g.1.name = n) = false by
          intro g hg
          rw [Hts.out] at hg
          rcases List.mem_append.1 hg with hg | hg
          · exact hin.out g hg
          · simp at hg; subst hg; simpa using he)
        clear he
        go_wp2_with fail
        go_roundw
        case rel => exact ⟨k + 1, by go_num, by omega, trivial, Hin.out⟩
        case measure => simp [intOf]; omega
    · have Hfin := Lib.hid (show findX xs n = none from find_all_none (fun f hf => hin.out f (by rw [List.take_of_length_le (by omega)]; exact hf)))
      go_wp2_with fail
      refine bodyPost_ret (v := .tuple #[sty0, .bool false]) (by simp [results, Tryd.results36, go_sem, sty0]) rfl ?_
      exact ⟨by rw [Hfin.out]; rfl, (Below.refl _ _).alloc (Nat.le_refl _) _⟩

/-- A kind's text begins with a byte: @ or another. -/
theorem kd_head {k : Kd} (h : kdOk k) : (k.signs = [] ∧ k.base = [64] ∧ kdB k = 64 :: (k.name ++ [59]) ∧ k.name.length ≤ 3) ∨ (¬ (k.signs = [] ∧ k.base = [64]) ∧ ∃ c t, kdB k = c :: t ∧ c ≠ 64 ∧ t.length ≤ 12) := by
  obtain ⟨h1, h2, h3⟩ := h
  cases hs : k.signs with
  | cons c t =>
    refine .inr ⟨by simp, c, t ++ coreB k, by unfold kdB; rw [hs]; rfl, ?_, ?_⟩
    · rw [hs] at h1
      simp only [List.all_cons, Bool.and_eq_true] at h1
      rintro rfl
      exact absurd h1.1 (by decide)
    · unfold kdB at h3; rw [hs] at h3; simp at h3 ⊢; omega
  | nil =>
    rcases h2 with ⟨hb, hn⟩ | ⟨hb, _⟩
    · exact .inl ⟨rfl, hb, by unfold kdB coreB; rw [hs, if_pos hb]; rfl, (nameOk_iff.1 hn).2.1⟩
    · refine .inr ⟨?_, ?_⟩
      · rintro ⟨_, h⟩
        rcases hb with hb | hb | hb <;> · rw [hb] at h; revert h; decide
      · have hc : kdB k = k.base := by
          unfold kdB coreB
          rw [hs, if_neg (by rcases hb with hb | hb | hb <;> · rw [hb]; decide)]; rfl
        rw [hc]
        rcases hb with hb | hb | hb <;> · rw [hb]; exact ⟨_, _, rfl, by decide, by simp⟩

set_option maxHeartbeats 400000 in
theorem sRef_any (v : Value) (xs : List (Ty × Value)) (k : Kd) (w : World) (h : SSc w v xs) (hk : kdOk k) :
    Calls Tryd.prog 37 #[v, .string ⟨(kdB k).toArray⟩] w fun e w' => e = .returned (styR (refX xs k)) ∧ Below w.heap.size w w' := by
  have H := Lib.hid h
  clear h
  rcases kd_head hk with ⟨h1, h2, h3, h4⟩ | ⟨h1, c, t, h3, h4, h5⟩
  · have Hr := Lib.hid (show refX xs k = findX xs k.name from if_pos ⟨h1, h2⟩)
    rw [h3]
    clear h1 h2 h3
    go_enter Tryd.func37, Tryd.ntmps37
    go_wp2_with fail
    refine (l2Ref_yes k.name _ (by omega)).mono ?_
    rintro e w' ⟨rfl, rfl⟩
    go_wp2_with fail
    refine (sFind_any v xs k.name _ (H.out.below ((Below.refl _ _).alloc (Nat.le_refl _) _))).mono ?_
    rintro e w2 ⟨rfl, hb⟩
    cases hf : findX xs k.name with
    | none =>
      rw [hf] at Hr
      obtain ⟨hc, hfz, hz⟩ := bcell hb
      have Hb := Lib.hid (((Below.refl w.heap.size w).alloc (Nat.le_refl _) _).trans (hb.mono (by simp)))
      clear hb hf
      unfold styR sty0
      go_wp2_with fail
      refine bodyPost_ret (v := .tuple #[sty0, .bool false]) (by simp [results, Tryd.results37, go_sem, sty0, hc]) rfl ?_
      exact ⟨by rw [Hr.out]; rfl, ((Hb.out.setCell (Nat.le_refl _) _).setCell (Nat.le_refl _) _).setCell (Nat.le_refl _) _⟩
    | some x =>
      obtain ⟨t, fv⟩ := x
      have hm := (findX_mem hf).1
      obtain ⟨A, c, _, _, _, hfs⟩ := H.out
      obtain ⟨A2, d2, e2, _⟩ := hfs _ hm
      simp only at e2
      subst e2
      rw [hf] at Hr
      obtain ⟨hc, hfz, hz⟩ := bcell hb
      have Hb := Lib.hid (((Below.refl w.heap.size w).alloc (Nat.le_refl _) _).trans (hb.mono (by simp)))
      clear hb hf hm hfs
      unfold styR styV
      go_wp2_with fail
      refine bodyPost_ret (v := .tuple #[styV t (.slice A2 t.fields.length d2), .bool true]) (by simp [results, Tryd.results37, go_sem, styV, hc]) rfl ?_
      exact ⟨by rw [Hr.out]; rfl, ((Hb.out.setCell (Nat.le_refl _) _).setCell (Nat.le_refl _) _).setCell (Nat.le_refl _) _⟩
  · have Hr := Lib.hid (show refX xs k = none from if_neg h1)
    rw [h3]
    clear h1 h3
    go_enter Tryd.func37, Tryd.ntmps37
    go_wp2_with fail
    refine (l2Ref_no c t _ h4 (by omega)).mono ?_
    rintro e w' ⟨rfl, rfl⟩
    go_wp2_with fail
    refine bodyPost_ret (v := .tuple #[sty0, .bool false]) (by simp [results, Tryd.results37, go_sem, sty0]) rfl ?_
    exact ⟨by rw [Hr.out]; rfl, (Below.refl _ _).alloc (Nat.le_refl _) _⟩
end Go.Proofs.YtcjfgbcdlcdeaaaDoor
/- ends: whether going from union to union ends. -/
namespace Go.Proofs.YtcjfgbcdlcdeaaaDoor
open Go.RowKit
set_option maxRecDepth 100000
set_option linter.unusedVariables false
set_option linter.unusedSimpArgs false
attribute [local go_sem] ba_get ba_toList ba_extract take_drop_all ByteArray.mk_append_mk

theorem ends_no (S : List Ty) (n : Nat) (t : Ty) (h : t.sort ≠ 85) : endsN S (n + 1) t = true := by
  simp only [endsN, nextTy, if_neg h]
theorem ends_ref (xs : List (Ty × Value)) (n : Nat) (t : Ty) (f : Fd) (fs : List Fd) (h : t.sort = 85) (hf : t.fields = f :: fs) :
    endsN (tysOf xs) (n + 1) t = (match refX xs f.kind with | none => true | some u => endsN (tysOf xs) n u.1) := by
  simp only [endsN, nextTy, if_pos h, hf, refX]
  by_cases hk : f.kind.signs = [] ∧ f.kind.base = [64]
  · rw [if_pos hk, if_pos hk, findX_ty]
    cases findX xs f.kind.name <;> rfl
  · rw [if_neg hk, if_neg hk]
theorem union_head {t : Ty} (h : tyOk t) (hs : t.sort = 85) : ∃ f fs, t.fields = f :: fs ∧ kdOk f.kind := by
  obtain ⟨h1, h2, h3, h4, h5⟩ := h
  cases hf : t.fields with
  | nil => have := h5 hf; rw [hs] at this; exact absurd this (by decide)
  | cons f fs =>
    refine ⟨f, fs, rfl, ?_⟩
    have := h3.1 f (by rw [hf]; simp)
    exact (this.2.2.2.2 (by rw [hs]; decide)).1
theorem refX_mem {xs : List (Ty × Value)} {k : Kd} {x : Ty × Value} (h : refX xs k = some x) : x ∈ xs := by
  unfold refX at h
  split at h
  · exact (findX_mem h).1
  · cases h

set_option maxHeartbeats 1000000 in
theorem sEnds_any (v fv : Value) (xs : List (Ty × Value)) (t : Ty) (w : World) (h : SSc w v xs) (ht : tyOk t) (hft : SFds w fv t.fields) (hok : ∀ x ∈ xs, tyOk x.1) :
    Calls Tryd.prog 42 #[v, styV t fv] w fun e w' => e = .returned (.bool (endsN (tysOf xs) (xs.length + 1) t)) ∧ Below w.heap.size w w' := by
  have H := Lib.hid h
  have Hok := Lib.hid hok
  obtain ⟨A, c, rfl, hxl, _⟩ := h
  obtain ⟨A1, c1, rfl, hfl, hr1⟩ := hft
  have Hr1 := Lib.hid hr1
  have Ht := Lib.hid ht
  clear hok hr1 ht
  unfold styV
  go_enter Tryd.func42, Tryd.ntmps42
  go_wp2_with fail
  go_loopw [5] (fun i wr => ∃ (n : Nat) (cur : Ty) (A2 : Option Addr) (c2 : Nat), i = .int .i64 n ∧ n ≤ xs.length + 1 ∧ Hid (tyOk cur) ∧ Hid (RowAt w A2 (cur.fields.length * 4) (cur.fields.flatMap sfc)) ∧
      Hid (endsN (tysOf xs) (xs.length + 1) t = endsN (tysOf xs) (xs.length + 1 - n) cur) ∧ Hid (Below w.heap.size w wr) ∧ w.heap.size < wr.heap.size ∧
      wr.cell? ⟨w.heap.size, 0, none⟩ = some (.int .u8 (cur.sort.toNat : Int)) ∧ wr.cell? ⟨w.heap.size, 1, none⟩ = some (.string ⟨cur.name.toArray⟩) ∧ wr.cell? ⟨w.heap.size, 2, none⟩ = some (.slice A2 cur.fields.length c2) ∧
      (∀ j, wr.frozen? ⟨w.heap.size, j, none⟩ = false)) (fun i _ => xs.length + 1 - (intOf i).toNat)
  case atStart => exact ⟨0, t, A1, c1, rfl, Nat.zero_le _, Ht.out, Hr1.out, rfl, (Below.refl _ _).alloc (Nat.le_refl _) _, by simp, by simp, by simp, by simp, by simp⟩
  case round =>
    obtain ⟨n, cur, A2, c2, rfl, hn, hcu, hrow, heq, hb, hsz, u0, u1, u2, f1⟩ := hrel
    by_cases hlt : n ≤ xs.length
    · have k1 : (n : Int) ≤ (xs.length : Int) := by omega
      obtain ⟨m, hm⟩ : ∃ m, xs.length + 1 - n = m + 1 := ⟨xs.length - n, by omega⟩
      have hm2 : xs.length + 1 - (n + 1) = m := by omega
      rw [hm] at heq
      have hcl := cur.sort.toNat_lt
      by_cases hs : cur.sort = 85
      · have t1 : ((cur.sort.toNat : Int) != 85) = false := by have := byte_eq hs; simpa using this
        have t2 : ((cur.sort.toNat : Int) == 85) = true := byte_eq hs
        obtain ⟨f, fs, hfs, hkd⟩ := union_head hcu.out hs
        have Heq := Lib.hid (show endsN (tysOf xs) (xs.length + 1) t = (match refX xs f.kind with | none => true | some u => endsN (tysOf xs) m u.1) by rw [heq.out]; exact ends_ref xs m cur f fs hs hfs)
        have hlf : 0 < cur.fields.length := by rw [hfs]; simp
        have hf0 : cur.fields[0] = f := by simp [hfs]
        obtain ⟨b, off, rfl, hbl, g0, g1, g2, g3⟩ := SFds.at_ (hrow.out.below hb.out) hlf
        rw [hf0] at g0 g1 g2 g3
        simp only [Nat.zero_mul, Nat.add_zero] at g0 g1 g2 g3
        have Hkd := Lib.hid hkd
        have l1 : (0 : Int) < (cur.fields.length : Int) := by omega
        clear hs heq hkd hf0 hfs
        go_wp2_with fail
        refine (sRef_any (.slice A xs.length c) xs f.kind _ (H.out.below hb.out) Hkd.out).mono ?_
        rintro e w4 ⟨rfl, hb4⟩
        obtain ⟨hc4, hfz4, hz4⟩ := bcell hb4
        have Hb5 := Lib.hid (hb.out.trans (hb4.mono (Nat.le_of_lt hsz)))
        rw [← hc4 _ _ hsz] at u0 u1 u2
        have f1' : ∀ j, w4.frozen? ⟨w.heap.size, j, none⟩ = false := fun j => (hfz4 _ j hsz).trans (f1 j)
        have hsz4 := hz4 _ hsz
        have Hrow' := Lib.hid (fun (x : Ty × Value) (hx : x ∈ xs) => ((show ∀ x ∈ xs, SFds w x.2 x.1.fields from (by obtain ⟨_, _, _, _, _, hf⟩ := H.out; exact hf)) x hx))
        have hn1 : ¬ (w4.heap.size = w.heap.size) := by omega
        have hn2 : ¬ (w.heap.size = w4.heap.size) := by omega
        clear hb4 hc4 hfz4 hz4 f1 hb
        cases hr : refX xs f.kind with
        | none =>
          rw [hr] at Heq
          unfold styR sty0
          go_wp2_with fail
          go_ret
          exact ⟨by rw [Heq.out]; first | rfl | trivial, (by (repeat (first | exact Hb5.out | refine Below.setCell ?_ (by first | exact Nat.le_refl _ | (simp; done) | (simp; omega) | omega) _ | refine Below.alloc ?_ (by first | exact Nat.le_refl _ | (simp; done) | (simp; omega) | omega) _ | refine Below.drew ?_)))⟩
        | some x =>
          rw [hr] at Heq
          obtain ⟨u, uv⟩ := x
          have Hm := Lib.hid (refX_mem hr)
          obtain ⟨A5, c5, e5, _, hr5⟩ := Hrow'.out _ Hm.out
          simp only [] at e5 hr5
          subst e5
          have Hr5 := Lib.hid hr5
          clear hr hr5
          unfold styR styV
          go_wp2_with fail
          go_roundw
          case rel =>
            refine ⟨n + 1, u, A5, c5, by go_num, by omega, Hok.out _ Hm.out, Hr5.out, by rw [hm2]; exact Heq.out, (by (repeat (first | exact Hb5.out | refine Below.setCell ?_ (by first | exact Nat.le_refl _ | (simp; done) | (simp; omega) | omega) _ | refine Below.alloc ?_ (by first | exact Nat.le_refl _ | (simp; done) | (simp; omega) | omega) _ | refine Below.drew ?_))), by simp; omega, by simp [go_sem, u0, u1, u2, f1', hn1, hn2, hsz4], by simp [go_sem, u0, u1, u2, f1', hn1, hn2, hsz4], by simp [go_sem, u0, u1, u2, f1', hn1, hn2, hsz4], by intro j; simp [go_sem, f1', hn1, hn2, hsz4]⟩
          case measure => simp [intOf]; omega
      · have t1 : ((cur.sort.toNat : Int) != 85) = true := by have := byte_ne hs; simpa using this
        have t2 : ((cur.sort.toNat : Int) == 85) = false := byte_ne hs
        have Hend := Lib.hid (show endsN (tysOf xs) (xs.length + 1) t = true by rw [heq.out]; exact ends_no _ m cur hs)
        clear hs heq
        go_wp2_with fail
        go_ret
        exact ⟨by rw [Hend.out]; first | rfl | trivial, hb.out⟩
    · have k1 : ¬ (n : Int) ≤ (xs.length : Int) := by omega
      have Hend := Lib.hid (show endsN (tysOf xs) (xs.length + 1) t = false by rw [heq.out, show xs.length + 1 - n = 0 by omega]; rfl)
      clear heq
      go_wp2_with fail
      go_ret
      exact ⟨by rw [Hend.out]; first | rfl | trivial, hb.out⟩
end Go.Proofs.YtcjfgbcdlcdeaaaDoor
/- valid: names differ, kinds name types, unions end. -/
namespace Go.Proofs.YtcjfgbcdlcdeaaaDoor
open Go.RowKit
set_option maxRecDepth 100000
set_option linter.unusedVariables false
set_option linter.unusedSimpArgs false
attribute [local go_sem] ba_get ba_toList ba_extract take_drop_all ByteArray.mk_append_mk

def isRef (k : Kd) : Bool := decide (k.base = [64])
def refNm (k : Kd) : List UInt8 := if k.base = [64] then k.name else []
theorem l2RefCore_any (k : Kd) (hk : kdOk k) (w : World) :
    Calls Tryd.prog 34 #[.string ⟨(coreB k).toArray⟩] w fun e w' => e = .returned (.tuple #[.string ⟨(refNm k).toArray⟩, .bool (isRef k)]) ∧ w = w' := by
  obtain ⟨_, hb, hl⟩ := hk
  unfold coreB refNm isRef
  by_cases h : k.base = [64]
  · rw [if_pos h, if_pos h, decide_eq_true h]
    refine l2Ref_yes k.name w ?_
    rcases hb with ⟨_, hn⟩ | ⟨h2, _⟩
    · have := (nameOk_iff.1 hn).2.1; omega
    · rcases h2 with h2 | h2 | h2 <;> · rw [h] at h2; exact absurd h2 (by decide)
  · rw [if_neg h, if_neg h, decide_eq_false h]
    rcases hb with ⟨h2, _⟩ | ⟨h2, _⟩
    · exact absurd h2 h
    · rcases h2 with h2 | h2 | h2 <;> · rw [h2]; exact l2Ref_no _ [] w (by decide) (by simp)
theorem l2CoreK_any (k : Kd) (hk : kdOk k) (w : World) :
    Calls Tryd.prog 35 #[.string ⟨(kdB k).toArray⟩] w fun e w' => e = .returned (.string ⟨(coreB k).toArray⟩) ∧ w = w' :=
  l2Core_any k w hk.1 (core_head hk.2.1) (by have := hk.2.2; omega)
/-- May a kind be named, as far as the reference looks. -/
theorem refOk_find (xs : List (Ty × Value)) (k : Kd) : refOk (tysOf xs) k ↔ (isRef k = true → (findX xs (refNm k)).isSome = true) := by
  unfold refOk isRef refNm
  by_cases h : k.base = [64]
  · rw [if_pos h, findX_ty]; simp [h]
  · rw [if_neg h]; simp [h]

def validP (S : List Ty) : Prop := (S.Pairwise fun t u => t.name ≠ u.name) ∧ kindsOk S ∧ ∀ t ∈ S, endsN S (S.length + 1) t = true
/-- What has been looked at of k types. -/
def okTo (xs : List (Ty × Value)) (k : Nat) : Prop :=
  (((xs.take k).map (·.1)).Pairwise fun t u => t.name ≠ u.name) ∧ ∀ x ∈ xs.take k, x.1.sort ≠ 69 → ∀ f ∈ x.1.fields, refOk (tysOf xs) f.kind
theorem okTo_zero (xs : List (Ty × Value)) : okTo xs 0 := ⟨by simp, by simp⟩
theorem okTo_succ {xs : List (Ty × Value)} {k : Nat} (hk : k < xs.length) (h : okTo xs k) (h1 : ∀ x ∈ xs.take k, x.1.name ≠ xs[k].1.name) (h2 : xs[k].1.sort ≠ 69 → ∀ f ∈ xs[k].1.fields, refOk (tysOf xs) f.kind) : okTo xs (k + 1) := by
  unfold okTo
  rw [take_snoc xs k hk]
  refine ⟨?_, ?_⟩
  · rw [List.map_append, List.pairwise_append]
    refine ⟨h.1, by simp, ?_⟩
    intro a ha b hb
    obtain ⟨x, hx, rfl⟩ := List.mem_map.1 ha
    simp at hb; subst hb
    exact h1 x hx
  · intro x hx
    rcases List.mem_append.1 hx with hx | hx
    · exact h.2 x hx
    · simp at hx; subst hx; exact h2
theorem okTo_all {xs : List (Ty × Value)} (h : okTo xs xs.length) : ((tysOf xs).Pairwise fun t u => t.name ≠ u.name) ∧ kindsOk (tysOf xs) := by
  unfold okTo at h
  rw [List.take_length] at h
  refine ⟨h.1, ?_⟩
  intro t ht hs f hf
  obtain ⟨x, hx, rfl⟩ := List.mem_map.1 ht
  exact h.2 x hx hs f hf
theorem not_names {xs : List (Ty × Value)} {j k : Nat} (hjk : j < k) (hk : k < xs.length) (h : xs[j].1.name = xs[k].1.name) : ¬ validP (tysOf xs) := by
  rintro ⟨hp, _⟩
  have := List.pairwise_iff_getElem.1 hp j k (by unfold tysOf; simp; omega) (by unfold tysOf; simp; omega) hjk
  unfold tysOf at this
  simp at this
  exact this h
theorem not_kind {xs : List (Ty × Value)} {k j : Nat} (hk : k < xs.length) (hs : xs[k].1.sort ≠ 69) (hj : j < xs[k].1.fields.length) (h : ¬ refOk (tysOf xs) xs[k].1.fields[j].kind) : ¬ validP (tysOf xs) := by
  rintro ⟨_, hp, _⟩
  exact h (hp xs[k].1 (List.mem_map.2 ⟨xs[k], List.getElem_mem hk, rfl⟩) hs _ (List.getElem_mem hj))
theorem not_ends {xs : List (Ty × Value)} {k : Nat} (hk : k < xs.length) (h : endsN (tysOf xs) (xs.length + 1) xs[k].1 = false) : ¬ validP (tysOf xs) := by
  rintro ⟨_, _, hp⟩
  have := hp xs[k].1 (List.mem_map.2 ⟨xs[k], List.getElem_mem hk, rfl⟩)
  rw [show (tysOf xs).length = xs.length by unfold tysOf; simp, h] at this
  cases this
end Go.Proofs.YtcjfgbcdlcdeaaaDoor
/- valid, walked. -/
namespace Go.Proofs.YtcjfgbcdlcdeaaaDoor
open Go.RowKit
set_option maxRecDepth 100000
set_option linter.unusedVariables false
set_option linter.unusedSimpArgs false
attribute [local go_sem] ba_get ba_toList ba_extract take_drop_all ByteArray.mk_append_mk

set_option maxHeartbeats 2000000 in
theorem sValid_any (v : Value) (xs : List (Ty × Value)) (w : World) (h : SSc w v xs) (hok : ∀ x ∈ xs, tyOk x.1) :
    Calls Tryd.prog 26 #[v] w fun e w' => (∃ b, e = .returned (.bool b) ∧ (b = true ↔ validP (tysOf xs))) ∧ Below w.heap.size w w' := by
  have H := Lib.hid h
  have Hok := Lib.hid hok
  obtain ⟨A, c, rfl, hxl, hrow, hfds⟩ := h
  have Hrow := Lib.hid hrow
  have Hfds := Lib.hid hfds
  clear hok hrow hfds
  go_enter Tryd.func26, Tryd.ntmps26
  go_wp2_with fail
  go_loopw [3] (fun i wr => ∃ k : Nat, i = .int .i64 k ∧ k ≤ xs.length ∧ Hid (okTo xs k) ∧ Hid (Below w.heap.size w wr)) (fun i _ => xs.length - (intOf i).toNat)
  case atStart => exact ⟨0, rfl, Nat.zero_le _, okTo_zero xs, Below.refl _ _⟩
  case round =>
    obtain ⟨k, rfl, hk, hto, hbr⟩ := hrel
    by_cases hlt : k < xs.length
    · have k1 : (0 : Int) ≤ (k : Int) := by omega
      have k2 : (k : Int) < (xs.length : Int) := by omega
      go_wp2_with fail
      go_loopw [4] (fun i wq => ∃ j : Nat, i = .int .i64 j ∧ j ≤ k ∧ (∃ q, wq = wr.drewN q) ∧ Hid (∀ x ∈ xs.take j, x.1.name ≠ xs[k].1.name)) (fun i _ => k - (intOf i).toNat)
      case atStart => exact ⟨0, rfl, Nat.zero_le _, ⟨0, rfl⟩, by intro x hx; simp at hx⟩
      case round =>
        obtain ⟨j, rfl, hj, ⟨q, rfl⟩, hin⟩ := hrel
        obtain ⟨b, off, rfl, hbl, c0, c1, c2⟩ := SSc.at_ (Hrow.out.below hbr.out) hlt
        by_cases hjl : j < k
        · obtain ⟨b', off', e', hbl', d0, d1, d2⟩ := SSc.at_ (Hrow.out.below hbr.out) (show j < xs.length by omega)
          simp only [Option.some.injEq, Addr.mk.injEq] at e'
          obtain ⟨rfl, rfl, _⟩ := e'
          have Hnn := Lib.hid (fun h => not_names (xs := xs) hjl hlt h)
          have Hts := Lib.hid (take_snoc xs j (show j < xs.length by omega))
          have j1 : (0 : Int) ≤ (j : Int) := by omega
          have j2 : (j : Int) < (xs.length : Int) := by omega
          have j3 : (j : Int) < (k : Int) := by omega
          by_cases he : xs[j].1.name = xs[k].1.name
          · have t1 : (xs[j].1.name == xs[k].1.name) = true := by simpa using he
            have Hno := Lib.hid (Hnn.out he)
            clear he
            go_wp2_with fail
            go_quiet (fail)
            go_wp2_with fail
            go_ret
            exact ⟨⟨false, rfl, by simp [Hno.out]⟩, below_drewN (below_drewN hbr.out q) _⟩
          · have t1 : (xs[j].1.name == xs[k].1.name) = false := by simpa using he
            have Hin := Lib.hid (show ∀ x ∈ xs.take (j + 1), x.1.name ≠ xs[k].1.name by
              intro x hx
              rw [Hts.out] at hx
              rcases List.mem_append.1 hx with hx | hx
              · exact hin.out x hx
              · simp at hx; subst hx; exact he)
            clear he
            go_wp2_with fail
            go_quiet (fail)
            go_wp2
            go_roundw
            case rel => exact ⟨j + 1, by go_num, by omega, ⟨_, rfl⟩, Hin.out⟩
            case measure => simp [intOf]; omega
        · obtain rfl : j = k := by omega
          have j3 : ¬ (j : Int) < (j : Int) := by omega
          have Hbk := Lib.hid (below_drewN hbr.out q)
          have Hnk := Lib.hid hin.out
          have Hxk := Lib.hid (Hfds.out _ (List.getElem_mem hlt))
          have Hokk := Lib.hid (Hok.out _ (List.getElem_mem hlt))
          have Hnok := Lib.hid (fun (jj : Nat) (hs : xs[j].1.sort ≠ 69) (hjj : jj < xs[j].1.fields.length) h => not_kind hlt hs hjj h)
          have Hsuc := Lib.hid (fun h2 => okTo_succ hlt hto.out Hnk.out h2)
          clear hin hbl c0 c1 c2 hto
          go_wp2_with fail
          go_loopw [5] (fun i wq => ∃ m : Nat, i = .int .i64 m ∧ m ≤ (xs[j]).1.fields.length ∧ Hid (Below w.heap.size w wq) ∧ Hid (∀ f ∈ (xs[j]).1.fields.take m, refOk (tysOf xs) f.kind)) (fun i _ => (xs[j]).1.fields.length - (intOf i).toNat)
          case atStart => exact ⟨0, rfl, Nat.zero_le _, Hbk.out, by intro x hx; simp at hx⟩
          case round =>
            obtain ⟨m, rfl, hm, hbq, hin⟩ := hrel
            obtain ⟨b', off', e', hbl', d0, d1, d2⟩ := SSc.at_ (Hrow.out.below hbq.out) hlt
            simp only [Option.some.injEq, Addr.mk.injEq] at e'
            obtain ⟨rfl, rfl, _⟩ := e'
            generalize xs[j] = x at d0 d1 d2 Hxk Hokk Hnok Hsuc hin hm ⊢
            obtain ⟨t, fv⟩ := x
            simp only [] at d0 d1 d2 hm
            obtain ⟨A2, c2, e2, hfl, hr2⟩ := Hxk.out
            simp only [] at e2
            subst e2
            have Hr2 := Lib.hid hr2
            clear hr2
            have hsl := t.sort.toNat_lt
            have hfl' : t.fields.length ≤ 1000 := hfl
            by_cases hml : m < t.fields.length
            · have m1 : (0 : Int) ≤ (m : Int) := by omega
              have m2 : (m : Int) < (t.fields.length : Int) := by omega
              by_cases hs : t.sort = 69
              · have t1 : ((t.sort.toNat : Int) != 69) = false := by have := byte_eq hs; simpa using this
                have t2 : ((t.sort.toNat : Int) == 69) = true := byte_eq hs
                have Hto := Lib.hid (Hsuc.out (fun h => absurd hs h))
                clear hs
                go_wp2_with fail
                go_roundw
                case rel => exact ⟨j + 1, by go_num, by omega, Hto.out, hbq.out⟩
                case measure => simp [intOf]; omega
              · have t1 : ((t.sort.toNat : Int) != 69) = true := by have := byte_ne hs; simpa using this
                have t2 : ((t.sort.toNat : Int) == 69) = false := byte_ne hs
                obtain ⟨bf, of, rfl, hbf, g0, g1, g2, g3⟩ := SFds.at_ (Hr2.out.below hbq.out) hml
                have hfm := List.getElem_mem hml
                have Hkd := Lib.hid ((Hokk.out.2.2.1.1 _ hfm).2.2.2.2 hs).1
                have Hno := Lib.hid (fun h => Hnok.out m hs hml h)
                have Hts := Lib.hid (take_snoc t.fields m hml)
                generalize t.fields[m] = f at g0 g1 g2 g3 Hkd Hno Hts
                clear hs hfm
                have Hrf := Lib.hid (refOk_find xs f.kind)
                have Hfind := Lib.hid (fun W (hW : Below w.heap.size w W) => sFind_any (.slice (some ⟨b, off, none⟩) xs.length c) xs (refNm f.kind) W (H.out.below hW))
                go_wp2_with fail
                refine (l2CoreK_any f.kind Hkd.out _).mono ?_
                rintro e w4 ⟨rfl, rfl⟩
                go_wp2_with fail
                refine (l2RefCore_any f.kind Hkd.out _).mono ?_
                rintro e w4 ⟨rfl, rfl⟩
                go_wp2_with fail
                refine (Hfind.out _ hbq.out).mono ?_
                rintro e w4 ⟨rfl, hb4⟩
                have Hb4 := Lib.hid (hbq.out.trans (hb4.mono hbq.out.size))
                clear hb4
                cases hx : findX xs (refNm f.kind) with
                | none =>
                  unfold styR sty0
                  rcases hir : isRef f.kind with _ | _
                  · have hrk : refOk (tysOf xs) f.kind := Hrf.out.2 (fun h => by rw [hir] at h; cases h)
                    have Hin := Lib.hid (show ∀ f ∈ t.fields.take (m + 1), refOk (tysOf xs) f.kind by
                      intro g hg
                      rw [Hts.out] at hg
                      rcases List.mem_append.1 hg with hg | hg
                      · exact hin.out g hg
                      · simp at hg; subst hg; exact hrk)
                    clear hrk
                    go_wp2_with fail
                    go_roundw
                    case rel => exact ⟨m + 1, by go_num, by omega, (by (repeat (first | exact Hb4.out | refine Below.setCell ?_ (by first | exact Nat.le_refl _ | exact Hb4.out.size | (simp; done) | (simp; omega) | omega) _ | refine Below.alloc ?_ (by first | exact Nat.le_refl _ | exact Hb4.out.size | (simp; done) | (simp; omega) | omega) _ | refine Below.drew ?_))), Hin.out⟩
                    case measure => simp [intOf]; omega
                  · have Hn := Lib.hid (Hno.out (fun h => by have := Hrf.out.1 h hir; rw [hx] at this; cases this))
                    go_wp2_with fail
                    go_ret
                    exact ⟨⟨false, rfl, by simp [Hn.out]⟩, (by (repeat (first | exact Hb4.out | refine Below.setCell ?_ (by first | exact Nat.le_refl _ | exact Hb4.out.size | (simp; done) | (simp; omega) | omega) _ | refine Below.alloc ?_ (by first | exact Nat.le_refl _ | exact Hb4.out.size | (simp; done) | (simp; omega) | omega) _ | refine Below.drew ?_)))⟩
                | some y =>
                  have hrk : refOk (tysOf xs) f.kind := Hrf.out.2 (fun _ => by rw [hx]; rfl)
                  obtain ⟨ty, yv⟩ := y
                  obtain ⟨A5, c5, e5, _⟩ := Hfds.out _ (findX_mem hx).1
                  simp only [] at e5
                  subst e5
                  unfold styR styV
                  rcases hir : isRef f.kind with _ | _
                  · skip
                    have Hin := Lib.hid (show ∀ f ∈ t.fields.take (m + 1), refOk (tysOf xs) f.kind by
                      intro g hg
                      rw [Hts.out] at hg
                      rcases List.mem_append.1 hg with hg | hg
                      · exact hin.out g hg
                      · simp at hg; subst hg; exact hrk)
                    clear hrk
                    go_wp2_with fail
                    go_roundw
                    case rel => exact ⟨m + 1, by go_num, by omega, (by (repeat (first | exact Hb4.out | refine Below.setCell ?_ (by first | exact Nat.le_refl _ | exact Hb4.out.size | (simp; done) | (simp; omega) | omega) _ | refine Below.alloc ?_ (by first | exact Nat.le_refl _ | exact Hb4.out.size | (simp; done) | (simp; omega) | omega) _ | refine Below.drew ?_))), Hin.out⟩
                    case measure => simp [intOf]; omega
                  · skip
                    have Hin := Lib.hid (show ∀ f ∈ t.fields.take (m + 1), refOk (tysOf xs) f.kind by
                      intro g hg
                      rw [Hts.out] at hg
                      rcases List.mem_append.1 hg with hg | hg
                      · exact hin.out g hg
                      · simp at hg; subst hg; exact hrk)
                    clear hrk
                    go_wp2_with fail
                    go_roundw
                    case rel => exact ⟨m + 1, by go_num, by omega, (by (repeat (first | exact Hb4.out | refine Below.setCell ?_ (by first | exact Nat.le_refl _ | exact Hb4.out.size | (simp; done) | (simp; omega) | omega) _ | refine Below.alloc ?_ (by first | exact Nat.le_refl _ | exact Hb4.out.size | (simp; done) | (simp; omega) | omega) _ | refine Below.drew ?_))), Hin.out⟩
                    case measure => simp [intOf]; omega
            · obtain rfl : m = t.fields.length := by omega
              have m2 : ¬ (t.fields.length : Int) < (t.fields.length : Int) := by omega
              have Hto := Lib.hid (Hsuc.out (fun _ f hf => hin.out f (by rw [List.take_length]; exact hf)))
              go_wp2_with fail
              go_roundw
              case rel => exact ⟨j + 1, by go_num, by omega, Hto.out, hbq.out⟩
              case measure => simp [intOf]; omega
    · obtain rfl : k = xs.length := by omega
      have k2 : ¬ (xs.length : Int) < (xs.length : Int) := by omega
      have Hall := Lib.hid (okTo_all hto.out)
      clear hto
      go_wp2_with fail
      go_loopw [10] (fun i wq => ∃ j : Nat, i = .int .i64 j ∧ j ≤ xs.length ∧ Hid (Below w.heap.size w wq) ∧ Hid (∀ x ∈ xs.take j, endsN (tysOf xs) (xs.length + 1) x.1 = true)) (fun i _ => xs.length - (intOf i).toNat)
      case atStart => exact ⟨0, rfl, Nat.zero_le _, hbr.out, by intro x hx; simp at hx⟩
      case round =>
        obtain ⟨j, rfl, hj, hbq, hin⟩ := hrel
        by_cases hjl : j < xs.length
        · obtain ⟨b, off, rfl, hbl, d0, d1, d2⟩ := SSc.at_ (Hrow.out.below hbq.out) hjl
          have Hts := Lib.hid (take_snoc xs j hjl)
          have Hno := Lib.hid (fun h => not_ends (xs := xs) hjl h)
          have Hokj := Lib.hid (Hok.out _ (List.getElem_mem hjl))
          have hxj := (Hfds.out _ (List.getElem_mem hjl)).below hbq.out
          generalize xs[j] = x at d0 d1 d2 Hts Hno Hokj hxj
          obtain ⟨t, fv⟩ := x
          simp only [] at d0 d1 d2 hxj
          have Hxj := Lib.hid hxj
          obtain ⟨A2, c2, rfl, _⟩ := hxj
          have j1 : (0 : Int) ≤ (j : Int) := by omega
          have j2 : (j : Int) < (xs.length : Int) := by omega
          have He := Lib.hid (fun W (hW : Below w.heap.size w W) (hX : SFds W (.slice A2 t.fields.length c2) t.fields) => sEnds_any (.slice (some ⟨b, off, none⟩) xs.length c) (.slice A2 t.fields.length c2) xs t W (H.out.below hW) Hokj.out hX Hok.out)
          go_wp2_with fail
          refine (He.out _ hbq.out Hxj.out).mono ?_
          rintro e w4 ⟨rfl, hb4⟩
          have Hb4 := Lib.hid (hbq.out.trans (hb4.mono hbq.out.size))
          clear hb4
          rcases Bool.eq_false_or_eq_true (endsN (tysOf xs) (xs.length + 1) t) with he | he
          · have Hin := Lib.hid (show ∀ x ∈ xs.take (j + 1), endsN (tysOf xs) (xs.length + 1) x.1 = true by
              intro x hx
              rw [Hts.out] at hx
              rcases List.mem_append.1 hx with hx | hx
              · exact hin.out x hx
              · simp at hx; subst hx; exact he)
            rw [he]
            clear he
            go_wp2_with fail
            go_roundw
            case rel => exact ⟨j + 1, by go_num, by omega, Hb4.out, Hin.out⟩
            case measure => simp [intOf]; omega
          · have Hn := Lib.hid (Hno.out he)
            rw [he]
            clear he
            go_wp2_with fail
            go_ret
            exact ⟨⟨false, rfl, by simp [Hn.out]⟩, Hb4.out⟩
        · obtain rfl : j = xs.length := by omega
          have Hfin := Lib.hid (show validP (tysOf xs) from ⟨Hall.out.1, Hall.out.2, fun t ht => by
            obtain ⟨x, hx, rfl⟩ := List.mem_map.1 ht
            rw [show (tysOf xs).length = xs.length by unfold tysOf; simp]
            exact hin.out x (by rw [List.take_length]; exact hx)⟩)
          clear hin
          go_wp2_with fail
          go_ret
          exact ⟨⟨true, rfl, by simp [Hfin.out]⟩, hbq.out⟩
end Go.Proofs.YtcjfgbcdlcdeaaaDoor
/- l3Of: plain words, and appending beside rows of another type. -/
namespace Go.Proofs.YtcjfgbcdlcdeaaaDoor
open Go.RowKit
set_option linter.unusedVariables false

theorem own_types {w : World} {b1 b2 k1 k2 n1 n2 : Nat} {e1 e2 : TypeId} {v1 v2 : Value} {xs ys : List Value} (h1 : w.ownsRow b1 e1 k1 v1 n1 xs) (h2 : w.ownsRow b2 e2 k2 v2 n2 ys) (hne : e1 ≠ e2) : v1.ownBlock = none ∨ v1.ownBlock ≠ v2.ownBlock := by
  rcases h1.2 with ⟨rfl, _⟩ | ⟨g, cap, cur, rfl, _, hh, _⟩
  · exact .inl rfl
  · rcases h2.2 with ⟨rfl, _⟩ | ⟨g', cap', cur', rfl, _, hh', _⟩
    · exact .inr (by simp [Value.ownBlock])
    · refine .inr ?_
      simp only [Value.ownBlock, ne_eq, Option.some.injEq]
      rintro rfl
      rw [hh] at hh'
      simp only [Option.some.injEq, Obj.cells.injEq] at hh'
      exact hne hh'.2.1

section
variable {P : Program}
/-- wpList_appK, and what else it keeps. -/
theorem wpList_appG (w : World) {ops : Array Oper} {rest : List Oper} {o : Oper} {a : Act} {Q : Exit → Act → World → Prop} (hgd : o.guard = none) (s x : Operand) (t : TypeId)
    (ho : o.op = .call { callee := .builtin .append, args := #[s, x], argTypes := #[t, t] })
    (base : Nat) (e : TypeId) (z : Value) (k bytes : Nat) (ht : P.underlying t = some (.slice e)) (hinfo : (P.info? e).map (fun i => (i.zero, i.size, i.bytes)) = some (some z, k, bytes))
    (hzs : z.cells.size = k) (hk : 0 < k) (W : World) (us : List Value) (hul : us.length = k) (hw : w = W.alloc (.cells us.toArray e)) (hu : ∀ u ∈ us, u.oneCell' = true) (v : Value) (n : Nat) (xs : List Value) (hs : a.eval s = v) (hx : a.eval x = .slice (some ⟨W.heap.size, 0, none⟩) 1 1)
    (hown : W.ownsRow base e k v n xs)
    (h63 : n + 1 ≤ maxLen) (hbytes : (n + 1) * bytes ≤ 140737488355328) (hbase : base ≤ W.heap.size)
    (h : ∀ v' w', w'.ownsRow base e k v' (n + 1) (xs ++ us) → Below base W w' → (W.alloc (.cells us.toArray e)).grownBy w' v.ownBlock → wpList P ops Q rest (a.put o.dst v') w') : wpList P ops Q (o :: rest) a w := by
  subst hw
  obtain ⟨i0, hi, hz0, hz1, hz2⟩ := info_parts hinfo
  refine wpList_append_own _ hgd s x t ho base e i0 z k bytes ht hi hz0 hz1 hz2 hzs hk v n xs hs (hown.alloc _) ⟨W.heap.size, 0, none⟩ 1 1 us hx (by omega) ?_ hu h63 hbytes ?_ ?_
  · intro j y hj
    have e1 : (⟨W.heap.size, 0, none⟩ : Addr).add j = ⟨W.heap.size, j, none⟩ := by unfold Addr.add; split <;> simp_all
    rw [e1, World.cell?_alloc_new]
    simpa using hj
  · have : (W.alloc (.cells us.toArray e)).heap.size = W.heap.size + 1 := by simp
    omega
  · intro v' w' h1 h2 _
    exact h v' w' h1 (((Below.refl base W).alloc hbase _).grown h2 (by simp; omega) (fun k hk => (hown.lt k hk).1)) h2
end

/-- Types that were read, each with a row of the call's own for its fields. -/
def OwnTys (w : World) (base : Nat) (xs : List (Ty × Value)) : Prop := ∀ x ∈ xs, w.ownsRow base 50 4 x.2 x.1.fields.length (x.1.fields.flatMap sfc) ∧ tyOk x.1
theorem OwnTys.below {w w' : World} {base : Nat} {xs : List (Ty × Value)} (h : OwnTys w base xs) (hb : Below w.heap.size w w') : OwnTys w' base xs := fun x hx => ⟨ownsRow_below (h x hx).1 hb, (h x hx).2⟩
theorem OwnTys.grown {w w' : World} {base b2 k n : Nat} {xs : List (Ty × Value)} {v : Value} {ys : List Value} {e : TypeId} (h : OwnTys w base xs) (hv : w.ownsRow b2 e k v n ys) (hne : 50 ≠ e) (hg : w.grownBy w' v.ownBlock) : OwnTys w' base xs :=
  fun x hx => ⟨(h x hx).1.kept hg (own_types (h x hx).1 hv hne), (h x hx).2⟩
theorem OwnTys.fds {w : World} {base : Nat} {xs : List (Ty × Value)} (h : OwnTys w base xs) : ∀ x ∈ xs, SFds w x.2 x.1.fields := fun x hx => by
  obtain ⟨h1, h2⟩ := h x hx
  have hl := h2.2.2.2.1
  obtain ⟨A, c, e, hr⟩ := RowAt.ownK h1 (by unfold maxLen; omega)
  exact ⟨A, c, e, by omega, hr⟩
theorem SSc.own {w : World} {base : Nat} {v : Value} {xs : List (Ty × Value)} (h : w.ownsRow base 48 3 v xs.length (xs.flatMap stc)) (hl : xs.length ≤ 1000) (ht : OwnTys w base xs) : SSc w v xs := by
  obtain ⟨A, c, e, hr⟩ := RowAt.ownK h (by unfold maxLen; omega)
  exact ⟨A, c, e, hl, hr, ht.fds⟩

theorem typesL_step {L : List (List UInt8)} {k : Nat} (hk : k < L.length) {S : List Ty} (h : typesL L = (typesL (L.drop k)).map (S ++ ·)) :
    typesL L = (match typeS L[k] with | none => none | some t => (typesL (L.drop (k + 1))).map ((S ++ [t]) ++ ·)) := by
  rw [h, List.drop_eq_getElem_cons hk, typesL, typeS_eq]
  cases typeI L[k] with
  | none => rfl
  | some t =>
    simp only
    cases typesL (L.drop (k + 1)) with
    | none => rfl
    | some r => simp
/-- What the whole answers. -/
theorem schemaL_lines {s : List UInt8} (h : 400 < s.length ∨ linesS s = none) : schemaL s = none := by
  cases hs : schemaL s with
  | none => rfl
  | some S =>
    have := schemaL_ref.1 hs
    rcases h with h | h
    · omega
    · rw [h] at this; exact absurd this.2.1 (by simp)
theorem schemaL_valid {s : List UInt8} {S : List Ty} (h4 : s.length ≤ 400) (h : linesS s = some S) (b : Bool) (hb : b = true ↔ validP S) : schemaL s = if b = true then some S else none := by
  cases b with
  | true =>
    rw [if_pos rfl]
    exact schemaL_ref.2 ⟨h4, h, hb.1 rfl⟩
  | false =>
    rw [if_neg (by decide)]
    cases hs : schemaL s with
    | none => rfl
    | some T =>
      have := schemaL_ref.1 hs
      rw [h] at this
      obtain ⟨_, e, hv⟩ := this
      simp only [Option.some.injEq] at e
      subst e
      exact absurd (hb.2 hv) (by decide)
end Go.Proofs.YtcjfgbcdlcdeaaaDoor
/- l3Of: reads a schema that is valid. -/
namespace Go.Proofs.YtcjfgbcdlcdeaaaDoor
open Go.RowKit
set_option maxRecDepth 100000
set_option linter.unusedVariables false
set_option linter.unusedSimpArgs false
attribute [local go_sem] ba_get ba_toList ba_extract take_drop_all ByteArray.mk_append_mk

/-- What reading a schema leaves. -/
def ScPost (o : Option (List Ty)) (w : World) (e : Ending) (w' : World) : Prop :=
  (match o with
    | some S => ∃ v xs, e = .returned (.tuple #[v, .bool true]) ∧ tysOf xs = S ∧ SSc w' v xs
    | none => ∃ A n c, e = .returned (.tuple #[.slice A n c, .bool false])) ∧ Below w.heap.size w w'
theorem ScPost.no {w w' : World} {e : Ending} {o : Option (List Ty)} (ho : o = none) {A : Option Addr} {n c : Nat} (he : e = .returned (.tuple #[.slice A n c, .bool false])) (hb : Below w.heap.size w w') : ScPost o w e w' := by
  rw [ho]; exact ⟨⟨A, n, c, he⟩, hb⟩
theorem ScPost.yes {w w' : World} {e : Ending} {o : Option (List Ty)} {v : Value} {xs : List (Ty × Value)} (ho : o = some (tysOf xs)) (he : e = .returned (.tuple #[v, .bool true])) (hs : SSc w' v xs) (hb : Below w.heap.size w w') : ScPost o w e w' := by
  rw [ho]; exact ⟨⟨v, xs, he, rfl, hs⟩, hb⟩

/-- A row of texts that is never empty. -/
theorem own_texts {w : World} {base : Nat} {v : Value} {ls : List (List UInt8)} (h : w.ownsRow base 9 1 v ls.length (scells ls)) (hne : ls ≠ []) :
    ∃ g c, v = .slice (some ⟨g, 0, none⟩) ls.length c ∧ base ≤ g ∧ g < w.heap.size ∧ ∀ j (hj : j < ls.length), w.cell? ⟨g, j, none⟩ = some (.string ⟨ls[j].toArray⟩) := by
  rcases h.2 with ⟨_, h0⟩ | ⟨g, cap, cur, rfl, hb, hh, _⟩
  · cases ls with
    | nil => exact absurd rfl hne
    | cons => simp at h0
  · refine ⟨g, cap, rfl, hb, (h.lt g rfl).2, fun j hj => ?_⟩
    have := h.cells (g := g) rfl j (.string ⟨ls[j].toArray⟩) (by simp [scells, hj])
    rwa [addr0] at this
theorem linesS_long {s : List UInt8} (h : 9 < (splitL 10 s).length) : linesS s = none := if_pos (.inl h)
theorem linesS_last {s : List UInt8} (h : (splitL 10 s).getLast? ≠ some []) : linesS s = none := if_pos (.inr h)
theorem linesS_go {s : List UInt8} (h : ¬ 9 < (splitL 10 s).length) (h2 : (splitL 10 s).getLast? = some []) : linesS s = typesL (splitL 10 s).dropLast := if_neg (by rintro (h3 | h3) <;> contradiction)

set_option maxHeartbeats 2000000 in
/-- Too long, too many lines, or no line's end. -/
theorem sOf_early (s : List UInt8) (w : World) (hs : s.length ≤ 4000000) (h : 400 < s.length ∨ 9 < (splitL 10 s).length ∨ (splitL 10 s).getLast? ≠ some []) :
    Calls Tryd.prog 13 #[.string ⟨s.toArray⟩] w (ScPost (schemaL s) w) := by
  have HF := Lib.hid (show schemaL s = none by
    rcases h with h | h | h
    · exact schemaL_lines (.inl h)
    · exact schemaL_lines (.inr (linesS_long h))
    · exact schemaL_lines (.inr (linesS_last h)))
  have Hcut := Lib.hid (fun W => l3Cut_any s 10 10 rfl W hs)
  have hne := splitL_ne 10 s
  have hle := splitL_len 10 s
  generalize splitL 10 s = L at h Hcut hne hle
  go_enter Tryd.func13, Tryd.ntmps13
  go_wp2_with fail
  refine (Hcut.out _).mono ?_
  rintro e w1 ⟨v, rfl, ho, hb⟩
  obtain ⟨g, c, rfl, hg1, hg2, hcells⟩ := own_texts ho hne
  have hpos : 0 < L.length := List.length_pos_iff.2 hne
  have Hb := Lib.hid hb
  have k1 : (0 : Int) ≤ (L.length : Int) - 1 := by omega
  have k2 : (L.length : Int) - 1 < (L.length : Int) := by omega
  have k3 : ((L.length : Int) - 1).toNat = L.length - 1 := by omega
  by_cases h1 : 400 < s.length
  · have q1 : (400 : Int) < (s.length : Int) := by omega
    clear h hcells ho hb
    go_wp2_with fail
    refine bodyPost_ret (v := .tuple #[.slice none 0 0, .bool false]) (by simp [results, Tryd.results13, go_sem]) rfl ?_
    exact ScPost.no HF.out rfl Hb.out
  · have q1 : ¬ (400 : Int) < (s.length : Int) := by omega
    by_cases h2 : 9 < L.length
    · have q2 : (9 : Int) < (L.length : Int) := by omega
      clear h hcells ho hb
      go_wp2_with fail
      refine bodyPost_ret (v := .tuple #[.slice none 0 0, .bool false]) (by simp [results, Tryd.results13, go_sem]) rfl ?_
      exact ScPost.no HF.out rfl Hb.out
    · have q2 : ¬ (9 : Int) < (L.length : Int) := by omega
      have h3 : L.getLast? ≠ some [] := by rcases h with h | h | h <;> first | exact h | exact absurd h h1 | exact absurd h h2
      have cl := hcells (L.length - 1) (by omega)
      have he : ¬ (L[L.length - 1] = []) := by
        intro e
        apply h3
        rw [List.getLast?_eq_getElem?, List.getElem?_eq_getElem (by omega), e]
      have he' : (L[L.length - 1] == []) = false := by simpa using he
      clear h hcells ho hb h3
      generalize L[L.length - 1] = x at cl he he'
      go_wp2_with fail
      refine bodyPost_ret (v := .tuple #[.slice none 0 0, .bool false]) (by simp [results, Tryd.results13, go_sem]) rfl ?_
      exact ScPost.no HF.out rfl Hb.out
end Go.Proofs.YtcjfgbcdlcdeaaaDoor
/- l3Of, walked whole. -/
namespace Go.Proofs.YtcjfgbcdlcdeaaaDoor
open Go.RowKit
set_option maxRecDepth 100000
set_option linter.unusedVariables false
set_option linter.unusedSimpArgs false
attribute [local go_sem] ba_get ba_toList ba_extract take_drop_all ByteArray.mk_append_mk

set_option maxHeartbeats 2000000 in
theorem sOf_lines (s : List UInt8) (w : World) (h4 : s.length ≤ 400) (h9 : ¬ 9 < (splitL 10 s).length) (hlast : (splitL 10 s).getLast? = some []) :
    Calls Tryd.prog 13 #[.string ⟨s.toArray⟩] w (ScPost (schemaL s) w) := by
  have HL := Lib.hid (linesS_go h9 hlast)
  have Hcut := Lib.hid (fun W => l3Cut_any s 10 10 rfl W (by omega))
  have hne := splitL_ne 10 s
  have Hpl := Lib.hid (splitL_plen 10 s)
  generalize splitL 10 s = L at h9 hlast HL Hcut hne Hpl
  go_enter Tryd.func13, Tryd.ntmps13
  go_wp2_with fail
  refine (Hcut.out _).mono ?_
  rintro e w1 ⟨v, rfl, ho, hb⟩
  obtain ⟨g, c, rfl, hg1, hg2, hcells⟩ := own_texts ho hne
  have hpos : 0 < L.length := List.length_pos_iff.2 hne
  have Hb := Lib.hid hb
  have Hcells := Lib.hid hcells
  have hz1 := hb.size
  have k1 : (0 : Int) ≤ (L.length : Int) - 1 := by omega
  have k2 : (L.length : Int) - 1 < (L.length : Int) := by omega
  have k3 : ((L.length : Int) - 1).toNat = L.length - 1 := by omega
  have q1 : ¬ (400 : Int) < (s.length : Int) := by omega
  have q2 : ¬ (9 : Int) < (L.length : Int) := by omega
  have cl := hcells (L.length - 1) (by omega)
  have he : L[L.length - 1] = [] := by
    rw [List.getLast?_eq_getElem?, List.getElem?_eq_getElem (by omega)] at hlast
    simpa using hlast
  rw [he] at cl
  have hDl : L.dropLast.length = L.length - 1 := by simp
  clear he hlast hcells ho hb hne
  go_wp2_with fail
  go_loopw [5, 6] (fun v i wr => ∃ (xs : List (Ty × Value)), i = .int .i64 (xs.length : Nat) ∧ xs.length + 1 ≤ L.length ∧ Hid (typesL L.dropLast = (typesL (L.dropLast.drop xs.length)).map (tysOf xs ++ ·)) ∧
      Hid (wr.ownsRow w1.heap.size 48 3 v xs.length (xs.flatMap stc)) ∧ Hid (OwnTys wr w1.heap.size xs) ∧ Hid (Below w1.heap.size w1 wr) ∧ w1.heap.size ≤ wr.heap.size) (fun _ i _ => L.length - (intOf i).toNat)
  case atStart => exact ⟨[], rfl, by simp; omega, by simp [Hid, tysOf], World.ownsRow_lit (base := w1.heap.size) (e := 48) (size := 3) w1 #[] 0 (Nat.le_refl _) (Nat.zero_le _) rfl, by intro x hx; simp at hx, (Below.refl _ _).alloc (Nat.le_refl _) _, by simp⟩
  case round =>
    obtain ⟨xs, rfl, hxl, hty, hown, htys, hbr, hszr⟩ := hrel
    obtain ⟨A, cA, rfl, hrA⟩ := RowAt.ownK hown.out (by unfold maxLen; omega)
    have HrA := Lib.hid hrA
    have HbW := Lib.hid (Hb.out.trans (hbr.out.mono hz1))
    clear hrA
    by_cases hlt : xs.length + 1 < L.length
    · have j1 : (xs.length : Int) + 1 < (L.length : Int) := by omega
      have j2 : (0 : Int) ≤ (xs.length : Int) := by omega
      have j3 : (xs.length : Int) < (L.length : Int) := by omega
      have cell : _ := (hbr.out.cell (p := ⟨g, xs.length, none⟩) hg2).trans (Hcells.out xs.length (by omega))
      have hstep := typesL_step (L := L.dropLast) (k := xs.length) (by omega) hty.out
      have hge : L.dropLast[xs.length]'(by omega) = L[xs.length] := by simp
      rw [hge] at hstep
      have hpl := Hpl.out _ (List.getElem_mem (show xs.length < L.length by omega))
      have Hstep := Lib.hid hstep
      generalize L[xs.length] = p at cell Hstep hpl
      have Hread := Lib.hid (fun W => sReadType_any p W (by omega))
      have Htok := Lib.hid (fun t (h : typeS p = some t) => (typeI_some.1 ((typeS_eq p).symm.trans h)).1)
      generalize typeS p = o at Hstep Hread Htok
      clear hstep hge hty
      go_wp2_with fail
      refine (Hread.out _).mono ?_
      rintro e w4 ⟨hcase, hb4⟩
      have HbW4 := Lib.hid (HbW.out.trans (hb4.mono HbW.out.size))
      cases o with
      | none =>
        obtain ⟨x, a, A2, n2, c2, rfl⟩ := hcase
        have Hno := Lib.hid (show schemaL s = none from schemaL_lines (.inr (HL.out.trans Hstep.out)))
        clear hb4
        go_wp2_with fail
        refine bodyPost_ret (v := .tuple #[.slice none 0 0, .bool false]) (by simp [results, Tryd.results13, go_sem]) rfl ?_
        exact ScPost.no Hno.out rfl (by (repeat (first | exact HbW4.out | refine Below.setCell ?_ (by first | exact Nat.le_refl _ | exact HbW4.out.size | (simp; done) | (simp; omega) | omega) _ | refine Below.alloc ?_ (by first | exact Nat.le_refl _ | exact HbW4.out.size | (simp; done) | (simp; omega) | omega) _ | refine Below.drew ?_)))
      | some t =>
        obtain ⟨fv, rfl, hfv⟩ := hcase
        have htk := Htok.out t rfl
        have h8 := htk.2.2.2.1
        obtain ⟨A2, c2, rfl, _⟩ := RowAt.ownK hfv (by unfold maxLen; omega)
        have Hstep2 := Lib.hid (show typesL L.dropLast = (typesL (L.dropLast.drop (xs.length + 1))).map ((tysOf xs ++ [t]) ++ ·) from Hstep.out)
        have Hw5 := Lib.hid ((ownsRow_below hown.out hb4).alloc (.cells #[.int .u8 (t.sort.toNat : Int), .string ⟨t.name.toArray⟩, .slice A2 t.fields.length c2] 48))
        have Hbb := Lib.hid (show Below w1.heap.size w1 (w4.alloc (.cells #[.int .u8 (t.sort.toNat : Int), .string ⟨t.name.toArray⟩, .slice A2 t.fields.length c2] 48)) from (hbr.out.trans (hb4.mono hszr)).alloc (Nat.le_trans hszr hb4.size) _)
        have Hty5 := Lib.hid (show OwnTys (w4.alloc (.cells #[.int .u8 (t.sort.toNat : Int), .string ⟨t.name.toArray⟩, .slice A2 t.fields.length c2] 48)) w1.heap.size (xs ++ [(t, .slice A2 t.fields.length c2)]) from by
          intro x hx
          rcases List.mem_append.1 hx with hx | hx
          · exact ⟨(ownsRow_below ((htys.out x hx).1) hb4).alloc _, (htys.out x hx).2⟩
          · simp at hx; subst hx; exact ⟨(ownsRow_base hfv hszr).alloc _, htk⟩)
        have hz5 : w1.heap.size ≤ w4.heap.size + 1 := by have := hb4.size; omega
        have Hsz5 := Lib.hid (show (w4.alloc (.cells #[.int .u8 (t.sort.toNat : Int), .string ⟨t.name.toArray⟩, .slice A2 t.fields.length c2] 48)).heap.size = w4.heap.size + 1 from by simp)
        clear hfv htk hb4
        unfold styV
        go_wp2_with (at_builtin; go_loud (refine wpList_appG _ rfl _ _ 36 rfl w1.heap.size 48 (.agg #[.int .u8 0, .string ⟨#[]⟩, .slice none 0 0]) 3 48 Tryd.underlying36 Tryd.infoSt rfl (by decide) (w4.alloc (.cells #[.int .u8 (t.sort.toNat : Int), .string ⟨t.name.toArray⟩, .slice A2 t.fields.length c2] 48)) [.int .u8 (t.sort.toNat : Int), .string ⟨t.name.toArray⟩, .slice A2 t.fields.length c2] rfl rfl (by simp [Value.oneCell']) _ xs.length (xs.flatMap stc) rfl (by rw [Hsz5.out]; rfl) Hw5.out (by unfold maxLen; omega) (by omega) (by simp; omega) ?_; intro v5 w5 hown5 hb5 hg5; have Hty6 := Lib.hid ((Hty5.out.below ((Below.refl _ _).alloc (Nat.le_refl _) _)).grown (Hw5.out.alloc _) (by decide) hg5); have Hown5 := Lib.hid hown5; have Hb5 := Lib.hid (Hbb.out.trans hb5); clear hown5 hb5 hg5))
        go_roundw
        case rel =>
          refine ⟨xs ++ [(t, Value.slice A2 t.fields.length c2)], by rw [List.length_append]; go_num, by simp; omega, ?_, ?_, ?_, Hb5.out, Hb5.out.size⟩
          · show typesL L.dropLast = _
            rw [Hstep2.out]; simp [tysOf]
          · show World.ownsRow _ _ _ _ _ _ _
            rw [List.flatMap_append, List.length_append]
            exact Hown5.out
          · exact Hty6.out
        case measure => simp [intOf]; omega
    · have j1 : ¬ (xs.length : Int) + 1 < (L.length : Int) := by omega
      have Hlin := Lib.hid (show linesS s = some (tysOf xs) by
        rw [HL.out, hty.out, List.drop_of_length_le (by omega)]
        simp [typesL])
      have Hval := Lib.hid (fun (_ : Unit) => sValid_any (.slice A xs.length cA) xs wr (SSc.own hown.out (by omega) htys.out) (fun x hx => (htys.out x hx).2))
      have Hs := Lib.hid (SSc.own hown.out (by omega) htys.out)
      clear hty
      go_wp2_with fail
      refine (Hval.out ()).mono ?_
      rintro e w4 ⟨⟨b, rfl, hbv⟩, hb4⟩
      have Hfin := Lib.hid (schemaL_valid h4 Hlin.out b hbv)
      have HbW4 := Lib.hid (HbW.out.trans (hb4.mono HbW.out.size))
      have Hs4 := Lib.hid (Hs.out.below hb4)
      clear hb4 hbv
      cases b with
      | true =>
        go_wp2_with fail
        refine bodyPost_ret (v := .tuple #[.slice A xs.length cA, .bool true]) (by simp [results, Tryd.results13, go_sem]) rfl ?_
        exact ScPost.yes (xs := xs) Hfin.out rfl Hs4.out HbW4.out
      | false =>
        go_wp2_with fail
        refine bodyPost_ret (v := .tuple #[.slice A xs.length cA, .bool false]) (by simp [results, Tryd.results13, go_sem]) rfl ?_
        exact ScPost.no Hfin.out rfl HbW4.out

theorem sOf_any (s : List UInt8) (w : World) (hs : s.length ≤ 4000000) :
    Calls Tryd.prog 13 #[.string ⟨s.toArray⟩] w (ScPost (schemaL s) w) := by
  by_cases h1 : 400 < s.length
  · exact sOf_early s w hs (.inl h1)
  · by_cases h2 : 9 < (splitL 10 s).length
    · exact sOf_early s w hs (.inr (.inl h2))
    · by_cases h3 : (splitL 10 s).getLast? = some []
      · exact sOf_lines s w (by omega) h2 h3
      · exact sOf_early s w hs (.inr (.inr h3))
end Go.Proofs.YtcjfgbcdlcdeaaaDoor
/- l3Kind: reads a schema, and says whether a kind is one of it. -/
namespace Go.Proofs.YtcjfgbcdlcdeaaaDoor
open Go.RowKit
set_option maxRecDepth 100000
set_option linter.unusedVariables false
set_option linter.unusedSimpArgs false
attribute [local go_sem] ba_get ba_toList ba_extract take_drop_all ByteArray.mk_append_mk

/-- A schema and a kind that fit. -/
def bothL (s d : List UInt8) : Option (List Ty × Kd) :=
  match schemaL s with
  | none => none
  | some S => match kindL d with
    | none => none
    | some k => if refOk S k then some (S, k) else none
def KiPost (o : Option (List Ty × Kd)) (w : World) (e : Ending) (w' : World) : Prop :=
  (match o with
    | some x => ∃ v xs, e = .returned (.tuple #[v, .bool true]) ∧ tysOf xs = x.1 ∧ SSc w' v xs
    | none => ∃ A n c, e = .returned (.tuple #[.slice A n c, .bool false])) ∧ Below w.heap.size w w'
theorem KiPost.no {w w' : World} {e : Ending} {o : Option (List Ty × Kd)} (ho : o = none) {A : Option Addr} {n c : Nat} (he : e = .returned (.tuple #[.slice A n c, .bool false])) (hb : Below w.heap.size w w') : KiPost o w e w' := by
  rw [ho]; exact ⟨⟨A, n, c, he⟩, hb⟩

set_option maxHeartbeats 1000000 in
theorem sKind_noSchema (s d : List UInt8) (w : World) (hs : s.length ≤ 4000000) (h : schemaL s = none) :
    Calls Tryd.prog 20 #[.string ⟨s.toArray⟩, .string ⟨d.toArray⟩] w (KiPost (bothL s d) w) := by
  have HF := Lib.hid (show bothL s d = none by unfold bothL; rw [h])
  have Hof := Lib.hid (fun W => sOf_any s W hs)
  rw [h] at Hof
  clear h
  go_enter Tryd.func20, Tryd.ntmps20
  go_wp2_with fail
  refine (Hof.out _).mono ?_
  rintro e w1 ⟨⟨A, n, c, rfl⟩, hb⟩
  go_wp2_with fail
  refine bodyPost_ret (v := .tuple #[.slice none 0 0, .bool false]) (by simp [results, Tryd.results20, go_sem]) rfl ?_
  exact KiPost.no HF.out rfl hb

set_option maxHeartbeats 1000000 in
theorem sKind_noKind (s d : List UInt8) (w : World) (hs : s.length ≤ 4000000) (hd : d.length ≤ 4000000) (S : List Ty) (h : schemaL s = some S) (hk : kindL d = none) :
    Calls Tryd.prog 20 #[.string ⟨s.toArray⟩, .string ⟨d.toArray⟩] w (KiPost (bothL s d) w) := by
  have HF := Lib.hid (show bothL s d = none by unfold bothL; rw [h, hk])
  have Hof := Lib.hid (fun W => sOf_any s W hs)
  have Hkd := Lib.hid (fun W => KindOk_any d.length d W (Nat.le_refl _) (by omega))
  rw [h] at Hof
  rw [hk] at Hkd
  clear h hk
  go_enter Tryd.func20, Tryd.ntmps20
  go_wp2_with fail
  refine (Hof.out _).mono ?_
  rintro e w1 ⟨⟨v, xs, rfl, hx, hsc⟩, hb⟩
  clear hsc
  go_wp2_with fail
  refine (Hkd.out _).mono ?_
  rintro e w2 ⟨rfl, rfl⟩
  go_wp2_with fail
  refine bodyPost_ret (v := .tuple #[.slice none 0 0, .bool false]) (by simp [results, Tryd.results20, go_sem]) rfl ?_
  exact KiPost.no HF.out rfl hb

theorem KiPost.of {w w' : World} {e : Ending} {S : List Ty} {k : Kd} {v : Value} {xs : List (Ty × Value)} {b : Bool} {o : Option (List Ty × Kd)} (ho : o = if b = true then some (S, k) else none) (he : e = .returned (.tuple #[v, .bool b])) (hx : tysOf xs = S) (hs : SSc w' v xs) (hb : Below w.heap.size w w') : KiPost o w e w' := by
  cases b with
  | true => rw [ho]; exact ⟨⟨v, xs, he, hx, hs⟩, hb⟩
  | false =>
    obtain ⟨A, c, rfl, _⟩ := hs
    rw [ho]; exact ⟨⟨A, _, c, he⟩, hb⟩
set_option maxHeartbeats 1000000 in
theorem sKind_yes (s d : List UInt8) (w : World) (hs : s.length ≤ 4000000) (S : List Ty) (h : schemaL s = some S) (k : Kd) (hk : kindL d = some k) :
    Calls Tryd.prog 20 #[.string ⟨s.toArray⟩, .string ⟨d.toArray⟩] w (KiPost (bothL s d) w) := by
  obtain ⟨hok, rfl⟩ := kindL_some.1 hk
  have HF := Lib.hid (show bothL s (kdB k) = if refOk S k then some (S, k) else none by unfold bothL; rw [h, hk])
  have Hof := Lib.hid (fun W => sOf_any s W hs)
  have hl := hok.2.2
  have Hkd := Lib.hid (fun W => KindOk_any (kdB k).length (kdB k) W (Nat.le_refl _) (by omega))
  have Hok := Lib.hid hok
  rw [h] at Hof
  rw [hk] at Hkd
  clear h hk hok
  go_enter Tryd.func20, Tryd.ntmps20
  go_wp2_with fail
  refine (Hof.out _).mono ?_
  rintro e w1 ⟨⟨v, xs, rfl, hx, hsc⟩, hb⟩
  subst hx
  have Hsc := Lib.hid hsc
  obtain ⟨A, c, rfl, _, _, hfds⟩ := hsc
  have Hfds := Lib.hid hfds
  have Hb := Lib.hid hb
  clear hb hfds
  go_wp2_with fail
  refine (Hkd.out _).mono ?_
  rintro e w2 ⟨rfl, rfl⟩
  go_wp2_with fail
  refine (l2CoreK_any k Hok.out _).mono ?_
  rintro e w2 ⟨rfl, rfl⟩
  go_wp2_with fail
  refine (l2RefCore_any k Hok.out _).mono ?_
  rintro e w2 ⟨rfl, rfl⟩
  go_wp2_with fail
  refine (sFind_any _ xs (refNm k) _ Hsc.out).mono ?_
  rintro e w2 ⟨rfl, hb2⟩
  have Hb2 := Lib.hid (Hb.out.trans (hb2.mono Hb.out.size))
  have Hs2 := Lib.hid (Hsc.out.below hb2)
  clear hb2
  cases hx2 : findX xs (refNm k) with
  | none =>
    unfold styR sty0
    rcases hir : isRef k with _ | _
    · have Hr := Lib.hid (show (if refOk (tysOf xs) k then some (tysOf xs, k) else none) = if (true : Bool) = true then some (tysOf xs, k) else none by
        have := refOk_find xs k
        rw [hx2, hir] at this
        simp at this
        simp [this])
      go_wp2_with fail
      refine bodyPost_ret (v := .tuple #[.slice A xs.length c, .bool true]) (by simp [results, Tryd.results20, go_sem]) rfl ?_
      exact KiPost.of (b := true) (HF.out.trans Hr.out) rfl rfl (Hs2.out.below ((Below.refl _ _).alloc (Nat.le_refl _) _)) (by (repeat (first | exact Hb2.out | refine Below.setCell ?_ (by first | exact Nat.le_refl _ | exact Hb2.out.size | (simp; done) | (simp; omega) | omega) _ | refine Below.alloc ?_ (by first | exact Nat.le_refl _ | exact Hb2.out.size | (simp; done) | (simp; omega) | omega) _)))
    · have Hr := Lib.hid (show (if refOk (tysOf xs) k then some (tysOf xs, k) else none) = if (false : Bool) = true then some (tysOf xs, k) else none by
        have := refOk_find xs k
        rw [hx2, hir] at this
        simp at this
        simp [this])
      go_wp2_with fail
      refine bodyPost_ret (v := .tuple #[.slice A xs.length c, .bool false]) (by simp [results, Tryd.results20, go_sem]) rfl ?_
      exact KiPost.of (b := false) (HF.out.trans Hr.out) rfl rfl (Hs2.out.below ((Below.refl _ _).alloc (Nat.le_refl _) _)) (by (repeat (first | exact Hb2.out | refine Below.setCell ?_ (by first | exact Nat.le_refl _ | exact Hb2.out.size | (simp; done) | (simp; omega) | omega) _ | refine Below.alloc ?_ (by first | exact Nat.le_refl _ | exact Hb2.out.size | (simp; done) | (simp; omega) | omega) _)))
  | some y =>
    obtain ⟨ty, yv⟩ := y
    obtain ⟨A5, c5, e5, _⟩ := Hfds.out _ (findX_mem hx2).1
    simp only [] at e5
    subst e5
    unfold styR styV
    rcases hir : isRef k with _ | _
    · have Hr := Lib.hid (show (if refOk (tysOf xs) k then some (tysOf xs, k) else none) = if (true : Bool) = true then some (tysOf xs, k) else none by
        have := refOk_find xs k
        rw [hx2, hir] at this
        simp at this
        simp [this])
      go_wp2_with fail
      refine bodyPost_ret (v := .tuple #[.slice A xs.length c, .bool true]) (by simp [results, Tryd.results20, go_sem]) rfl ?_
      exact KiPost.of (b := true) (HF.out.trans Hr.out) rfl rfl (Hs2.out.below ((Below.refl _ _).alloc (Nat.le_refl _) _)) (by (repeat (first | exact Hb2.out | refine Below.setCell ?_ (by first | exact Nat.le_refl _ | exact Hb2.out.size | (simp; done) | (simp; omega) | omega) _ | refine Below.alloc ?_ (by first | exact Nat.le_refl _ | exact Hb2.out.size | (simp; done) | (simp; omega) | omega) _)))
    · have Hr := Lib.hid (show (if refOk (tysOf xs) k then some (tysOf xs, k) else none) = if (true : Bool) = true then some (tysOf xs, k) else none by
        have := refOk_find xs k
        rw [hx2, hir] at this
        simp at this
        simp [this])
      go_wp2_with fail
      refine bodyPost_ret (v := .tuple #[.slice A xs.length c, .bool true]) (by simp [results, Tryd.results20, go_sem]) rfl ?_
      exact KiPost.of (b := true) (HF.out.trans Hr.out) rfl rfl (Hs2.out.below ((Below.refl _ _).alloc (Nat.le_refl _) _)) (by (repeat (first | exact Hb2.out | refine Below.setCell ?_ (by first | exact Nat.le_refl _ | exact Hb2.out.size | (simp; done) | (simp; omega) | omega) _ | refine Below.alloc ?_ (by first | exact Nat.le_refl _ | exact Hb2.out.size | (simp; done) | (simp; omega) | omega) _)))
end Go.Proofs.YtcjfgbcdlcdeaaaDoor
/- l3Kind = bothL; what a schema and a kind that fit are good for. -/
namespace Go.Proofs.YtcjfgbcdlcdeaaaDoor
open Go.RowKit
set_option maxRecDepth 100000
set_option linter.unusedVariables false
set_option linter.unusedSimpArgs false
attribute [local go_sem] ba_get ba_toList ba_extract take_drop_all ByteArray.mk_append_mk

theorem sKind_any (s d : List UInt8) (w : World) (hs : s.length ≤ 4000000) (hd : d.length ≤ 4000000) :
    Calls Tryd.prog 20 #[.string ⟨s.toArray⟩, .string ⟨d.toArray⟩] w (KiPost (bothL s d) w) := by
  cases h : schemaL s with
  | none => exact sKind_noSchema s d w hs h
  | some S => cases hk : kindL d with
    | none => exact sKind_noKind s d w hs hd S h hk
    | some k => exact sKind_yes s d w hs S h k hk
theorem bothL_some {s d : List UInt8} {S : List Ty} {k : Kd} (h : bothL s d = some (S, k)) : schemaL s = some S ∧ kindL d = some k ∧ refOk S k := by
  unfold bothL at h
  cases h1 : schemaL s with
  | none => rw [h1] at h; cases h
  | some T => cases h2 : kindL d with
    | none => rw [h1, h2] at h; cases h
    | some q =>
      rw [h1, h2] at h
      simp only at h
      split at h
      · rename_i hr
        simp only [Option.some.injEq, Prod.mk.injEq] at h
        obtain ⟨rfl, rfl⟩ := h
        exact ⟨rfl, rfl, hr⟩
      · cases h
/-- What a schema and a kind that fit are good for. -/
theorem bothL_good {s d : List UInt8} {S : List Ty} {k : Kd} (h : bothL s d = some (S, k)) : scOk S ∧ s.length ≤ 400 ∧ scB S = s ∧ kdOk k ∧ kdB k = d ∧ refOk S k := by
  obtain ⟨h1, h2, h3⟩ := bothL_some h
  obtain ⟨a1, a2, a3⟩ := schemaL_some.1 h1
  obtain ⟨b1, b2⟩ := kindL_some.1 h2
  exact ⟨a1, a2, a3, b1, b2, h3⟩
end Go.Proofs.YtcjfgbcdlcdeaaaDoor
/- Drawn schemas, and kinds of a schema. -/
namespace Go.Proofs.YtcjfgbcdlcdeaaaDoor
open Go.RowKit
set_option maxRecDepth 100000
set_option linter.unusedVariables false
set_option linter.unusedSimpArgs false
attribute [local go_sem] ba_get ba_toList ba_extract take_drop_all ByteArray.mk_append_mk

theorem sSchemaOk_any (s : List UInt8) (w : World) (hs : s.length ≤ 4000000) :
    Calls Tryd.prog 23 #[.string ⟨s.toArray⟩] w fun e w' => e = .returned (.bool (schemaL s).isSome) ∧ Below w.heap.size w w' := by
  have H := Lib.hid (fun W => sOf_any s W hs)
  generalize schemaL s = o at *
  go_enter Tryd.func23, Tryd.ntmps23
  go_wp2_with fail
  refine (H.out _).mono ?_
  rintro e w1 ⟨hc, hb⟩
  have Hb := Lib.hid hb
  clear hb
  cases o with
  | none =>
    obtain ⟨A, n, c, rfl⟩ := hc
    go_wp2_with fail
    go_ret
    exact ⟨rfl, Hb.out⟩
  | some S =>
    obtain ⟨v, xs, rfl, _, _⟩ := hc
    go_wp2_with fail
    go_ret
    exact ⟨rfl, Hb.out⟩

def sortTs : List (List UInt8) := [[82], [85], [85], [69]]
def sortTs2 : List (List UInt8) := [[82], [69], [85]]
def insTs : List (List UInt8) := [[], [44], [58], [49], [10]]
def someTs : List (List UInt8) := [[64, 97, 59], [64, 97, 59], [64, 97, 59], [64, 98, 59], [64, 99, 59], [91, 110], [63, 64, 97, 59], [110], [116], [91, 64, 98, 59], [63, 91, 102]]
def plainSc : List UInt8 := [82, 97, 61, 49, 58, 112, 58, 110, 61, 53, 44, 50, 58, 113, 58, 91, 116, 44, 52, 58, 114, 58, 63, 64, 97, 59, 44, 53, 58, 115, 58, 64, 98, 59, 10, 85, 98, 61, 49, 58, 112, 58, 110, 44, 51, 58, 113, 58, 64, 97, 59, 10, 69, 99, 61, 49, 58, 112, 44, 50, 58, 113, 10]
/-- A schema that is drawn: short, its runs of signs short. -/
def DSc (l : List UInt8) : Prop := l.length ≤ 270 ∧ NoRun l
/-- .. before a byte may be turned. -/
def DSc0 (l : List UInt8) : Prop := l.length ≤ 264 ∧ 1 ≤ l.length ∧ ∃ st, mach (0, 0) l = some st
theorem DSc0.three {a b c : List UInt8} (ha : LSafe a ∧ a.length ≤ 88 ∧ 1 ≤ a.length) (hb : LSafe b ∧ b.length ≤ 88 ∧ 1 ≤ b.length) (hc : LSafe c ∧ c.length ≤ 88 ∧ 1 ≤ c.length) : DSc0 (a ++ b ++ c) := by
  obtain ⟨u, e, _⟩ := ((ha.1.app hb.1).app hc.1) 0 (by omega)
  exact ⟨by simp only [List.length_append]; omega, by simp only [List.length_append]; omega, _, e⟩
theorem DSc0.plain : DSc0 plainSc := ⟨by decide, by decide, (0, 0), by decide⟩
theorem DSc0.out {l : List UInt8} (h : DSc0 l) : DSc l := ⟨by have := h.1; omega, by obtain ⟨_, _, st, e⟩ := h; exact NoRun.of_mach e⟩
theorem DSc0.turned {l i : List UInt8} {k : Nat} (h : DSc0 l) (hk : k < l.length) (hi : i ∈ insTs) : DSc (l.take k ++ (i ++ l.drop (k + 1))) := by
  obtain ⟨h1, _, s, e⟩ := h
  have hil : i.length ≤ 1 := (show ∀ i ∈ insTs, i.length ≤ 1 by decide) i hi
  refine ⟨by simp only [List.length_append, List.length_take, List.length_drop]; omega, ?_⟩
  have e2 : l = l.take k ++ l[k] :: l.drop (k + 1) := by
    rw [List.getElem_cons_drop, List.take_append_drop]
  rw [e2] at e
  refine NoRun.turned e i ?_
  have : i = [] ∨ i = [44] ∨ i = [58] ∨ i = [49] ∨ i = [10] := by simpa [insTs] using hi
  rcases this with rfl | rfl | rfl | rfl | rfl
  · exact .inl rfl
  · exact .inr ⟨44, rfl, by decide, by decide⟩
  · exact .inr ⟨58, rfl, by decide, by decide⟩
  · exact .inr ⟨49, rfl, by decide, by decide⟩
  · exact .inr ⟨10, rfl, by decide, by decide⟩

theorem sort_of {s : List UInt8} (h : s ∈ sortTs ∨ s ∈ sortTs2) : ∃ c : UInt8, s = [c] ∧ (c = 82 ∨ c = 85 ∨ c = 69) := by
  have hd : (∀ s ∈ sortTs, s = [82] ∨ s = [85] ∨ s = [69]) ∧ (∀ s ∈ sortTs2, s = [82] ∨ s = [85] ∨ s = [69]) := by decide
  have : s = [82] ∨ s = [85] ∨ s = [69] := h.elim (hd.1 s) (hd.2 s)
  rcases this with rfl | rfl | rfl
  · exact ⟨82, rfl, .inl rfl⟩
  · exact ⟨85, rfl, .inr (.inl rfl)⟩
  · exact ⟨69, rfl, .inr (.inr rfl)⟩

/-- The end of a drawing: a byte may be turned. -/
def EndPost (s : List UInt8) (w : World) (g q : Nat) (e : Ending) (w' : World) : Prop := DrPost DSc w g q 6 e w'

set_option maxHeartbeats 4000000 in
theorem l91Schema_any (g p : Nat) (w : World) (h : Rdr w g p) (hp : p ≤ 1000000) :
    Calls Tryd.prog 11 #[.pointer (some ⟨g, 0, none⟩)] w (DrPost DSc w g p 170) := by
  have hgl := h.lt
  have HR := Lib.hid h
  clear h
  go_enter Tryd.func11, Tryd.ntmps11
  go_wp2_with fail
  refine (l91Type_any g p 82 97 _ HR.out (by omega) (.inl rfl) (by decide)).mono ?_
  rintro e w1 ⟨l1, q1, rfl, hl1, hq1, hR1, hg1⟩
  have hg1l := hR1.lt
  have HR1 := Lib.hid hR1
  have Hg1 := Lib.hid hg1
  have Hl1 := Lib.hid hl1
  have l1l := hl1.2.1
  clear hR1 hg1 hl1 HR
  go_wp2_with fail
  refine (pick_any g q1 4 _ (HR1.out.dalloc _) (by omega) (by omega) (by omega)).mono ?_
  rintro e w2 ⟨x, rfl, hx1, _, hR2, hg2⟩
  have hx : x < sortTs.length := by show x < 4; omega
  obtain ⟨s2, hsm, hcell⟩ := ((TRow.new w1 sortTs).grown hg2 (by omega)).cell hx
  obtain ⟨c2, rfl, hc2⟩ := sort_of (.inl hsm)
  have i1 : (0 : Int) ≤ (x : Int) := by omega
  have i2 : (x : Int) < 4 := by omega
  have HR2 := Lib.hid hR2
  have Hg2 := Lib.hid (dgrown_trans Hg1.out (dgrown_trans (World.grownBy_alloc w1 _ (some g)) hg2))
  have Hc2 := Lib.hid hc2
  clear hR2 hg2 hsm hc2 HR1 Hg1
  go_wp2_with fail
  refine (l91Type_any g (q1 + 1) c2 98 _ HR2.out (by omega) Hc2.out (by decide)).mono ?_
  rintro e w3 ⟨l3, q3, rfl, hl3, hq3, hR3, hg3⟩
  have hg3l := hR3.lt
  have HR3 := Lib.hid hR3
  have Hg3 := Lib.hid (dgrown_trans Hg2.out hg3)
  have Hl3 := Lib.hid hl3
  have l3l := hl3.2.1
  clear hR3 hg3 hl3 HR2 Hg2 hcell
  go_wp2_with fail
  refine (pick_any g q3 3 _ (HR3.out.dalloc _) (by omega) (by omega) (by omega)).mono ?_
  rintro e w4 ⟨y, rfl, hy1, _, hR4, hg4⟩
  have hy : y < sortTs2.length := by show y < 3; omega
  obtain ⟨s4, hsm, hcell⟩ := ((TRow.new w3 sortTs2).grown hg4 (by omega)).cell hy
  obtain ⟨c4, rfl, hc4⟩ := sort_of (.inr hsm)
  have j1 : (0 : Int) ≤ (y : Int) := by omega
  have j2 : (y : Int) < 3 := by omega
  have HR4 := Lib.hid hR4
  have Hg4 := Lib.hid (dgrown_trans Hg3.out (dgrown_trans (World.grownBy_alloc w3 _ (some g)) hg4))
  have Hc4 := Lib.hid hc4
  clear hR4 hg4 hsm hc4 HR3 Hg3
  go_wp2_with fail
  refine (l91Type_any g (q3 + 1) c4 99 _ HR4.out (by omega) Hc4.out (by decide)).mono ?_
  rintro e w5 ⟨l5, q5, rfl, hl5, hq5, hR5, hg5⟩
  have hg5l := hR5.lt
  have HR5 := Lib.hid hR5
  have Hg5 := Lib.hid (dgrown_trans Hg4.out hg5)
  have l5l := hl5.2.1
  have Hs := Lib.hid (DSc0.three Hl1.out Hl3.out hl5)
  have hsl : (l1 ++ (l3 ++ l5)).length ≤ 264 := by simp only [List.length_append]; omega
  rw [List.append_assoc] at Hs
  clear hR5 hg5 hl5 HR4 Hg4 hcell
  have Hsok := Lib.hid (fun W => sSchemaOk_any (l1 ++ (l3 ++ l5)) W (by omega))
  go_wp2_with fail
  refine (Hsok.out _).mono ?_
  rintro e w6 ⟨rfl, hb6⟩
  have HR6 := Lib.hid (HR5.out.below hb6)
  have Hg6 := Lib.hid (dgrown_trans Hg5.out (dgrown_below hb6 (some g)))
  have hg6l := HR6.out.lt
  clear hb6 HR5 Hg5 Hl1 Hl3
  generalize (schemaL (l1 ++ (l3 ++ l5))).isSome = ok at *
  cases ok with
  | true =>
    clear Hsok
    generalize l1 ++ (l3 ++ l5) = s at hsl Hs ⊢
    have hs1 : 1 ≤ s.length := Hs.out.2.1
    go_wp2_with fail
    refine (pick_any g q5 24 _ HR6.out (by omega) (by omega) (by omega)).mono ?_
    rintro e w8 ⟨z, rfl, hz1, _, hR8, hg8⟩
    have HR8 := Lib.hid hR8
    have Hg8 := Lib.hid (dgrown_trans Hg6.out hg8)
    have hg8l := hR8.lt
    clear hR8 hg8 HR6 Hg6 hz1
    by_cases hz0 : z = 0
    · subst hz0
      go_wp2_with fail
      refine (pick_any g (q5 + 1) _ _ HR8.out (by omega) (by omega) (by omega)).mono ?_
      rintro e w9 ⟨k, rfl, hk1, _, hR9, hg9⟩
      have hk1 := hk1 (by omega)
      have hk : k < s.length := by omega
      have i5 : (0 : Int) ≤ (k : Int) := by omega
      have i6 : (k : Int) < (s.length : Int) := by omega
      obtain ⟨q9, hq9, HR9⟩ : ∃ q9, q9 ≤ q5 + 2 ∧ Hid (Rdr w9 g q9) := ⟨_, by omega, Lib.hid hR9⟩
      have Hg9 := Lib.hid (dgrown_trans Hg8.out hg9)
      clear hR9 hg9 HR8 Hg8
      have hwr : IntKind.i64.wrap ((k : Int) + 1) = (k : Int) + 1 := IntWalk.i64_in _ (by omega)
      go_wp2_with fail
      refine wp_region_slots3 [38, 39, 40, 41, 42, 43, 44, 45, 46, 47, 48, 49, 50, 51, 2] (by kernel_rfl) (by kernel_rfl) (by kernel_rfl) (fun u => by dsimp only [frameOf, setMany, List.set, Nat.zero_add, Nat.reduceAdd])
        (fun ix v W => match ix with | 0 => v = .string ⟨(s : List UInt8).toArray⟩ | 1 => v = .int .i64 (k : Int) | 2 => v = .string ⟨(s.take k : List UInt8).toArray⟩ | 3 => ∃ b, v = .slice (some ⟨b, 0, none⟩) 5 5 | 4 => v = .pointer (some ⟨g, 0, none⟩) | 5 => ∃ y : Nat, v = .int .i64 (y : Int) ∧ y < 5 | 6 => ∃ b y, v = .pointer (some ⟨b, y, none⟩) | 7 => ∃ i, i ∈ insTs ∧ v = .string ⟨i.toArray⟩ | 8 => ∃ i, i ∈ insTs ∧ v = .string ⟨(s.take k ++ i).toArray⟩ | 9 => v = .string ⟨(s : List UInt8).toArray⟩ | 10 => v = .int .i64 (k : Int) | 11 => v = .int .i64 ((k : Int) + 1) | 12 => v = .string ⟨(s.drop (k + 1) : List UInt8).toArray⟩ | 13 => ∃ i, i ∈ insTs ∧ v = .string ⟨(s.take k ++ (i ++ s.drop (k + 1))).toArray⟩ | 14 => ∃ i, i ∈ insTs ∧ v = .string ⟨(s.take k ++ (i ++ s.drop (k + 1))).toArray⟩ | _ => True)
        (fun L U W => Rdr W g (if L 5 = true then q9 + 1 else q9) ∧ w.grownBy W (some g) ∧ (L 3 = true → ∃ b, U 3 = .slice (some ⟨b, 0, none⟩) 5 5 ∧ b ≠ g ∧ TRow W b insTs) ∧ (L 6 = true → ∃ b y, U 6 = .pointer (some ⟨b, y, none⟩) ∧ b ≠ g ∧ y < 5 ∧ TRow W b insTs)) (fun _ _ => True) (fun _ _ _ _ _ h => h) (⟨by simpa using HR9.out.ddrew, dgrown_drew Hg9.out, fun h => Bool.noConfusion h, fun h => Bool.noConfusion h⟩) ?_ ?_
      · repeat (first | exact Steps.nil | (refine Steps.cons ?_ ?_; rotate_left))
        all_goals
          rintro L U W hL hpre hR hun hdep K hK
          have HR := Lib.hid hR
          obtain ⟨hR0, hG0, R3, R6⟩ := HR.out
          clear hun hdep hR
          first | (simp [Region.binds] at hpre; done) | simp [Region.binds] at hpre | clear hpre
        iterate 2
          · go_simp
            first | exact hK _ _ _ rfl trivial HR.out rfl | exact hK _ _ _ rfl trivial HR.out (by simp [Act.put, hpre, hwr]) | exact hK undef _ _ trivial trivial HR.out (by simp [Act.put, hpre, hwr]) | exact hK _ _ _ trivial trivial HR.out rfl | exact hK _ _ _ trivial trivial HR.out (by simp [Act.put, hpre, hwr])
        · go_simp
          rw [if_pos (by omega)]
          go_simp
          first | exact hK _ _ _ rfl trivial HR.out rfl | exact hK _ _ _ rfl trivial HR.out (by simp [Act.put, hpre])
        · have hgl := hR0.lt
          go_simp
          exact hK _ _ _ ⟨_, rfl⟩ trivial ⟨by simpa using hR0.dalloc _, dgrown_trans hG0 (World.grownBy_alloc W _ _), fun _ => ⟨W.heap.size, rfl, by omega, TRow.new W insTs⟩, fun h => by obtain ⟨b, y, q1, q2, q3, q4⟩ := R6 (by simpa using h); exact ⟨b, y, by simpa using q1, q2, q3, q4.grown (World.grownBy_alloc W _ (some g)) q2⟩⟩ rfl
        · go_simp
          first | exact hK _ _ _ rfl trivial HR.out rfl | exact hK _ _ _ rfl trivial HR.out (by simp [Act.put, hpre, hwr]) | exact hK undef _ _ trivial trivial HR.out (by simp [Act.put, hpre, hwr]) | exact hK _ _ _ trivial trivial HR.out rfl | exact hK _ _ _ trivial trivial HR.out (by simp [Act.put, hpre, hwr])
        · go_simp
          have hR1 : Rdr W g q9 := by simpa [hL] using hR0
          refine (pick_any g q9 5 W hR1 (by omega) (by omega) (by omega)).mono ?_
          rintro e w' ⟨y, rfl, hy1, _, hRy, hgy⟩
          exact hK _ _ _ ⟨y, rfl, by omega⟩ trivial ⟨by simpa using hRy, dgrown_trans hG0 hgy, fun h => by obtain ⟨b, q1, q2, q3⟩ := R3 (by simpa using h); exact ⟨b, by simpa using q1, q2, q3.grown hgy q2⟩, fun h => by obtain ⟨b, y, q1, q2, q3, q4⟩ := R6 (by simpa using h); exact ⟨b, y, by simpa using q1, q2, q3, q4.grown hgy q2⟩⟩ (by simp [Act.put, hpre])
        · obtain ⟨⟨l3, _⟩, l5, y, u5, hy⟩ := hpre
          obtain ⟨b, u3, hb, hT⟩ := R3 l3
          have y1 : (0 : Int) ≤ (y : Int) := by omega
          have y2 : (y : Int) < 5 := by omega
          go_simp
          exact hK _ _ _ ⟨b, y, rfl⟩ trivial ⟨by simpa using hR0, hG0, fun h => by obtain ⟨b, q1, q2, q3⟩ := R3 (by simpa using h); exact ⟨b, by simpa using q1, q2, q3⟩, fun _ => ⟨b, y, rfl, hb, hy, hT⟩⟩ (by simp [Act.put, u3, u5])
        · obtain ⟨l6, _⟩ := hpre
          obtain ⟨b, y, u6, hb, hy, hT⟩ := R6 l6
          obtain ⟨s7, hm7, hc7⟩ := hT.cell (show y < insTs.length from hy)
          go_simp
          exact hK _ _ _ ⟨s7, hm7, rfl⟩ trivial ⟨by simpa using hR0, hG0, fun h => by obtain ⟨b, q1, q2, q3⟩ := R3 (by simpa using h); exact ⟨b, by simpa using q1, q2, q3⟩, fun h => by obtain ⟨b, y, q1, q2, q3, q4⟩ := R6 (by simpa using h); exact ⟨b, y, by simpa using q1, q2, q3, q4⟩⟩ (by simp [Act.put, u6])
        · obtain ⟨⟨_, u2⟩, _, i, hi, u7⟩ := hpre
          have hil : i.length ≤ 1 := (show ∀ i ∈ insTs, i.length ≤ 1 by decide) i hi
          go_simp
          rw [if_neg (by simp; omega)]
          go_simp
          exact hK _ _ _ ⟨i, hi, rfl⟩ trivial ⟨by simpa using hR0, hG0, fun h => by obtain ⟨b, q1, q2, q3⟩ := R3 (by simpa using h); exact ⟨b, by simpa using q1, q2, q3⟩, fun h => by obtain ⟨b, y, q1, q2, q3, q4⟩ := R6 (by simpa using h); exact ⟨b, y, by simpa using q1, q2, q3, q4⟩⟩ (by simp [Act.put, u2, u7])
        iterate 3
          · go_simp
            first | exact hK _ _ _ rfl trivial HR.out rfl | exact hK _ _ _ rfl trivial HR.out (by simp [Act.put, hpre, hwr]) | exact hK undef _ _ trivial trivial HR.out (by simp [Act.put, hpre, hwr]) | exact hK _ _ _ trivial trivial HR.out rfl | exact hK _ _ _ trivial trivial HR.out (by simp [Act.put, hpre, hwr])
        · go_simp
          rw [if_pos (by omega)]
          go_simp
          first | exact hK _ _ _ rfl trivial HR.out rfl | exact hK _ _ _ rfl trivial HR.out (by simp [Act.put, hpre])
        · obtain ⟨⟨_, i, hi, u8⟩, _, u12⟩ := hpre
          have hil : i.length ≤ 1 := (show ∀ i ∈ insTs, i.length ≤ 1 by decide) i hi
          go_simp
          rw [if_neg (by simp; omega)]
          go_simp
          exact hK _ _ _ ⟨i, hi, rfl⟩ trivial ⟨by simpa using hR0, hG0, fun h => by obtain ⟨b, q1, q2, q3⟩ := R3 (by simpa using h); exact ⟨b, by simpa using q1, q2, q3⟩, fun h => by obtain ⟨b, y, q1, q2, q3, q4⟩ := R6 (by simpa using h); exact ⟨b, y, by simpa using q1, q2, q3, q4⟩⟩ (by simp [Act.put, u8, u12])
        · obtain ⟨⟨_, i, hi, u13⟩, hrest⟩ := hpre
          go_simp
          exact hK _ _ _ ⟨i, hi, rfl⟩ trivial ⟨by simpa using hR0, hG0, fun h => by obtain ⟨b, q1, q2, q3⟩ := R3 (by simpa using h); exact ⟨b, by simpa using q1, q2, q3⟩, fun h => by obtain ⟨b, y, q1, q2, q3, q4⟩ := R6 (by simpa using h); exact ⟨b, y, by simpa using q1, q2, q3, q4⟩⟩ (by simp [Act.put, u13, hrest])
      · rintro L U W hL hφ hR
        obtain ⟨i, hi, e14⟩ := hφ 14 (by decide)
        simp only [e14]
        have hR0 : Rdr W g (q9 + 1) := by simpa [hL 5 (by decide)] using hR.1
        have hG0 := hR.2.1
        clear hφ hL hR
        go_wp2_with fail
        go_ret
        exact ⟨_, q9 + 1, rfl, DSc0.turned Hs.out hk hi, by omega, hR0, hG0⟩
    · have tz : ((z : Int) == 0) = false := by simp; omega
      clear hz0
      go_wp2_with fail
      go_ret
      exact ⟨s, q5 + 1, rfl, Hs.out.out, by omega, HR8.out, Hg8.out⟩
  | false =>
    go_wp2_with fail
    refine (pick_any g q5 8 _ HR6.out (by omega) (by omega) (by omega)).mono ?_
    rintro e w7 ⟨u, rfl, hu1, _, hR7, hg7⟩
    have HR7 := Lib.hid hR7
    have Hg7 := Lib.hid (dgrown_trans Hg6.out hg7)
    have hg7l := hR7.lt
    clear hR7 hg7 HR6 Hg6 hu1
    by_cases hu0 : u = 0
    · subst hu0
      clear Hsok
      generalize l1 ++ (l3 ++ l5) = s at hsl Hs ⊢
      have hs1 : 1 ≤ s.length := Hs.out.2.1
      go_wp2_with fail
      refine (pick_any g (q5 + 1) 24 _ HR7.out (by omega) (by omega) (by omega)).mono ?_
      rintro e w8 ⟨z, rfl, hz1, _, hR8, hg8⟩
      have HR8 := Lib.hid hR8
      have Hg8 := Lib.hid (dgrown_trans Hg7.out hg8)
      have hg8l := hR8.lt
      clear hR8 hg8 HR7 Hg7 hz1
      by_cases hz0 : z = 0
      · subst hz0
        go_wp2_with fail
        refine (pick_any g ((q5 + 1) + 1) _ _ HR8.out (by omega) (by omega) (by omega)).mono ?_
        rintro e w9 ⟨k, rfl, hk1, _, hR9, hg9⟩
        have hk1 := hk1 (by omega)
        have hk : k < s.length := by omega
        have i5 : (0 : Int) ≤ (k : Int) := by omega
        have i6 : (k : Int) < (s.length : Int) := by omega
        obtain ⟨q9, hq9, HR9⟩ : ∃ q9, q9 ≤ (q5 + 1) + 2 ∧ Hid (Rdr w9 g q9) := ⟨_, by omega, Lib.hid hR9⟩
        have Hg9 := Lib.hid (dgrown_trans Hg8.out hg9)
        clear hR9 hg9 HR8 Hg8
        have hwr : IntKind.i64.wrap ((k : Int) + 1) = (k : Int) + 1 := IntWalk.i64_in _ (by omega)
        go_wp2_with fail
        refine wp_region_slots3 [38, 39, 40, 41, 42, 43, 44, 45, 46, 47, 48, 49, 50, 51, 2] (by kernel_rfl) (by kernel_rfl) (by kernel_rfl) (fun u => by dsimp only [frameOf, setMany, List.set, Nat.zero_add, Nat.reduceAdd])
          (fun ix v W => match ix with | 0 => v = .string ⟨(s : List UInt8).toArray⟩ | 1 => v = .int .i64 (k : Int) | 2 => v = .string ⟨(s.take k : List UInt8).toArray⟩ | 3 => ∃ b, v = .slice (some ⟨b, 0, none⟩) 5 5 | 4 => v = .pointer (some ⟨g, 0, none⟩) | 5 => ∃ y : Nat, v = .int .i64 (y : Int) ∧ y < 5 | 6 => ∃ b y, v = .pointer (some ⟨b, y, none⟩) | 7 => ∃ i, i ∈ insTs ∧ v = .string ⟨i.toArray⟩ | 8 => ∃ i, i ∈ insTs ∧ v = .string ⟨(s.take k ++ i).toArray⟩ | 9 => v = .string ⟨(s : List UInt8).toArray⟩ | 10 => v = .int .i64 (k : Int) | 11 => v = .int .i64 ((k : Int) + 1) | 12 => v = .string ⟨(s.drop (k + 1) : List UInt8).toArray⟩ | 13 => ∃ i, i ∈ insTs ∧ v = .string ⟨(s.take k ++ (i ++ s.drop (k + 1))).toArray⟩ | 14 => ∃ i, i ∈ insTs ∧ v = .string ⟨(s.take k ++ (i ++ s.drop (k + 1))).toArray⟩ | _ => True)
          (fun L U W => Rdr W g (if L 5 = true then q9 + 1 else q9) ∧ w.grownBy W (some g) ∧ (L 3 = true → ∃ b, U 3 = .slice (some ⟨b, 0, none⟩) 5 5 ∧ b ≠ g ∧ TRow W b insTs) ∧ (L 6 = true → ∃ b y, U 6 = .pointer (some ⟨b, y, none⟩) ∧ b ≠ g ∧ y < 5 ∧ TRow W b insTs)) (fun _ _ => True) (fun _ _ _ _ _ h => h) (⟨by simpa using HR9.out.ddrew, dgrown_drew Hg9.out, fun h => Bool.noConfusion h, fun h => Bool.noConfusion h⟩) ?_ ?_
        · repeat (first | exact Steps.nil | (refine Steps.cons ?_ ?_; rotate_left))
          all_goals
            rintro L U W hL hpre hR hun hdep K hK
            have HR := Lib.hid hR
            obtain ⟨hR0, hG0, R3, R6⟩ := HR.out
            clear hun hdep hR
            first | (simp [Region.binds] at hpre; done) | simp [Region.binds] at hpre | clear hpre
          iterate 2
            · go_simp
              first | exact hK _ _ _ rfl trivial HR.out rfl | exact hK _ _ _ rfl trivial HR.out (by simp [Act.put, hpre, hwr]) | exact hK undef _ _ trivial trivial HR.out (by simp [Act.put, hpre, hwr]) | exact hK _ _ _ trivial trivial HR.out rfl | exact hK _ _ _ trivial trivial HR.out (by simp [Act.put, hpre, hwr])
          · go_simp
            rw [if_pos (by omega)]
            go_simp
            first | exact hK _ _ _ rfl trivial HR.out rfl | exact hK _ _ _ rfl trivial HR.out (by simp [Act.put, hpre])
          · have hgl := hR0.lt
            go_simp
            exact hK _ _ _ ⟨_, rfl⟩ trivial ⟨by simpa using hR0.dalloc _, dgrown_trans hG0 (World.grownBy_alloc W _ _), fun _ => ⟨W.heap.size, rfl, by omega, TRow.new W insTs⟩, fun h => by obtain ⟨b, y, q1, q2, q3, q4⟩ := R6 (by simpa using h); exact ⟨b, y, by simpa using q1, q2, q3, q4.grown (World.grownBy_alloc W _ (some g)) q2⟩⟩ rfl
          · go_simp
            first | exact hK _ _ _ rfl trivial HR.out rfl | exact hK _ _ _ rfl trivial HR.out (by simp [Act.put, hpre, hwr]) | exact hK undef _ _ trivial trivial HR.out (by simp [Act.put, hpre, hwr]) | exact hK _ _ _ trivial trivial HR.out rfl | exact hK _ _ _ trivial trivial HR.out (by simp [Act.put, hpre, hwr])
          · go_simp
            have hR1 : Rdr W g q9 := by simpa [hL] using hR0
            refine (pick_any g q9 5 W hR1 (by omega) (by omega) (by omega)).mono ?_
            rintro e w' ⟨y, rfl, hy1, _, hRy, hgy⟩
            exact hK _ _ _ ⟨y, rfl, by omega⟩ trivial ⟨by simpa using hRy, dgrown_trans hG0 hgy, fun h => by obtain ⟨b, q1, q2, q3⟩ := R3 (by simpa using h); exact ⟨b, by simpa using q1, q2, q3.grown hgy q2⟩, fun h => by obtain ⟨b, y, q1, q2, q3, q4⟩ := R6 (by simpa using h); exact ⟨b, y, by simpa using q1, q2, q3, q4.grown hgy q2⟩⟩ (by simp [Act.put, hpre])
          · obtain ⟨⟨l3, _⟩, l5, y, u5, hy⟩ := hpre
            obtain ⟨b, u3, hb, hT⟩ := R3 l3
            have y1 : (0 : Int) ≤ (y : Int) := by omega
            have y2 : (y : Int) < 5 := by omega
            go_simp
            exact hK _ _ _ ⟨b, y, rfl⟩ trivial ⟨by simpa using hR0, hG0, fun h => by obtain ⟨b, q1, q2, q3⟩ := R3 (by simpa using h); exact ⟨b, by simpa using q1, q2, q3⟩, fun _ => ⟨b, y, rfl, hb, hy, hT⟩⟩ (by simp [Act.put, u3, u5])
          · obtain ⟨l6, _⟩ := hpre
            obtain ⟨b, y, u6, hb, hy, hT⟩ := R6 l6
            obtain ⟨s7, hm7, hc7⟩ := hT.cell (show y < insTs.length from hy)
            go_simp
            exact hK _ _ _ ⟨s7, hm7, rfl⟩ trivial ⟨by simpa using hR0, hG0, fun h => by obtain ⟨b, q1, q2, q3⟩ := R3 (by simpa using h); exact ⟨b, by simpa using q1, q2, q3⟩, fun h => by obtain ⟨b, y, q1, q2, q3, q4⟩ := R6 (by simpa using h); exact ⟨b, y, by simpa using q1, q2, q3, q4⟩⟩ (by simp [Act.put, u6])
          · obtain ⟨⟨_, u2⟩, _, i, hi, u7⟩ := hpre
            have hil : i.length ≤ 1 := (show ∀ i ∈ insTs, i.length ≤ 1 by decide) i hi
            go_simp
            rw [if_neg (by simp; omega)]
            go_simp
            exact hK _ _ _ ⟨i, hi, rfl⟩ trivial ⟨by simpa using hR0, hG0, fun h => by obtain ⟨b, q1, q2, q3⟩ := R3 (by simpa using h); exact ⟨b, by simpa using q1, q2, q3⟩, fun h => by obtain ⟨b, y, q1, q2, q3, q4⟩ := R6 (by simpa using h); exact ⟨b, y, by simpa using q1, q2, q3, q4⟩⟩ (by simp [Act.put, u2, u7])
          iterate 3
            · go_simp
              first | exact hK _ _ _ rfl trivial HR.out rfl | exact hK _ _ _ rfl trivial HR.out (by simp [Act.put, hpre, hwr]) | exact hK undef _ _ trivial trivial HR.out (by simp [Act.put, hpre, hwr]) | exact hK _ _ _ trivial trivial HR.out rfl | exact hK _ _ _ trivial trivial HR.out (by simp [Act.put, hpre, hwr])
          · go_simp
            rw [if_pos (by omega)]
            go_simp
            first | exact hK _ _ _ rfl trivial HR.out rfl | exact hK _ _ _ rfl trivial HR.out (by simp [Act.put, hpre])
          · obtain ⟨⟨_, i, hi, u8⟩, _, u12⟩ := hpre
            have hil : i.length ≤ 1 := (show ∀ i ∈ insTs, i.length ≤ 1 by decide) i hi
            go_simp
            rw [if_neg (by simp; omega)]
            go_simp
            exact hK _ _ _ ⟨i, hi, rfl⟩ trivial ⟨by simpa using hR0, hG0, fun h => by obtain ⟨b, q1, q2, q3⟩ := R3 (by simpa using h); exact ⟨b, by simpa using q1, q2, q3⟩, fun h => by obtain ⟨b, y, q1, q2, q3, q4⟩ := R6 (by simpa using h); exact ⟨b, y, by simpa using q1, q2, q3, q4⟩⟩ (by simp [Act.put, u8, u12])
          · obtain ⟨⟨_, i, hi, u13⟩, hrest⟩ := hpre
            go_simp
            exact hK _ _ _ ⟨i, hi, rfl⟩ trivial ⟨by simpa using hR0, hG0, fun h => by obtain ⟨b, q1, q2, q3⟩ := R3 (by simpa using h); exact ⟨b, by simpa using q1, q2, q3⟩, fun h => by obtain ⟨b, y, q1, q2, q3, q4⟩ := R6 (by simpa using h); exact ⟨b, y, by simpa using q1, q2, q3, q4⟩⟩ (by simp [Act.put, u13, hrest])
        · rintro L U W hL hφ hR
          obtain ⟨i, hi, e14⟩ := hφ 14 (by decide)
          simp only [e14]
          have hR0 : Rdr W g (q9 + 1) := by simpa [hL 5 (by decide)] using hR.1
          have hG0 := hR.2.1
          clear hφ hL hR
          go_wp2_with fail
          go_ret
          exact ⟨_, q9 + 1, rfl, DSc0.turned Hs.out hk hi, by omega, hR0, hG0⟩
      · have tz : ((z : Int) == 0) = false := by simp; omega
        clear hz0
        go_wp2_with fail
        go_ret
        exact ⟨s, (q5 + 1) + 1, rfl, Hs.out.out, by omega, HR8.out, Hg8.out⟩
    · have tu : (0 : Int) < (u : Int) := by omega
      clear hu0 Hsok Hs hsl
      have Hs := Lib.hid DSc0.plain
      have hsl : plainSc.length ≤ 264 := by decide
      go_wp2_with fail
      rw [show (#[82, 97, 61, 49, 58, 112, 58, 110, 61, 53, 44, 50, 58, 113, 58, 91, 116, 44, 52, 58, 114, 58, 63, 64, 97, 59, 44, 53, 58, 115, 58, 64, 98, 59, 10, 85, 98, 61, 49, 58, 112, 58, 110, 44, 51, 58, 113, 58, 64, 97, 59, 10, 69, 99, 61, 49, 58, 112, 44, 50, 58, 113, 10] : Array UInt8) = plainSc.toArray from rfl]
      generalize plainSc = s at *
      have hs1 : 1 ≤ s.length := Hs.out.2.1
      refine (pick_any g (q5 + 1) 24 _ HR7.out (by omega) (by omega) (by omega)).mono ?_
      rintro e w8 ⟨z, rfl, hz1, _, hR8, hg8⟩
      have HR8 := Lib.hid hR8
      have Hg8 := Lib.hid (dgrown_trans Hg7.out hg8)
      have hg8l := hR8.lt
      clear hR8 hg8 HR7 Hg7 hz1
      by_cases hz0 : z = 0
      · subst hz0
        go_wp2_with fail
        refine (pick_any g ((q5 + 1) + 1) _ _ HR8.out (by omega) (by omega) (by omega)).mono ?_
        rintro e w9 ⟨k, rfl, hk1, _, hR9, hg9⟩
        have hk1 := hk1 (by omega)
        have hk : k < s.length := by omega
        have i5 : (0 : Int) ≤ (k : Int) := by omega
        have i6 : (k : Int) < (s.length : Int) := by omega
        obtain ⟨q9, hq9, HR9⟩ : ∃ q9, q9 ≤ (q5 + 1) + 2 ∧ Hid (Rdr w9 g q9) := ⟨_, by omega, Lib.hid hR9⟩
        have Hg9 := Lib.hid (dgrown_trans Hg8.out hg9)
        clear hR9 hg9 HR8 Hg8
        have hwr : IntKind.i64.wrap ((k : Int) + 1) = (k : Int) + 1 := IntWalk.i64_in _ (by omega)
        go_wp2_with fail
        refine wp_region_slots3 [38, 39, 40, 41, 42, 43, 44, 45, 46, 47, 48, 49, 50, 51, 2] (by kernel_rfl) (by kernel_rfl) (by kernel_rfl) (fun u => by dsimp only [frameOf, setMany, List.set, Nat.zero_add, Nat.reduceAdd])
          (fun ix v W => match ix with | 0 => v = .string ⟨(s : List UInt8).toArray⟩ | 1 => v = .int .i64 (k : Int) | 2 => v = .string ⟨(s.take k : List UInt8).toArray⟩ | 3 => ∃ b, v = .slice (some ⟨b, 0, none⟩) 5 5 | 4 => v = .pointer (some ⟨g, 0, none⟩) | 5 => ∃ y : Nat, v = .int .i64 (y : Int) ∧ y < 5 | 6 => ∃ b y, v = .pointer (some ⟨b, y, none⟩) | 7 => ∃ i, i ∈ insTs ∧ v = .string ⟨i.toArray⟩ | 8 => ∃ i, i ∈ insTs ∧ v = .string ⟨(s.take k ++ i).toArray⟩ | 9 => v = .string ⟨(s : List UInt8).toArray⟩ | 10 => v = .int .i64 (k : Int) | 11 => v = .int .i64 ((k : Int) + 1) | 12 => v = .string ⟨(s.drop (k + 1) : List UInt8).toArray⟩ | 13 => ∃ i, i ∈ insTs ∧ v = .string ⟨(s.take k ++ (i ++ s.drop (k + 1))).toArray⟩ | 14 => ∃ i, i ∈ insTs ∧ v = .string ⟨(s.take k ++ (i ++ s.drop (k + 1))).toArray⟩ | _ => True)
          (fun L U W => Rdr W g (if L 5 = true then q9 + 1 else q9) ∧ w.grownBy W (some g) ∧ (L 3 = true → ∃ b, U 3 = .slice (some ⟨b, 0, none⟩) 5 5 ∧ b ≠ g ∧ TRow W b insTs) ∧ (L 6 = true → ∃ b y, U 6 = .pointer (some ⟨b, y, none⟩) ∧ b ≠ g ∧ y < 5 ∧ TRow W b insTs)) (fun _ _ => True) (fun _ _ _ _ _ h => h) (⟨by simpa using HR9.out.ddrew, dgrown_drew Hg9.out, fun h => Bool.noConfusion h, fun h => Bool.noConfusion h⟩) ?_ ?_
        · repeat (first | exact Steps.nil | (refine Steps.cons ?_ ?_; rotate_left))
          all_goals
            rintro L U W hL hpre hR hun hdep K hK
            have HR := Lib.hid hR
            obtain ⟨hR0, hG0, R3, R6⟩ := HR.out
            clear hun hdep hR
            first | (simp [Region.binds] at hpre; done) | simp [Region.binds] at hpre | clear hpre
          iterate 2
            · go_simp
              first | exact hK _ _ _ rfl trivial HR.out rfl | exact hK _ _ _ rfl trivial HR.out (by simp [Act.put, hpre, hwr]) | exact hK undef _ _ trivial trivial HR.out (by simp [Act.put, hpre, hwr]) | exact hK _ _ _ trivial trivial HR.out rfl | exact hK _ _ _ trivial trivial HR.out (by simp [Act.put, hpre, hwr])
          · go_simp
            rw [if_pos (by omega)]
            go_simp
            first | exact hK _ _ _ rfl trivial HR.out rfl | exact hK _ _ _ rfl trivial HR.out (by simp [Act.put, hpre])
          · have hgl := hR0.lt
            go_simp
            exact hK _ _ _ ⟨_, rfl⟩ trivial ⟨by simpa using hR0.dalloc _, dgrown_trans hG0 (World.grownBy_alloc W _ _), fun _ => ⟨W.heap.size, rfl, by omega, TRow.new W insTs⟩, fun h => by obtain ⟨b, y, q1, q2, q3, q4⟩ := R6 (by simpa using h); exact ⟨b, y, by simpa using q1, q2, q3, q4.grown (World.grownBy_alloc W _ (some g)) q2⟩⟩ rfl
          · go_simp
            first | exact hK _ _ _ rfl trivial HR.out rfl | exact hK _ _ _ rfl trivial HR.out (by simp [Act.put, hpre, hwr]) | exact hK undef _ _ trivial trivial HR.out (by simp [Act.put, hpre, hwr]) | exact hK _ _ _ trivial trivial HR.out rfl | exact hK _ _ _ trivial trivial HR.out (by simp [Act.put, hpre, hwr])
          · go_simp
            have hR1 : Rdr W g q9 := by simpa [hL] using hR0
            refine (pick_any g q9 5 W hR1 (by omega) (by omega) (by omega)).mono ?_
            rintro e w' ⟨y, rfl, hy1, _, hRy, hgy⟩
            exact hK _ _ _ ⟨y, rfl, by omega⟩ trivial ⟨by simpa using hRy, dgrown_trans hG0 hgy, fun h => by obtain ⟨b, q1, q2, q3⟩ := R3 (by simpa using h); exact ⟨b, by simpa using q1, q2, q3.grown hgy q2⟩, fun h => by obtain ⟨b, y, q1, q2, q3, q4⟩ := R6 (by simpa using h); exact ⟨b, y, by simpa using q1, q2, q3, q4.grown hgy q2⟩⟩ (by simp [Act.put, hpre])
          · obtain ⟨⟨l3, _⟩, l5, y, u5, hy⟩ := hpre
            obtain ⟨b, u3, hb, hT⟩ := R3 l3
            have y1 : (0 : Int) ≤ (y : Int) := by omega
            have y2 : (y : Int) < 5 := by omega
            go_simp
            exact hK _ _ _ ⟨b, y, rfl⟩ trivial ⟨by simpa using hR0, hG0, fun h => by obtain ⟨b, q1, q2, q3⟩ := R3 (by simpa using h); exact ⟨b, by simpa using q1, q2, q3⟩, fun _ => ⟨b, y, rfl, hb, hy, hT⟩⟩ (by simp [Act.put, u3, u5])
          · obtain ⟨l6, _⟩ := hpre
            obtain ⟨b, y, u6, hb, hy, hT⟩ := R6 l6
            obtain ⟨s7, hm7, hc7⟩ := hT.cell (show y < insTs.length from hy)
            go_simp
            exact hK _ _ _ ⟨s7, hm7, rfl⟩ trivial ⟨by simpa using hR0, hG0, fun h => by obtain ⟨b, q1, q2, q3⟩ := R3 (by simpa using h); exact ⟨b, by simpa using q1, q2, q3⟩, fun h => by obtain ⟨b, y, q1, q2, q3, q4⟩ := R6 (by simpa using h); exact ⟨b, y, by simpa using q1, q2, q3, q4⟩⟩ (by simp [Act.put, u6])
          · obtain ⟨⟨_, u2⟩, _, i, hi, u7⟩ := hpre
            have hil : i.length ≤ 1 := (show ∀ i ∈ insTs, i.length ≤ 1 by decide) i hi
            go_simp
            rw [if_neg (by simp; omega)]
            go_simp
            exact hK _ _ _ ⟨i, hi, rfl⟩ trivial ⟨by simpa using hR0, hG0, fun h => by obtain ⟨b, q1, q2, q3⟩ := R3 (by simpa using h); exact ⟨b, by simpa using q1, q2, q3⟩, fun h => by obtain ⟨b, y, q1, q2, q3, q4⟩ := R6 (by simpa using h); exact ⟨b, y, by simpa using q1, q2, q3, q4⟩⟩ (by simp [Act.put, u2, u7])
          iterate 3
            · go_simp
              first | exact hK _ _ _ rfl trivial HR.out rfl | exact hK _ _ _ rfl trivial HR.out (by simp [Act.put, hpre, hwr]) | exact hK undef _ _ trivial trivial HR.out (by simp [Act.put, hpre, hwr]) | exact hK _ _ _ trivial trivial HR.out rfl | exact hK _ _ _ trivial trivial HR.out (by simp [Act.put, hpre, hwr])
          · go_simp
            rw [if_pos (by omega)]
            go_simp
            first | exact hK _ _ _ rfl trivial HR.out rfl | exact hK _ _ _ rfl trivial HR.out (by simp [Act.put, hpre])
          · obtain ⟨⟨_, i, hi, u8⟩, _, u12⟩ := hpre
            have hil : i.length ≤ 1 := (show ∀ i ∈ insTs, i.length ≤ 1 by decide) i hi
            go_simp
            rw [if_neg (by simp; omega)]
            go_simp
            exact hK _ _ _ ⟨i, hi, rfl⟩ trivial ⟨by simpa using hR0, hG0, fun h => by obtain ⟨b, q1, q2, q3⟩ := R3 (by simpa using h); exact ⟨b, by simpa using q1, q2, q3⟩, fun h => by obtain ⟨b, y, q1, q2, q3, q4⟩ := R6 (by simpa using h); exact ⟨b, y, by simpa using q1, q2, q3, q4⟩⟩ (by simp [Act.put, u8, u12])
          · obtain ⟨⟨_, i, hi, u13⟩, hrest⟩ := hpre
            go_simp
            exact hK _ _ _ ⟨i, hi, rfl⟩ trivial ⟨by simpa using hR0, hG0, fun h => by obtain ⟨b, q1, q2, q3⟩ := R3 (by simpa using h); exact ⟨b, by simpa using q1, q2, q3⟩, fun h => by obtain ⟨b, y, q1, q2, q3, q4⟩ := R6 (by simpa using h); exact ⟨b, y, by simpa using q1, q2, q3, q4⟩⟩ (by simp [Act.put, u13, hrest])
        · rintro L U W hL hφ hR
          obtain ⟨i, hi, e14⟩ := hφ 14 (by decide)
          simp only [e14]
          have hR0 : Rdr W g (q9 + 1) := by simpa [hL 5 (by decide)] using hR.1
          have hG0 := hR.2.1
          clear hφ hL hR
          go_wp2_with fail
          go_ret
          exact ⟨_, q9 + 1, rfl, DSc0.turned Hs.out hk hi, by omega, hR0, hG0⟩
      · have tz : ((z : Int) == 0) = false := by simp; omega
        clear hz0
        go_wp2_with fail
        go_ret
        exact ⟨s, (q5 + 1) + 1, rfl, Hs.out.out, by omega, HR8.out, Hg8.out⟩

/-- A kind that is drawn for a schema. -/
def DKs (l : List UInt8) : Prop := DK l ∨ l ∈ someTs ∨ l = [110]
theorem DKs.len {l : List UInt8} (h : DKs l) : l.length ≤ 15 := by
  rcases h with h | h | rfl
  · exact h.len
  · exact (show ∀ l ∈ someTs, l.length ≤ 15 by decide) l h
  · decide
set_option maxHeartbeats 2000000 in
theorem l91Some_any (g p : Nat) (s : List UInt8) (w : World) (h : Rdr w g p) (hp : p ≤ 10000000) (hs : s.length ≤ 1000000) :
    Calls Tryd.prog 12 #[.pointer (some ⟨g, 0, none⟩), .string ⟨s.toArray⟩] w (DrPost DKs w g p 10) := by
  have hgl := h.lt
  have HR := Lib.hid h
  clear h
  go_enter Tryd.func12, Tryd.ntmps12
  go_wp2_with fail
  refine (pick_any g p 30 _ HR.out (by omega) (by omega) (by omega)).mono ?_
  rintro e w1 ⟨x, rfl, hx1, _, hR1, hg1⟩
  have HR1 := Lib.hid hR1
  have Hg1 := Lib.hid hg1
  have hg1l := hR1.lt
  clear hR1 hg1 HR hx1
  by_cases hx0 : x = 0
  · subst hx0
    go_wp2_with fail
    refine (l91Kind_any g (p + 1) _ HR1.out (by omega)).mono ?_
    rintro e w2 ⟨l, q, rfl, hl, hq, hR2, hg2⟩
    have HR2 := Lib.hid hR2
    have Hg2 := Lib.hid (dgrown_trans Hg1.out hg2)
    have Hl := Lib.hid hl
    clear hR2 hg2 hl HR1 Hg1
    go_wp2_with fail
    go_ret
    exact ⟨l, q, rfl, .inl Hl.out, by omega, HR2.out, Hg2.out⟩
  · have tx : ((x : Int) == 0) = false := by simp; omega
    clear hx0
    go_wp2_with fail
    refine (pick_any g (p + 1) 11 _ (HR1.out.dalloc _) (by omega) (by omega) (by omega)).mono ?_
    rintro e w2 ⟨y, rfl, hy1, _, hR2, hg2⟩
    have hy : y < someTs.length := by show y < 11; omega
    obtain ⟨k, hkm, hcell⟩ := ((TRow.new w1 someTs).grown hg2 (by omega)).cell hy
    have hkl : k.length ≤ 15 := (show ∀ l ∈ someTs, l.length ≤ 15 by decide) k hkm
    have i1 : (0 : Int) ≤ (y : Int) := by omega
    have i2 : (y : Int) < 11 := by omega
    have HR2 := Lib.hid hR2
    have Hg2 := Lib.hid (dgrown_trans Hg1.out (dgrown_trans (World.grownBy_alloc w1 _ (some g)) hg2))
    have Hk := Lib.hid hkm
    have Hkind := Lib.hid (fun W => sKind_any s k W (by omega) (by omega))
    generalize bothL s k = o at Hkind
    clear hR2 hg2 hkm HR1 Hg1 hy hy1
    go_wp2_with fail
    refine (Hkind.out _).mono ?_
    rintro e w3 ⟨hc3, hb3⟩
    have HR3 := Lib.hid (HR2.out.below hb3)
    have Hg3 := Lib.hid (dgrown_trans Hg2.out (dgrown_below hb3 (some g)))
    clear hb3 HR2 Hg2 hcell
    cases o with
    | none =>
      obtain ⟨A, n, c, rfl⟩ := hc3
      go_wp2_with fail
      go_ret
      exact ⟨[110], p + 1 + 1, rfl, .inr (.inr rfl), by omega, HR3.out, Hg3.out⟩
    | some z =>
      obtain ⟨v, xs, rfl, _, _⟩ := hc3
      go_wp2_with fail
      go_ret
      exact ⟨k, p + 1 + 1, rfl, .inr (.inl Hk.out), by omega, HR3.out, Hg3.out⟩
end Go.Proofs.YtcjfgbcdlcdeaaaDoor
/- The drawing functions of laws on schemas: texts of bounded length; what was there stays. -/
namespace Go.Proofs.YtcjfgbcdlcdeaaaDoor
open Go.RowKit
set_option maxRecDepth 100000
set_option linter.unusedVariables false
set_option linter.unusedSimpArgs false
attribute [local go_sem] ba_get ba_toList ba_extract take_drop_all ByteArray.mk_append_mk

/-- Behind a call on a reader that is new. -/
theorem below_dgrown {w a b : World} {g : Nat} (h : Below w.heap.size w a) (hg : a.grownBy b (some g)) (hgb : w.heap.size ≤ g) : Below w.heap.size w b :=
  h.grown hg h.size (fun k hk => by injection hk with hk; omega)
def PairDr (w : World) (e : Ending) (w' : World) : Prop := ∃ s k : List UInt8, e = .returned (.tuple #[.string ⟨s.toArray⟩, .string ⟨k.toArray⟩]) ∧ DSc s ∧ DKs k ∧ Below w.heap.size w w'
def FourDr (w : World) (e : Ending) (w' : World) : Prop := ∃ a b c d : List UInt8, e = .returned (.tuple #[.string ⟨a.toArray⟩, .string ⟨b.toArray⟩, .string ⟨c.toArray⟩, .string ⟨d.toArray⟩]) ∧ a.length ≤ 100000 ∧ b.length ≤ 100000 ∧ c.length ≤ 100000 ∧ d.length ≤ 100000 ∧ Below w.heap.size w w'
end Go.Proofs.YtcjfgbcdlcdeaaaDoor
/- Plain laws of what is met from a kind: in the order of meeting, and sorted by name. No program in sight. -/
namespace Go.Proofs.YtcjfgbcdlcdeaaaDoor

abbrev Name := List UInt8

/-- Names in the order in which they are met from a kind. -/
def metN (S : List Ty) : Nat → Kd → List Name → List Name
  | 0, _, out => out
  | n + 1, k, out =>
    if k.base = [64] ∧ k.name ∉ out then
      (match findTy S k.name with
       | none => out ++ [k.name]
       | some t => if t.sort = 69 then out ++ [k.name] else t.fields.foldl (fun o f => metN S n f.kind o) (out ++ [k.name]))
    else out

def belowB (x : Name) (y : Name) : Bool := decide (y < x)
/-- A name put into its place. -/
def putS (x : Name) (out : List Name) : List Name := out.takeWhile (belowB x) ++ x :: out.dropWhile (belowB x)
/-- Is it at its place? -/
def hasS (x : Name) (out : List Name) : Bool := decide ((out.dropWhile (belowB x)).head? = some x)

/-- Names that are met from a kind, each put into its place. -/
def usedN (S : List Ty) : Nat → Kd → List Name → List Name
  | 0, _, out => out
  | n + 1, k, out =>
    if k.base = [64] ∧ hasS k.name out = false then
      (match findTy S k.name with
       | none => putS k.name out
       | some t => if t.sort = 69 then putS k.name out else t.fields.foldl (fun o f => usedN S n f.kind o) (putS k.name out))
    else out

def SortedN (l : List Name) : Prop := l.Pairwise (· < ·)

theorem hasS_iff {x : Name} {l : List Name} (h : SortedN l) : hasS x l = true ↔ x ∈ l := by
  unfold hasS
  induction l with
  | nil => simp
  | cons y l ih =>
    obtain ⟨h1, h2⟩ := List.pairwise_cons.1 h
    by_cases hb : belowB x y = true
    · have hlt : y < x := by simpa [belowB] using hb
      have hne : x ≠ y := by rintro rfl; exact List.lt_irrefl _ hlt
      simp only [List.dropWhile_cons, hb, if_true, List.mem_cons, hne, false_or]
      exact ih h2
    · have hlt : ¬ y < x := by simpa [belowB] using hb
      simp only [List.dropWhile_cons, hb, Bool.false_eq_true, if_false, List.head?_cons, Option.some.injEq, decide_eq_true_eq, List.mem_cons]
      constructor
      · intro e; exact .inl e.symm
      · rintro (e | e)
        · exact e.symm
        · exact absurd (h1 x e) hlt
theorem putS_perm (x : Name) (l : List Name) : (putS x l).Perm (l ++ [x]) := by
  unfold putS
  have e : l.takeWhile (belowB x) ++ l.dropWhile (belowB x) = l := List.takeWhile_append_dropWhile
  refine (List.perm_middle).trans ?_
  rw [e]
  exact (List.perm_append_singleton x l).symm
theorem mem_takeWhile_p {α : Type} {p : α → Bool} : ∀ {l : List α} {y : α}, y ∈ l.takeWhile p → p y = true
  | [], _, h => by simp at h
  | a :: l, y, h => by
    by_cases hp : p a = true
    · simp only [List.takeWhile_cons, hp, if_true, List.mem_cons] at h
      rcases h with rfl | h
      · exact hp
      · exact mem_takeWhile_p h
    · simp [hp] at h
theorem putS_sorted {x : Name} {l : List Name} (h : SortedN l) (hx : x ∉ l) : SortedN (putS x l) := by
  unfold putS SortedN
  have e : l.takeWhile (belowB x) ++ l.dropWhile (belowB x) = l := List.takeWhile_append_dropWhile
  have h' : SortedN (l.takeWhile (belowB x) ++ l.dropWhile (belowB x)) := by rw [e]; exact h
  obtain ⟨a1, a2, a3⟩ := List.pairwise_append.1 h'
  refine List.pairwise_append.2 ⟨a1, List.pairwise_cons.2 ⟨?_, a2⟩, ?_⟩
  · -- what is dropped is above x
    intro y hy
    have hyl : y ∈ l := by rw [← e]; exact List.mem_append.2 (.inr hy)
    have hne : y ≠ x := by rintro rfl; exact hx hyl
    cases hd : l.dropWhile (belowB x) with
    | nil => rw [hd] at hy; cases hy
    | cons z t =>
      have hz : belowB x z = false := by
        have := List.head?_dropWhile_not (belowB x) l
        rw [hd] at this
        simpa using this
      have hz' : ¬ z < x := by simpa [belowB] using hz
      rw [hd] at hy a2
      have hzl : z ∈ l := by rw [← e, hd]; simp
      have hzx : x < z := by
        rcases Decidable.em (x < z) with h | h
        · exact h
        · exact absurd (show x = z from List.le_antisymm hz' h) (fun (e : x = z) => hx (by rw [e]; exact hzl))
      rcases List.mem_cons.1 hy with rfl | hy
      · exact hzx
      · exact List.lt_trans hzx ((List.pairwise_cons.1 a2).1 y hy)
  · intro a ha b hb
    have hax : a < x := by simpa [belowB] using mem_takeWhile_p ha
    rcases List.mem_cons.1 hb with rfl | hb
    · exact hax
    · exact a3 a ha b hb

/-- Both go the same way: sorted is a permutation of the order of meeting. -/
theorem used_met (S : List Ty) : ∀ (n : Nat) (k : Kd) (us os : List Name), SortedN us → us.Perm os → SortedN (usedN S n k us) ∧ (usedN S n k us).Perm (metN S n k os)
  | 0, _, us, os, hs, hp => ⟨hs, hp⟩
  | n + 1, k, us, os, hs, hp => by
    rw [usedN, metN]
    by_cases hk : k.base = [64]
    · by_cases hm : k.name ∈ os
      · have hu : hasS k.name us = true := (hasS_iff hs).2 (hp.mem_iff.2 hm)
        rw [if_neg (by simp [hu]), if_neg (by simp [hm])]
        exact ⟨hs, hp⟩
      · have hmu : k.name ∉ us := fun h => hm (hp.mem_iff.1 h)
        have hu : hasS k.name us = false := by
          cases hh : hasS k.name us with
          | false => rfl
          | true => exact absurd ((hasS_iff hs).1 hh) hmu
        rw [if_pos ⟨hk, hu⟩, if_pos ⟨hk, hm⟩]
        have hs1 := putS_sorted hs hmu
        have hp1 : (putS k.name us).Perm (os ++ [k.name]) := (putS_perm _ _).trans (hp.append_right _)
        cases findTy S k.name with
        | none => exact ⟨hs1, hp1⟩
        | some t =>
          simp only
          by_cases h69 : t.sort = 69
          · rw [if_pos h69, if_pos h69]; exact ⟨hs1, hp1⟩
          · rw [if_neg h69, if_neg h69]
            generalize putS k.name us = u1 at hs1 hp1
            generalize os ++ [k.name] = o1 at hp1
            generalize t.fields = fs
            induction fs generalizing u1 o1 with
            | nil => exact ⟨hs1, hp1⟩
            | cons f fs ih =>
              simp only [List.foldl_cons]
              obtain ⟨i1, i2⟩ := used_met S n f.kind u1 o1 hs1 hp1
              exact ih _ i1 _ i2
    · rw [if_neg (fun h => hk h.1), if_neg (fun h => hk h.1)]
      exact ⟨hs, hp⟩

/-! ### what is met: names of types, each once -/
def namesOf (S : List Ty) : List Name := S.map (·.name)
theorem findTy_isSome {S : List Ty} {n : Name} : (findTy S n).isSome = true ↔ n ∈ namesOf S := by
  unfold findTy namesOf
  rw [List.find?_isSome]
  simp
/-- Names that are met so far. -/
def Mets (S : List Ty) (out : List Name) : Prop := out.Nodup ∧ ∀ x ∈ out, x ∈ namesOf S
theorem Mets.nil (S : List Ty) : Mets S [] := ⟨List.nodup_nil, by simp⟩
theorem sub_len : ∀ (l m : List Name), l.Nodup → (∀ x ∈ l, x ∈ m) → l.length ≤ m.length
  | [], m, _, _ => Nat.zero_le _
  | x :: l, m, hn, hs => by
    obtain ⟨h1, h2⟩ := List.nodup_cons.1 hn
    have hx := hs x (by simp)
    have ih := sub_len l (m.erase x) h2 (fun y hy => by
      have hne : y ≠ x := by rintro rfl; exact h1 hy
      exact (List.mem_erase_of_ne hne).2 (hs y (by simp [hy])))
    have hl := List.length_erase_of_mem hx
    have hp : 0 < m.length := List.length_pos_iff.2 (by rintro rfl; cases hx)
    simp; omega
theorem Mets.len {S : List Ty} {out : List Name} (h : Mets S out) : out.length ≤ S.length := by
  have := sub_len out (namesOf S) h.1 h.2
  simpa [namesOf] using this
theorem Mets.snoc {S : List Ty} {out : List Name} {x : Name} (h : Mets S out) (hx : x ∈ namesOf S) (hn : x ∉ out) : Mets S (out ++ [x]) := by
  refine ⟨?_, ?_⟩
  · rw [List.nodup_append]
    refine ⟨h.1, by simp, ?_⟩
    intro a ha b hb
    simp at hb; subst hb
    rintro rfl; exact hn ha
  · intro y hy
    rcases List.mem_append.1 hy with hy | hy
    · exact h.2 y hy
    · simp at hy; subst hy; exact hx
theorem Mets.perm {S : List Ty} {a b : List Name} (h : Mets S a) (hp : a.Perm b) : Mets S b := ⟨hp.nodup_iff.1 h.1, fun x hx => h.2 x (hp.mem_iff.2 hx)⟩
theorem metN_mets {S : List Ty} (hS : kindsOk S) : ∀ (n : Nat) (k : Kd) (out : List Name), refOk S k → Mets S out → Mets S (metN S n k out) ∧ ∃ l, metN S n k out = out ++ l
  | 0, _, out, _, h => ⟨h, [], by simp [metN]⟩
  | n + 1, k, out, hk, h => by
    rw [metN]
    by_cases hc : k.base = [64] ∧ k.name ∉ out
    · rw [if_pos hc]
      have hr := hk hc.1
      have hx := findTy_isSome.1 hr
      have hs := h.snoc hx hc.2
      cases hf : findTy S k.name with
      | none => rw [hf] at hr; cases hr
      | some t =>
        simp only
        by_cases h69 : t.sort = 69
        · rw [if_pos h69]; exact ⟨hs, _, rfl⟩
        · rw [if_neg h69]
          have hfs := hS t (findTy_some hf).1 h69
          have key : ∀ (fs : List Fd) (o : List Name), (∀ f ∈ fs, refOk S f.kind) → Mets S o → Mets S (fs.foldl (fun o f => metN S n f.kind o) o) ∧ ∃ l, fs.foldl (fun o f => metN S n f.kind o) o = o ++ l := by
            intro fs
            induction fs with
            | nil => intro o _ ho; exact ⟨ho, [], by simp⟩
            | cons f fs ih =>
              intro o hf ho
              obtain ⟨i1, l, i2⟩ := metN_mets hS n f.kind o (hf f (by simp)) ho
              obtain ⟨j1, m, j2⟩ := ih _ (fun g hg => hf g (by simp [hg])) i1
              refine ⟨j1, l ++ m, ?_⟩
              simp only [List.foldl_cons]
              rw [j2, i2, List.append_assoc]
          obtain ⟨j1, m, j2⟩ := key t.fields _ hfs hs
          exact ⟨j1, k.name :: m, by rw [j2]; simp⟩
    · rw [if_neg hc]; exact ⟨h, [], by simp⟩

/-- How many fields types of names have. -/
def countF (S : List Ty) (ns : List Name) : Nat := (ns.map fun n => match findTy S n with | some t => t.fields.length | none => 0).sum
theorem countF_perm (S : List Ty) {a b : List Name} (h : a.Perm b) : countF S a = countF S b := (h.map _).sum_nat
/-- What is met, and sorted. -/
def metL (S : List Ty) (k : Kd) : List Name := metN S 9 k []
def usedL (S : List Ty) (k : Kd) : List Name := usedN S 9 k []
theorem used_perm (S : List Ty) (k : Kd) : SortedN (usedL S k) ∧ (usedL S k).Perm (metL S k) := used_met S 9 k [] [] List.Pairwise.nil (List.Perm.refl _)
end Go.Proofs.YtcjfgbcdlcdeaaaDoor
