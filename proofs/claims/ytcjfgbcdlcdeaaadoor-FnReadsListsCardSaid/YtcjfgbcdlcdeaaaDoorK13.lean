/- Texts joined: IKind, IMem, NumsI2, SUsed1, Row. Conditions: as each theorem names them. -/
import Derived.Deep.RegionWith
import Derived.Laws.Rows
import Derived.Sort.Walk0
import Derived.Deep.MidRow
import Derived.Deep.AppendLies
import Derived.Test.YtcjfgbcdlcdeaaaDoorK01
import Derived.Test.YtcjfgbcdlcdeaaaDoorK02
import Derived.Test.YtcjfgbcdlcdeaaaDoorK07
import Derived.Test.YtcjfgbcdlcdeaaaDoorK11
import Derived.Test.YtcjfgbcdlcdeaaaDoorK12
/- readKind of the program, and the small methods on kinds. -/
namespace Go.Proofs.YtcjfgbcdlcdeaaaDoor
open Go.RowKit
set_option maxRecDepth 100000
set_option linter.unusedVariables false
set_option linter.unusedSimpArgs false
attribute [local go_sem] ba_get ba_toList ba_extract take_drop_all ByteArray.mk_append_mk

def kdV (k : Kd) : Value := .agg #[.string ⟨k.signs.toArray⟩, .string ⟨k.base.toArray⟩, .string ⟨k.name.toArray⟩]
/-- What reading a kind leaves. -/
def KdPost (o : Option Kd) (w : World) (e : Ending) (w' : World) : Prop :=
  (match o with
    | some k => e = .returned (.tuple #[kdV k, .bool true])
    | none => ∃ (a b c : ByteArray), e = .returned (.tuple #[.agg #[.string a, .string b, .string c], .bool false])) ∧ Below w.heap.size w w'
theorem KdPost.no {w w' : World} {e : Ending} {o : Option Kd} (ho : o = none) {a b c : ByteArray} (he : e = .returned (.tuple #[.agg #[.string a, .string b, .string c], .bool false])) (hb : Below w.heap.size w w') : KdPost o w e w' := by
  rw [ho]; exact ⟨⟨a, b, c, he⟩, hb⟩
theorem KdPost.yes {w w' : World} {e : Ending} {o : Option Kd} {k : Kd} (ho : o = some k) (he : e = .returned (.tuple #[kdV k, .bool true])) (hb : Below w.heap.size w w') : KdPost o w e w' := by
  rw [ho]; exact ⟨he, hb⟩

theorem sign_has (c : UInt8) : ([91, 63] : List UInt8).contains c = isSign c := by
  have := all_bytes (p := fun c => ([91, 63] : List UInt8).contains c == isSign c) (by decide +kernel) c
  simpa using this
theorem drop_sign (s : List UInt8) : s.dropWhile (([91, 63] : List UInt8).contains ·) = s.dropWhile isSign := by
  congr 1; funext c; exact sign_has c
theorem hasSuffix_one (r : List UInt8) (c : UInt8) : Lib.hasSuffix r [c] = decide (r.getLast? = some c) := by
  rcases snoc_cases r with rfl | ⟨t, d, rfl⟩
  · rfl
  · unfold Lib.hasSuffix List.isSuffixOf
    rw [List.reverse_append, List.getLast?_append]
    by_cases h : c = d
    · subst h; simp [List.isPrefixOf]
    · have h' : d ≠ c := fun e => h e.symm
      simp [List.isPrefixOf, h, h']

/-- A text by its signs. -/
theorem kindL_split (s : List UInt8) (h : s.length ≤ 12) : ∃ g r, s = g ++ r ∧ s.dropWhile isSign = r ∧
    ((∃ b, (b = 110 ∨ b = 116 ∨ b = 102) ∧ r = [b] ∧ kindL s = some ⟨g, r, []⟩) ∨
     (∃ nm, r = 64 :: (nm ++ [59]) ∧ kindL s = if nameOk nm = true then some ⟨g, [64], nm⟩ else none) ∨
     ((r == [110]) = false ∧ (r == [116]) = false ∧ (r == [102]) = false ∧ (r.head? ≠ some 64 ∨ (r.head? = some 64 ∧ r.getLast? ≠ some 59)) ∧ kindL s = none)) := by
  refine ⟨s.takeWhile isSign, s.dropWhile isSign, List.takeWhile_append_dropWhile.symm, rfl, ?_⟩
  unfold kindL
  rw [if_neg (by omega)]
  by_cases h1 : s.dropWhile isSign = [110] ∨ s.dropWhile isSign = [116] ∨ s.dropWhile isSign = [102]
  · left
    rw [if_pos h1]
    rcases h1 with h | h | h
    · exact ⟨110, by simp, h, rfl⟩
    · exact ⟨116, by simp, h, rfl⟩
    · exact ⟨102, by simp, h, rfl⟩
  · right
    rw [if_neg h1]
    simp only [not_or] at h1
    by_cases h2 : (s.dropWhile isSign).head? = some 64
    · by_cases h3 : (s.dropWhile isSign).getLast? = some 59
      · left
        have e := ends_at h2 h3
        refine ⟨((s.dropWhile isSign).drop 1).dropLast, e, ?_⟩
        by_cases h4 : nameOk ((s.dropWhile isSign).drop 1).dropLast = true
        · rw [if_pos ⟨h2, h3, h4⟩, if_pos h4]
        · rw [if_neg (fun h => h4 h.2.2), if_neg h4]
      · right
        refine ⟨by simpa using h1.1, by simpa using h1.2.1, by simpa using h1.2.2, .inr ⟨h2, h3⟩, ?_⟩
        rw [if_neg (fun h => h3 h.2.1)]
    · right
      refine ⟨by simpa using h1.1, by simpa using h1.2.1, by simpa using h1.2.2, .inl h2, ?_⟩
      rw [if_neg (fun h => h2 h.1)]

set_option maxHeartbeats 1000000 in
theorem readKind_any (s : List UInt8) (w : World) (hs : s.length ≤ 4000000) :
    Calls Tryd.prog 30 #[.string ⟨s.toArray⟩] w (KdPost (kindL s) w) := by
  rcases Nat.lt_or_ge 12 s.length with h12 | h12
  · have Hn := Lib.hid (show kindL s = none by unfold kindL; rw [if_pos h12])
    go_enter Tryd.func30, Tryd.ntmps30
    go_wp2_with fail
    refine bodyPost_ret (v := .tuple #[.agg #[.string ⟨#[]⟩, .string ⟨#[]⟩, .string ⟨#[]⟩], .bool false]) (by simp [results, Tryd.results30, go_sem]) rfl ?_
    exact KdPost.no Hn.out rfl ((Below.refl _ _).alloc (Nat.le_refl _) _)
  · obtain ⟨g, r, hsr, hr, hcase⟩ := kindL_split s h12
    have hT := fun W => TrimLeft_any s [91, 63] W (by decide) (by decide)
    simp only [drop_sign, hr] at hT
    have HT := Lib.hid hT
    have hl : s.length = g.length + r.length := by rw [hsr]; simp
    have Htk := Lib.hid (show s.take (s.length - r.length) = g by rw [hl, hsr]; simp)
    have k1 : (0 : Int) ≤ (s.length : Int) - (r.length : Int) := by omega
    have k2 : (s.length : Int) - (r.length : Int) ≤ (s.length : Int) := by omega
    have k3 : ((s.length : Int) - (r.length : Int)).toNat = s.length - r.length := by omega
    have hr12 : r.length ≤ 12 := by omega
    have hl1 : r.length ≤ s.length := by omega
    clear hT hr hl hsr
    rcases hcase with ⟨b, hb, rfl, hk⟩ | ⟨nm, rfl, hk⟩ | ⟨q1, q2, q3, hh, hk⟩
    · have h1 : 1 ≤ s.length := by simp at hl1; omega
      have Hg := Lib.hid (show s.take (s.length - 1) = g by simpa using Htk.out)
      have Hk := Lib.hid hk
      clear hk k1 k2 k3
      rcases hb with rfl | rfl | rfl
      · go_enter Tryd.func30, Tryd.ntmps30
        go_wp2_with fail
        refine (HT.out _).mono ?_
        rintro e w1 ⟨rfl, hb⟩
        obtain ⟨hc, hfz, hz⟩ := bcell hb
        have hzz := hz w.heap.size (by simp)
        have hn1 : ¬ (w1.heap.size = w.heap.size) := by omega
        have hn2 : ¬ (w.heap.size = w1.heap.size) := by omega
        have Hb := Lib.hid (((Below.refl w.heap.size w).alloc (Nat.le_refl _) _).trans (hb.mono (by simp)))
        have u0 : w1.cell? ⟨w.heap.size, 0, none⟩ = some (.string ⟨#[]⟩) := by rw [hc w.heap.size 0 (by simp)]; simp
        have u1 : w1.cell? ⟨w.heap.size, 1, none⟩ = some (.string ⟨#[]⟩) := by rw [hc w.heap.size 1 (by simp)]; simp
        have u2 : w1.cell? ⟨w.heap.size, 2, none⟩ = some (.string ⟨#[]⟩) := by rw [hc w.heap.size 2 (by simp)]; simp
        have fu : ∀ j, w1.frozen? ⟨w.heap.size, j, none⟩ = false := fun j => by rw [hfz w.heap.size j (by simp)]; simp
        clear hb hc hfz hz
        go_wp2_with fail
        refine bodyPost_ret (v := .tuple #[.agg #[.string ⟨(s.take (s.length - 1)).toArray⟩, .string ⟨#[110]⟩, .string ⟨#[]⟩], .bool true]) (by simp [results, Tryd.results30, go_sem, u0, u1, u2, fu, hn1, hn2, hzz]) rfl ?_
        exact KdPost.yes Hk.out (by rw [Hg.out]; rfl) (by (repeat (first | exact Hb.out | refine Below.setCell ?_ (by first | exact Nat.le_refl _ | (simp; omega) | omega) _ | refine Below.alloc ?_ (by first | exact Nat.le_refl _ | (simp; omega) | omega) _ | refine Below.drew ?_)))
      · go_enter Tryd.func30, Tryd.ntmps30
        go_wp2_with fail
        refine (HT.out _).mono ?_
        rintro e w1 ⟨rfl, hb⟩
        obtain ⟨hc, hfz, hz⟩ := bcell hb
        have hzz := hz w.heap.size (by simp)
        have hn1 : ¬ (w1.heap.size = w.heap.size) := by omega
        have hn2 : ¬ (w.heap.size = w1.heap.size) := by omega
        have Hb := Lib.hid (((Below.refl w.heap.size w).alloc (Nat.le_refl _) _).trans (hb.mono (by simp)))
        have u0 : w1.cell? ⟨w.heap.size, 0, none⟩ = some (.string ⟨#[]⟩) := by rw [hc w.heap.size 0 (by simp)]; simp
        have u1 : w1.cell? ⟨w.heap.size, 1, none⟩ = some (.string ⟨#[]⟩) := by rw [hc w.heap.size 1 (by simp)]; simp
        have u2 : w1.cell? ⟨w.heap.size, 2, none⟩ = some (.string ⟨#[]⟩) := by rw [hc w.heap.size 2 (by simp)]; simp
        have fu : ∀ j, w1.frozen? ⟨w.heap.size, j, none⟩ = false := fun j => by rw [hfz w.heap.size j (by simp)]; simp
        clear hb hc hfz hz
        go_wp2_with fail
        refine bodyPost_ret (v := .tuple #[.agg #[.string ⟨(s.take (s.length - 1)).toArray⟩, .string ⟨#[116]⟩, .string ⟨#[]⟩], .bool true]) (by simp [results, Tryd.results30, go_sem, u0, u1, u2, fu, hn1, hn2, hzz]) rfl ?_
        exact KdPost.yes Hk.out (by rw [Hg.out]; rfl) (by (repeat (first | exact Hb.out | refine Below.setCell ?_ (by first | exact Nat.le_refl _ | (simp; omega) | omega) _ | refine Below.alloc ?_ (by first | exact Nat.le_refl _ | (simp; omega) | omega) _ | refine Below.drew ?_)))
      · go_enter Tryd.func30, Tryd.ntmps30
        go_wp2_with fail
        refine (HT.out _).mono ?_
        rintro e w1 ⟨rfl, hb⟩
        obtain ⟨hc, hfz, hz⟩ := bcell hb
        have hzz := hz w.heap.size (by simp)
        have hn1 : ¬ (w1.heap.size = w.heap.size) := by omega
        have hn2 : ¬ (w.heap.size = w1.heap.size) := by omega
        have Hb := Lib.hid (((Below.refl w.heap.size w).alloc (Nat.le_refl _) _).trans (hb.mono (by simp)))
        have u0 : w1.cell? ⟨w.heap.size, 0, none⟩ = some (.string ⟨#[]⟩) := by rw [hc w.heap.size 0 (by simp)]; simp
        have u1 : w1.cell? ⟨w.heap.size, 1, none⟩ = some (.string ⟨#[]⟩) := by rw [hc w.heap.size 1 (by simp)]; simp
        have u2 : w1.cell? ⟨w.heap.size, 2, none⟩ = some (.string ⟨#[]⟩) := by rw [hc w.heap.size 2 (by simp)]; simp
        have fu : ∀ j, w1.frozen? ⟨w.heap.size, j, none⟩ = false := fun j => by rw [hfz w.heap.size j (by simp)]; simp
        clear hb hc hfz hz
        go_wp2_with fail
        refine bodyPost_ret (v := .tuple #[.agg #[.string ⟨(s.take (s.length - 1)).toArray⟩, .string ⟨#[102]⟩, .string ⟨#[]⟩], .bool true]) (by simp [results, Tryd.results30, go_sem, u0, u1, u2, fu, hn1, hn2, hzz]) rfl ?_
        exact KdPost.yes Hk.out (by rw [Hg.out]; rfl) (by (repeat (first | exact Hb.out | refine Below.setCell ?_ (by first | exact Nat.le_refl _ | (simp; omega) | omega) _ | refine Below.alloc ?_ (by first | exact Nat.le_refl _ | (simp; omega) | omega) _ | refine Below.drew ?_)))
    · have h1 : nm.length + 2 ≤ s.length := by simp at hl1; omega
      have Hg := Lib.hid (show s.take (s.length - (nm.length + 1 + 1)) = g by simpa using Htk.out)
      have hnl : nm.length ≤ 12 := by omega
      have hmid : (nm ++ [59]).take nm.length = nm := by simp
      have Hn := Lib.hid (fun W => isName_any nm W (by omega))
      have hp : ([64] : List UInt8).isPrefixOf (64 :: (nm ++ [59])) = true := rfl
      have hs : Lib.hasSuffix (64 :: (nm ++ [59])) [59] = true := by
        rw [hasSuffix_one, show (64 : UInt8) :: (nm ++ [59]) = (64 :: nm) ++ [59] from rfl, List.getLast?_append]; rfl
      have Hp := Lib.hid (fun W => HasPrefix_any (64 :: (nm ++ [59])) [64] W)
      have Hs := Lib.hid (fun W => HasSuffix_any (64 :: (nm ++ [59])) [59] W (by simp; omega))
      rw [hp] at Hp
      rw [hs] at Hs
      clear hp hs k1 k2 k3
      rcases Bool.eq_false_or_eq_true (nameOk nm) with hnm | hnm
      · rw [if_pos hnm] at hk
        rw [hnm] at Hn
        have Hk := Lib.hid hk
        clear hk hnm
        go_enter Tryd.func30, Tryd.ntmps30
        go_wp2_with fail
        refine (HT.out _).mono ?_
        rintro e w1 ⟨rfl, hb⟩
        obtain ⟨hc, hfz, hz⟩ := bcell hb
        have hzz := hz w.heap.size (by simp)
        have hn1 : ¬ (w1.heap.size = w.heap.size) := by omega
        have hn2 : ¬ (w.heap.size = w1.heap.size) := by omega
        have Hb := Lib.hid (((Below.refl w.heap.size w).alloc (Nat.le_refl _) _).trans (hb.mono (by simp)))
        have u0 : w1.cell? ⟨w.heap.size, 0, none⟩ = some (.string ⟨#[]⟩) := by rw [hc w.heap.size 0 (by simp)]; simp
        have u1 : w1.cell? ⟨w.heap.size, 1, none⟩ = some (.string ⟨#[]⟩) := by rw [hc w.heap.size 1 (by simp)]; simp
        have u2 : w1.cell? ⟨w.heap.size, 2, none⟩ = some (.string ⟨#[]⟩) := by rw [hc w.heap.size 2 (by simp)]; simp
        have fu : ∀ j, w1.frozen? ⟨w.heap.size, j, none⟩ = false := fun j => by rw [hfz w.heap.size j (by simp)]; simp
        clear hb hc hfz hz
        go_wp2_with fail
        refine (Hp.out _).mono ?_
        rintro e w2 ⟨rfl, rfl⟩
        go_wp2_with fail
        refine (Hs.out _).mono ?_
        rintro e w2 ⟨rfl, rfl⟩
        go_wp2_with fail
        go_region_with (go_at_call 49; refine (Hn.out _).mono ?_; rintro e w' ⟨rfl, hb6⟩; obtain ⟨hc6, hfz6, hz6⟩ := bcell hb6; have y0 : w'.cell? ⟨w.heap.size, 0, none⟩ = some (.string ⟨#[]⟩) := (by rw [hc6 w.heap.size 0 (by simp; omega)]; simp [go_sem, u0, hn1, hn2, hzz]); have y1 : w'.cell? ⟨w.heap.size, 1, none⟩ = some (.string ⟨#[]⟩) := (by rw [hc6 w.heap.size 1 (by simp; omega)]; simp [go_sem, u1, hn1, hn2, hzz]); have y2 : w'.cell? ⟨w.heap.size, 2, none⟩ = some (.string ⟨#[]⟩) := (by rw [hc6 w.heap.size 2 (by simp; omega)]; simp [go_sem, u2, hn1, hn2, hzz]); have y6 := hz6 w.heap.size (by simp; omega))
        all_goals
          go_wp2
          refine bodyPost_ret (v := .tuple #[.agg #[.string ⟨(s.take (s.length - (nm.length + 1 + 1))).toArray⟩, .string ⟨#[64]⟩, .string ⟨nm.toArray⟩], .bool true]) (by simp [results, Tryd.results30, go_sem, u0, u1, u2, fu, hn1, hn2, hzz, y0, y1, y2]) rfl ?_
          exact KdPost.yes Hk.out (by rw [Hg.out]; rfl) (by (repeat (first | exact Hb.out | refine Below.setCell ?_ (by first | exact Nat.le_refl _ | (simp; omega) | omega) _ | refine Below.alloc ?_ (by first | exact Nat.le_refl _ | (simp; omega) | omega) _ | refine Below.drew ?_ | refine Below.trans ?_ (hb6.mono (by first | exact Nat.le_refl _ | (simp; omega) | omega)))))
      · rw [if_neg (by rw [hnm]; decide)] at hk
        rw [hnm] at Hn
        have Hk := Lib.hid hk
        clear hk hnm
        go_enter Tryd.func30, Tryd.ntmps30
        go_wp2_with fail
        refine (HT.out _).mono ?_
        rintro e w1 ⟨rfl, hb⟩
        obtain ⟨hc, hfz, hz⟩ := bcell hb
        have hzz := hz w.heap.size (by simp)
        have hn1 : ¬ (w1.heap.size = w.heap.size) := by omega
        have hn2 : ¬ (w.heap.size = w1.heap.size) := by omega
        have Hb := Lib.hid (((Below.refl w.heap.size w).alloc (Nat.le_refl _) _).trans (hb.mono (by simp)))
        have u0 : w1.cell? ⟨w.heap.size, 0, none⟩ = some (.string ⟨#[]⟩) := by rw [hc w.heap.size 0 (by simp)]; simp
        have u1 : w1.cell? ⟨w.heap.size, 1, none⟩ = some (.string ⟨#[]⟩) := by rw [hc w.heap.size 1 (by simp)]; simp
        have u2 : w1.cell? ⟨w.heap.size, 2, none⟩ = some (.string ⟨#[]⟩) := by rw [hc w.heap.size 2 (by simp)]; simp
        have fu : ∀ j, w1.frozen? ⟨w.heap.size, j, none⟩ = false := fun j => by rw [hfz w.heap.size j (by simp)]; simp
        clear hb hc hfz hz
        go_wp2_with fail
        refine (Hp.out _).mono ?_
        rintro e w2 ⟨rfl, rfl⟩
        go_wp2_with fail
        refine (Hs.out _).mono ?_
        rintro e w2 ⟨rfl, rfl⟩
        go_wp2_with fail
        go_region_with (go_at_call 49; refine (Hn.out _).mono ?_; rintro e w' ⟨rfl, hb6⟩; obtain ⟨hc6, hfz6, hz6⟩ := bcell hb6; have y0 : w'.cell? ⟨w.heap.size, 0, none⟩ = some (.string ⟨#[]⟩) := (by rw [hc6 w.heap.size 0 (by simp; omega)]; simp [go_sem, u0, hn1, hn2, hzz]); have y1 : w'.cell? ⟨w.heap.size, 1, none⟩ = some (.string ⟨#[]⟩) := (by rw [hc6 w.heap.size 1 (by simp; omega)]; simp [go_sem, u1, hn1, hn2, hzz]); have y2 : w'.cell? ⟨w.heap.size, 2, none⟩ = some (.string ⟨#[]⟩) := (by rw [hc6 w.heap.size 2 (by simp; omega)]; simp [go_sem, u2, hn1, hn2, hzz]); have y6 := hz6 w.heap.size (by simp; omega))
        all_goals
          go_wp2
          refine bodyPost_ret (v := .tuple #[.agg #[.string ⟨(s.take (s.length - (nm.length + 1 + 1))).toArray⟩, .string ⟨#[64]⟩, .string ⟨nm.toArray⟩], .bool false]) (by simp [results, Tryd.results30, go_sem, u0, u1, u2, fu, hn1, hn2, hzz, y0, y1, y2]) rfl ?_
          exact KdPost.no Hk.out rfl (by (repeat (first | exact Hb.out | refine Below.setCell ?_ (by first | exact Nat.le_refl _ | (simp; omega) | omega) _ | refine Below.alloc ?_ (by first | exact Nat.le_refl _ | (simp; omega) | omega) _ | refine Below.drew ?_ | refine Below.trans ?_ (hb6.mono (by first | exact Nat.le_refl _ | (simp; omega) | omega)))))
    · have Hp := Lib.hid (fun W => HasPrefix_any r [64] W)
      have Hs := Lib.hid (fun W => HasSuffix_any r [59] W (by omega))
      have Hk := Lib.hid hk
      have q1' : ¬ (r = [110]) := by simpa using q1
      have q2' : ¬ (r = [116]) := by simpa using q2
      have q3' : ¬ (r = [102]) := by simpa using q3
      clear hk k1 k2 k3
      rcases hh with hh | ⟨hh, hl2⟩
      · have hp : ([64] : List UInt8).isPrefixOf r = false := by
          cases r with
          | nil => rfl
          | cons c r => simp at hh; simp [List.isPrefixOf]; exact fun e => hh e.symm
        rw [hp] at Hp
        clear hp hh
        go_enter Tryd.func30, Tryd.ntmps30
        go_wp2_with fail
        refine (HT.out _).mono ?_
        rintro e w1 ⟨rfl, hb⟩
        obtain ⟨hc, hfz, hz⟩ := bcell hb
        have hzz := hz w.heap.size (by simp)
        have hn1 : ¬ (w1.heap.size = w.heap.size) := by omega
        have hn2 : ¬ (w.heap.size = w1.heap.size) := by omega
        have Hb := Lib.hid (((Below.refl w.heap.size w).alloc (Nat.le_refl _) _).trans (hb.mono (by simp)))
        have u0 : w1.cell? ⟨w.heap.size, 0, none⟩ = some (.string ⟨#[]⟩) := by rw [hc w.heap.size 0 (by simp)]; simp
        have u1 : w1.cell? ⟨w.heap.size, 1, none⟩ = some (.string ⟨#[]⟩) := by rw [hc w.heap.size 1 (by simp)]; simp
        have u2 : w1.cell? ⟨w.heap.size, 2, none⟩ = some (.string ⟨#[]⟩) := by rw [hc w.heap.size 2 (by simp)]; simp
        have fu : ∀ j, w1.frozen? ⟨w.heap.size, j, none⟩ = false := fun j => by rw [hfz w.heap.size j (by simp)]; simp
        clear hb hc hfz hz
        go_wp2_with fail
        refine (Hp.out _).mono ?_
        rintro e w2 ⟨rfl, rfl⟩
        go_wp2_with fail
        refine bodyPost_ret (v := .tuple #[.agg #[.string ⟨#[]⟩, .string ⟨#[]⟩, .string ⟨#[]⟩], .bool false]) (by simp [results, Tryd.results30, go_sem, u0, u1, u2, fu, hn1, hn2, hzz]) rfl ?_
        exact KdPost.no Hk.out rfl (by (repeat (first | exact Hb.out | refine Below.setCell ?_ (by first | exact Nat.le_refl _ | (simp; omega) | omega) _ | refine Below.alloc ?_ (by first | exact Nat.le_refl _ | (simp; omega) | omega) _ | refine Below.drew ?_)))
      · have hp : ([64] : List UInt8).isPrefixOf r = true := by
          cases r with
          | nil => simp at hh
          | cons c r => simp at hh; subst hh; rfl
        have hs : Lib.hasSuffix r [59] = false := by rw [hasSuffix_one]; simpa using hl2
        rw [hp] at Hp
        rw [hs] at Hs
        clear hp hs hh hl2
        go_enter Tryd.func30, Tryd.ntmps30
        go_wp2_with fail
        refine (HT.out _).mono ?_
        rintro e w1 ⟨rfl, hb⟩
        obtain ⟨hc, hfz, hz⟩ := bcell hb
        have hzz := hz w.heap.size (by simp)
        have hn1 : ¬ (w1.heap.size = w.heap.size) := by omega
        have hn2 : ¬ (w.heap.size = w1.heap.size) := by omega
        have Hb := Lib.hid (((Below.refl w.heap.size w).alloc (Nat.le_refl _) _).trans (hb.mono (by simp)))
        have u0 : w1.cell? ⟨w.heap.size, 0, none⟩ = some (.string ⟨#[]⟩) := by rw [hc w.heap.size 0 (by simp)]; simp
        have u1 : w1.cell? ⟨w.heap.size, 1, none⟩ = some (.string ⟨#[]⟩) := by rw [hc w.heap.size 1 (by simp)]; simp
        have u2 : w1.cell? ⟨w.heap.size, 2, none⟩ = some (.string ⟨#[]⟩) := by rw [hc w.heap.size 2 (by simp)]; simp
        have fu : ∀ j, w1.frozen? ⟨w.heap.size, j, none⟩ = false := fun j => by rw [hfz w.heap.size j (by simp)]; simp
        clear hb hc hfz hz
        go_wp2_with fail
        refine (Hp.out _).mono ?_
        rintro e w2 ⟨rfl, rfl⟩
        go_wp2_with fail
        refine (Hs.out _).mono ?_
        rintro e w2 ⟨rfl, rfl⟩
        go_wp2_with fail
        refine bodyPost_ret (v := .tuple #[.agg #[.string ⟨#[]⟩, .string ⟨#[]⟩, .string ⟨#[]⟩], .bool false]) (by simp [results, Tryd.results30, go_sem, u0, u1, u2, fu, hn1, hn2, hzz]) rfl ?_
        exact KdPost.no Hk.out rfl (by (repeat (first | exact Hb.out | refine Below.setCell ?_ (by first | exact Nat.le_refl _ | (simp; omega) | omega) _ | refine Below.alloc ?_ (by first | exact Nat.le_refl _ | (simp; omega) | omega) _ | refine Below.drew ?_)))
end Go.Proofs.YtcjfgbcdlcdeaaaDoor
/- How the program's fields, types and schemas lie in memory. -/
namespace Go.Proofs.YtcjfgbcdlcdeaaaDoor
open Go.RowKit
set_option linter.unusedVariables false

/-- The cells of a field of the program. -/
def ifc (f : Fd) : List Value := [.int .i64 (f.tag : Int), .string ⟨f.name.toArray⟩, .string ⟨f.kind.signs.toArray⟩, .string ⟨f.kind.base.toArray⟩, .string ⟨f.kind.name.toArray⟩, .string ⟨f.given.toArray⟩]
def ifV (f : Fd) : Value := .agg #[.int .i64 (f.tag : Int), .string ⟨f.name.toArray⟩, .string ⟨f.kind.signs.toArray⟩, .string ⟨f.kind.base.toArray⟩, .string ⟨f.kind.name.toArray⟩, .string ⟨f.given.toArray⟩]
theorem ifc_len (f : Fd) : (ifc f).length = 6 := rfl
/-- A slice value that reads as fields. -/
def IFds (w : World) (v : Value) (fs : List Fd) : Prop := ∃ A c, v = .slice A fs.length c ∧ fs.length ≤ 8 ∧ RowAt w A (fs.length * 6) (fs.flatMap ifc)
theorem IFds.below {w w' : World} {v : Value} {fs : List Fd} (h : IFds w v fs) (hb : Below w.heap.size w w') : IFds w' v fs := by
  obtain ⟨A, c, e, hl, hr⟩ := h
  exact ⟨A, c, e, hl, hr.below hb⟩
theorem IFds.at_ {w : World} {A : Option Addr} {fs : List Fd} (hr : RowAt w A (fs.length * 6) (fs.flatMap ifc)) {i : Nat} (hi : i < fs.length) :
    ∃ b off, A = some ⟨b, off, none⟩ ∧ b < w.heap.size ∧ w.cell? ⟨b, off + i * 6, none⟩ = some (.int .i64 (fs[i].tag : Int)) ∧ w.cell? ⟨b, off + i * 6 + 1, none⟩ = some (.string ⟨fs[i].name.toArray⟩) ∧
      w.cell? ⟨b, off + i * 6 + 2, none⟩ = some (.string ⟨fs[i].kind.signs.toArray⟩) ∧ w.cell? ⟨b, off + i * 6 + 3, none⟩ = some (.string ⟨fs[i].kind.base.toArray⟩) ∧
      w.cell? ⟨b, off + i * 6 + 4, none⟩ = some (.string ⟨fs[i].kind.name.toArray⟩) ∧ w.cell? ⟨b, off + i * 6 + 5, none⟩ = some (.string ⟨fs[i].given.toArray⟩) := by
  obtain ⟨b, off, e, hlt, hc⟩ := hr.elem ifc_len (by decide) hi
  refine ⟨b, off, e, hlt, ?_, ?_, ?_, ?_, ?_, ?_⟩
  · have := hc 0 _ rfl; simpa using this
  · have := hc 1 _ rfl; simpa [Nat.add_assoc] using this
  · have := hc 2 _ rfl; simpa [Nat.add_assoc] using this
  · have := hc 3 _ rfl; simpa [Nat.add_assoc] using this
  · have := hc 4 _ rfl; simpa [Nat.add_assoc] using this
  · have := hc 5 _ rfl; simpa [Nat.add_assoc] using this

/-- A type of the program: its block, and the slice in which its fields lie. -/
structure PT where
  ty : Ty
  blk : Nat
  fv : Value
/-- A block of cells that may be written whole. -/
def Blk (w : World) (b : Nat) : Prop := ∃ cs t, w.heap[b]? = some (.cells cs t (0, 0))
theorem Blk.belowAt {B : Nat} {w w' : World} {b : Nat} (h : Blk w b) (hb : b < B) (hw : Below B w w') : Blk w' b := by
  obtain ⟨cs, t, h⟩ := h
  exact ⟨cs, t, (hw.block b hb).trans h⟩
theorem Blk.grown {w w' : World} {b : Nat} {row : Option Nat} (h : Blk w b) (hb : b < w.heap.size) (hg : w.grownBy w' row) (hne : some b ≠ row) : Blk w' b := by
  obtain ⟨cs, t, h⟩ := h
  exact ⟨cs, t, (hg.block b hb hne).trans h⟩
theorem Blk.set {w : World} {b o : Nat} (h : Blk w b) (v : Value) : Blk (w.setCell ⟨b, o, none⟩ v) b := by
  obtain ⟨cs, t, h⟩ := h
  exact ⟨_, t, heap_setCell_same w b o cs t v h⟩
theorem Blk.new (w : World) (cs : Array Value) (t : TypeId) : Blk (w.alloc (.cells cs t)) w.heap.size := ⟨cs, t, heap_alloc_new w _⟩
def PT.ptr (x : PT) : Value := .pointer (some ⟨x.blk, 0, none⟩)
def ITy (w : World) (x : PT) : Prop :=
  x.blk < w.heap.size ∧ Blk w x.blk ∧ w.cell? ⟨x.blk, 0, none⟩ = some (.int .u8 (x.ty.sort.toNat : Int)) ∧ w.cell? ⟨x.blk, 1, none⟩ = some (.string ⟨x.ty.name.toArray⟩) ∧ w.cell? ⟨x.blk, 2, none⟩ = some x.fv ∧ w.cell? ⟨x.blk, 3, none⟩ = some (.string ⟨(tyB x.ty).toArray⟩) ∧ IFds w x.fv x.ty.fields
theorem ITy.below {w w' : World} {x : PT} (h : ITy w x) (hb : Below w.heap.size w w') : ITy w' x := by
  obtain ⟨h0, hk, h1, h2, h3, h4, h5⟩ := h
  obtain ⟨hc, _, hz⟩ := bcell hb
  exact ⟨hz _ h0, hk.belowAt h0 hb, (hc _ _ h0).trans h1, (hc _ _ h0).trans h2, (hc _ _ h0).trans h3, (hc _ _ h0).trans h4, h5.below hb⟩
def ptysOf (xs : List PT) : List Ty := xs.map (·.ty)
def findP (xs : List PT) (n : Name) : Option PT := xs.find? fun x => decide (x.ty.name = n)
theorem findP_ty (xs : List PT) (n : Name) : findTy (ptysOf xs) n = (findP xs n).map (·.ty) := by
  unfold findTy ptysOf findP; rw [List.find?_map]; rfl
theorem findP_mem {xs : List PT} {n : Name} {x : PT} (h : findP xs n = some x) : x ∈ xs ∧ x.ty.name = n ∧ findTy (ptysOf xs) n = some x.ty := by
  refine ⟨List.mem_of_find?_eq_some h, ?_, by rw [findP_ty, h]; rfl⟩
  have := List.find?_some h
  simpa using this
/-- What the map of names gives. -/
def ptrP : Option PT → Value
  | some x => x.ptr
  | none => .pointer none
def namedF (xs : List PT) (l : Lit) : Value := match l with | .string s => ptrP (findP xs s) | _ => .pointer none

theorem Tryd.keyStr : Go.Maps.Keyed Tryd.prog 9 := Go.Maps.string_keyed Tryd.underlying9
theorem Tryd.zeroPtr (w : World) : (zeroValue 81).run Tryd.prog w = .ok (.pointer none) w := by kernel_rfl

/-- A map of names. -/
def INamed (w : World) (mb : Nat) (xs : List PT) : Prop := FMap Tryd.prog 9 (.pointer none) w mb xs.length (namedF xs)
/-- A pointer that reads as a schema. -/
def ISc (w : World) (p : Value) (xs : List PT) : Prop :=
  ∃ b A c mb, p = .pointer (some ⟨b, 0, none⟩) ∧ b < w.heap.size ∧ w.cell? ⟨b, 0, none⟩ = some (.slice A xs.length c) ∧ w.cell? ⟨b, 1, none⟩ = some (.map (some mb)) ∧ RowAt w A xs.length (xs.map (·.ptr)) ∧ INamed w mb xs ∧ (∀ x ∈ xs, ITy w x) ∧ xs.Pairwise fun x y => x.blk ≠ y.blk
theorem ISc.below {w w' : World} {p : Value} {xs : List PT} (h : ISc w p xs) (hb : Below w.heap.size w w') : ISc w' p xs := by
  obtain ⟨b, A, c, mb, e, h0, h1, h2, h3, h4, h5, h6⟩ := h
  obtain ⟨hc, _, hz⟩ := bcell hb
  exact ⟨b, A, c, mb, e, hz _ h0, (hc _ _ h0).trans h1, (hc _ _ h0).trans h2, h3.below hb, FMap.below h4 hb, fun x hx => (h5 x hx).below hb, h6⟩
theorem keyName {n : Name} (h : n.length ≤ 9223372036854775807) : keyOf Tryd.prog 9 (.string ⟨n.toArray⟩) = some (.string n) := by
  have := Go.WideMaps.keyOf_string_mk (P := Tryd.prog) (k := 9) Tryd.underlying9 (s := ⟨n.toArray⟩) (by unfold maxLen; exact h)
  simpa using this

/-- What reading a field leaves. -/
def IfPost (o : Option Fd) (w : World) (e : Ending) (w' : World) : Prop :=
  (match o with
    | some f => e = .returned (.tuple #[ifV f, .bool true])
    | none => ∃ (n : Int) (a b c d g : ByteArray), e = .returned (.tuple #[.agg #[.int .i64 n, .string a, .string b, .string c, .string d, .string g], .bool false])) ∧ Below w.heap.size w w'
theorem IfPost.no {w w' : World} {e : Ending} {o : Option Fd} (ho : o = none) {n : Int} {a b c d g : ByteArray} (he : e = .returned (.tuple #[.agg #[.int .i64 n, .string a, .string b, .string c, .string d, .string g], .bool false])) (hb : Below w.heap.size w w') : IfPost o w e w' := by
  rw [ho]; exact ⟨⟨n, a, b, c, d, g, he⟩, hb⟩
theorem IfPost.yes {w w' : World} {e : Ending} {o : Option Fd} {f : Fd} (ho : o = some f) (he : e = .returned (.tuple #[ifV f, .bool true])) (hb : Below w.heap.size w w') : IfPost o w e w' := by
  rw [ho]; exact ⟨he, hb⟩
end Go.Proofs.YtcjfgbcdlcdeaaaDoor
/- Standing values and decimals of the program: standing, decimal. -/
namespace Go.Proofs.YtcjfgbcdlcdeaaaDoor
open Go.RowKit
set_option maxRecDepth 100000
set_option linter.unusedVariables false
attribute [local go_sem] ba_get ba_toList ba_extract take_drop_all ByteArray.mk_append_mk

theorem byteV' (n : Nat) (h : n < 256) : Value.int .u8 (n : Int) = .int .u8 ((byteOf n).toNat : Int) := by rw [byteOf_toNat h]

set_option maxHeartbeats 400000 in
theorem decimal_one (n : Nat) (w : World) (hn : n < 10) :
    Calls Tryd.prog 83 #[.int .i64 n] w fun e w' => e = .returned (.string ⟨(decB n).toArray⟩) ∧ Below w.heap.size w w' := by
  have Hfin := Lib.hid (decB_small hn)
  have hcv := fun W => Tryd.conv1 W w.heap.size 1 (byteOf (48 + n))
  rw [byteOf_toNat (by omega)] at hcv
  go_enter Tryd.func83, Tryd.ntmps83
  go_wp2_with fail
  go_ret
  exact ⟨by rw [Hfin.out]; rfl, (Below.refl _ _).alloc (Nat.le_refl _) _⟩

set_option maxHeartbeats 400000 in
theorem decimal_any : ∀ (k n : Nat) (w : World), n ≤ k → n ≤ 1000000000 →
    Calls Tryd.prog 83 #[.int .i64 n] w fun e w' => e = .returned (.string ⟨(decB n).toArray⟩) ∧ Below w.heap.size w w' := by
  intro k
  induction k with
  | zero => intro n w hn h; exact decimal_one n w (by omega)
  | succ k ih =>
    intro n w hn h
    by_cases h10 : n < 10
    · exact decimal_one n w h10
    · have Hfin := Lib.hid (decB_step h10)
      have Hs := Lib.hid (decB_small (show n % 10 < 10 by omega))
      have Ih := Lib.hid (fun W => ih (n / 10) W (by omega) (by omega))
      have hl := decB_len 8 (n / 10) (by have e : 10 ^ (8 + 1) = 1000000000 := rfl; omega)
      have e1 : ((n : Int) / 10) = ((n / 10 : Nat) : Int) := by omega
      have e2 : ((n : Int) % 10) = ((n % 10 : Nat) : Int) := by omega
      have E1 := Lib.hid e1
      have E2 := Lib.hid e2
      clear ih e1 e2
      go_enter Tryd.func83, Tryd.ntmps83
      go_wp2_with fail
      rw [E1.out]
      refine (Ih.out _).mono ?_
      rintro e w1 ⟨rfl, hb1⟩
      have Hb1 := Lib.hid hb1
      clear hb1
      go_wp2_with fail
      rw [E2.out]
      refine (decimal_one (n % 10) w1 (by omega)).mono ?_
      rintro e w2 ⟨rfl, hb2⟩
      have Hb2 := Lib.hid (Hb1.out.trans (hb2.mono Hb1.out.size))
      rw [Hs.out]
      clear hb2
      go_wp2_with fail
      go_ret
      exact ⟨by rw [Hfin.out]; rfl, Hb2.out⟩

/-- The bases of kinds. -/
def baseL (b : List UInt8) : Prop := b = [110] ∨ b = [116] ∨ b = [102] ∨ b = [64]

theorem standOk_n {s : List UInt8} : standOk [110] s = (match decL s with | some n => decide (0 < n) | none => false) := rfl
theorem standOk_t {s : List UInt8} : standOk [116] s = (decide (2 < s.length) && decide (s.head? = some 39) && decide (s.getLast? = some 39) && textOk (s.drop 1).dropLast) := rfl
theorem standOk_f {s : List UInt8} : standOk [102] s = decide (s = [121, 101, 115]) := rfl
theorem standOk_at {s : List UInt8} : standOk [64] s = false := rfl

set_option maxHeartbeats 400000 in
theorem standing_n (s : List UInt8) (w : World) (hs : s.length ≤ 4000000) :
    Calls Tryd.prog 75 #[.string ⟨#[110]⟩, .string ⟨s.toArray⟩] w fun e w' => e = .returned (.bool (standOk [110] s)) ∧ Below w.heap.size w w' := by
  have Hp := Lib.hid (fun W => plainNumber_any s 999999 W (by omega) (by omega))
  have Hf := Lib.hid (standOk_n (s := s))
  cases hd : decL s with
  | none =>
    rw [hd] at Hf
    have Hv := Lib.hid (pnV_no (m := 999999) hd)
    clear hd
    go_enter Tryd.func75, Tryd.ntmps75
    go_wp2_with fail
    refine (Hp.out _).mono ?_
    rintro e w' ⟨rfl, rfl⟩
    rw [Hv.out]
    go_wp2_with fail
    go_ret
    exact ⟨ret1 (vbool Hf.out.symm), Below.refl _ _⟩
  | some n =>
    rw [hd] at Hf
    have h9 := (decL_some.1 hd).1
    have Hv := Lib.hid (pnV_yes (m := 999999) hd)
    have t1 : decide (n ≤ 999999) = true := by simp; exact h9
    clear hd
    rcases Nat.lt_or_ge 0 n with hn | hn
    all_goals
      go_enter Tryd.func75, Tryd.ntmps75
      go_wp2_with fail
      refine (Hp.out _).mono ?_
      rintro e w' ⟨rfl, rfl⟩
      rw [Hv.out, t1]
      go_wp2_with fail
      go_ret
      exact ⟨ret1 (vbool (by rw [Hf.out]; first | done | (simp; try omega))), Below.refl _ _⟩

set_option maxHeartbeats 400000 in
theorem standing_f (s : List UInt8) (w : World) (hs : s.length ≤ 4000000) :
    Calls Tryd.prog 75 #[.string ⟨#[102]⟩, .string ⟨s.toArray⟩] w fun e w' => e = .returned (.bool (standOk [102] s)) ∧ Below w.heap.size w w' := by
  have Hf := Lib.hid (standOk_f (s := s))
  by_cases hy : s = [121, 101, 115]
  · subst hy
    go_enter Tryd.func75, Tryd.ntmps75
    go_wp2_with fail
    go_ret
    exact ⟨ret1 (vbool (by rw [Hf.out]; simp)), Below.refl _ _⟩
  · have Hy := Lib.hid (show decide (s = [121, 101, 115]) = false by simpa using hy)
    have ty : (s == [121, 101, 115]) = false := by simpa using hy
    clear hy
    go_enter Tryd.func75, Tryd.ntmps75
    go_wp2_with fail
    go_ret
    exact ⟨ret1 (vbool (by rw [Hf.out, Hy.out])), Below.refl _ _⟩

theorem standing_at (s : List UInt8) (w : World) :
    Calls Tryd.prog 75 #[.string ⟨#[64]⟩, .string ⟨s.toArray⟩] w fun e w' => e = .returned (.bool (standOk [64] s)) ∧ Below w.heap.size w w' := by
  go_enter Tryd.func75, Tryd.ntmps75
  go_wp2_with fail
  go_ret
  exact ⟨rfl, Below.refl _ _⟩

set_option maxHeartbeats 800000 in
theorem standing_t (s : List UInt8) (w : World) (hs : s.length ≤ 4000000) :
    Calls Tryd.prog 75 #[.string ⟨#[116]⟩, .string ⟨s.toArray⟩] w fun e w' => e = .returned (.bool (standOk [116] s)) ∧ Below w.heap.size w w' := by
  have hf := standOk_t (s := s)
  rcases Nat.lt_or_ge 2 s.length with h2 | h2
  · obtain ⟨c, u, d, rfl⟩ : ∃ c u d, s = c :: (u ++ [d]) := by
      cases s with
      | nil => simp at h2
      | cons c t =>
        rcases snoc_cases t with rfl | ⟨u, d, rfl⟩
        · simp at h2
        · exact ⟨c, u, d, rfl⟩
    have hl : (c :: (u ++ [d])).getLast? = some d := by
      rw [show c :: (u ++ [d]) = (c :: u) ++ [d] from rfl, List.getLast?_append]; rfl
    have hu : ((c :: (u ++ [d])).drop 1).dropLast = u := by simp
    rw [hl, hu] at hf
    have t0 : decide (2 < (c :: (u ++ [d])).length) = true := by simpa using h2
    rw [t0] at hf
    simp only [List.head?_cons, Option.some.injEq, Bool.true_and] at hf
    have Hf := Lib.hid hf
    have hc := c.toNat_lt
    have hd := d.toNat_lt
    have hgd : ∀ h, (c :: (u ++ [d]))[u.length + 1]'h = d := by intro h; simp
    have hsl : (List.take u.length (u ++ [d])) = u := by simp
    have hul : 2 ≤ u.length + 1 := by simp at h2; omega
    have hul2 : u.length ≤ 4000000 := by simp at hs; omega
    clear hf hl hu h2 hs t0
    by_cases hc39 : c = 39
    · have t1 : ((c.toNat : Int) == 39) = true := byte_eq hc39
      have Hc := Lib.hid (show decide (c = 39) = true by simpa using hc39)
      clear hc39
      by_cases hd39 : d = 39
      · have t2 : ((d.toNat : Int) == 39) = true := byte_eq hd39
        have Hd := Lib.hid (show decide (d = 39) = true by simpa using hd39)
        clear hd39
        go_enter Tryd.func75, Tryd.ntmps75
        go_wp2_with fail
        refine (isText_any u _ (by omega)).mono ?_
        rintro e w' ⟨rfl, hb⟩
        go_wp2_with fail
        go_ret
        exact ⟨ret1 (vbool (by rw [Hf.out, Hc.out, Hd.out]; simp)), hb⟩
      · have t2 : ((d.toNat : Int) == 39) = false := byte_ne hd39
        have Hd := Lib.hid (show decide (d = 39) = false by simpa using hd39)
        clear hd39
        go_enter Tryd.func75, Tryd.ntmps75
        go_wp2_with fail
        go_ret
        exact ⟨ret1 (vbool (by rw [Hf.out, Hd.out]; simp)), Below.refl _ _⟩
    · have t1 : ((c.toNat : Int) == 39) = false := byte_ne hc39
      have Hc := Lib.hid (show decide (c = 39) = false by simpa using hc39)
      clear hc39
      go_enter Tryd.func75, Tryd.ntmps75
      go_wp2_with fail
      go_ret
      exact ⟨ret1 (vbool (by rw [Hf.out, Hc.out]; simp)), Below.refl _ _⟩
  · have e0 : decide (2 < s.length) = false := by simp; omega
    have Hf := Lib.hid (show standOk [116] s = false by rw [hf, e0]; simp)
    clear e0
    have t0 : decide (2 < (s.length : Int)) = false := by simp; omega
    clear hf
    go_enter Tryd.func75, Tryd.ntmps75
    go_wp2_with fail
    go_ret
    exact ⟨ret1 (vbool Hf.out.symm), Below.refl _ _⟩

theorem standing_any (b s : List UInt8) (w : World) (hb : baseL b) (hs : s.length ≤ 4000000) :
    Calls Tryd.prog 75 #[.string ⟨b.toArray⟩, .string ⟨s.toArray⟩] w fun e w' => e = .returned (.bool (standOk b s)) ∧ Below w.heap.size w w' := by
  rcases hb with rfl | rfl | rfl | rfl
  · exact standing_n s w hs
  · exact standing_t s w hs
  · exact standing_f s w hs
  · exact standing_at s w
end Go.Proofs.YtcjfgbcdlcdeaaaDoor
/- The reference's used: plain words and small laws. -/
namespace Go.Proofs.YtcjfgbcdlcdeaaaDoor
open Go.RowKit
set_option linter.unusedVariables false

theorem blt (a b : Name) : Op.bytesLess a b = decide (a < b) := bytesLess_eq a b

/-- A slice that reads as texts. -/
def OutRow (w : World) (v : Value) (l : List Name) : Prop :=
  ∃ g c, v = .slice (some ⟨g, 0, none⟩) l.length c ∧ g < w.heap.size ∧ l.length ≤ c ∧ c ≤ maxLen ∧ ∀ j (hj : j < l.length), w.cell? ⟨g, j, none⟩ = some (.string ⟨l[j].toArray⟩)
theorem OutRow.below {w w' : World} {v : Value} {l : List Name} (h : OutRow w v l) (hb : Below w.heap.size w w') : OutRow w' v l := by
  obtain ⟨g, c, rfl, hg, h1, h2, hc⟩ := h
  exact ⟨g, c, rfl, Nat.lt_of_lt_of_le hg hb.size, h1, h2, fun j hj => (hb.cell (p := ⟨g, j, none⟩) hg).trans (hc j hj)⟩
theorem OutRow.own {w : World} {base : Nat} {v : Value} {n : Nat} {l : List Name} (h : w.ownsRow base 9 1 v n (scells l)) (hne : l ≠ []) : OutRow w v l := by
  obtain rfl : n = l.length := by have := h.1; simp [scells] at this; omega
  rcases h.2 with ⟨_, h0⟩ | ⟨g, cap, cur, rfl, hb, hh, hnc, hcm, _⟩
  · cases l with
    | nil => exact absurd rfl hne
    | cons => simp at h0
  · refine ⟨g, cap, rfl, (h.lt g rfl).2, hnc, hcm, fun j hj => ?_⟩
    have := h.cells (g := g) rfl j (.string ⟨l[j].toArray⟩) (by simp [scells, hj])
    rwa [addr0] at this

def UsPost (l : List Name) (w : World) (e : Ending) (w' : World) : Prop := ∃ v, e = .returned v ∧ OutRow w' v l ∧ Below w.heap.size w w'

/-- Where a name's place is. -/
theorem place (p : Name → Bool) : ∀ (l : List Name), (∀ (j : Nat) (hj : j < l.length), j < (l.takeWhile p).length → p l[j] = true) ∧ (∀ (h : (l.takeWhile p).length < l.length), p l[(l.takeWhile p).length] = false) ∧
    l.takeWhile p = l.take (l.takeWhile p).length ∧ l.dropWhile p = l.drop (l.takeWhile p).length ∧ (l.takeWhile p).length ≤ l.length
  | [] => by simp
  | x :: l => by
    obtain ⟨i1, i2, i3, i4, i5⟩ := place p l
    by_cases h : p x = true
    · simp only [List.takeWhile_cons, List.dropWhile_cons, h, if_true, List.length_cons]
      refine ⟨?_, ?_, ?_, ?_, by omega⟩
      · intro j hj hlt
        cases j with
        | zero => simpa using h
        | succ j => simpa using i1 j (by simpa using hj) (by simpa using hlt)
      · intro hh
        simpa using i2 (by simpa using hh)
      · simpa using i3
      · simpa using i4
    · have h' : p x = false := by simpa using h
      simp [h']

theorem used_no {S : List Ty} {n : Nat} {k : Kd} {l : List Name} (h : k.base ≠ [64]) : usedN S (n + 1) k l = l := by rw [usedN, if_neg (fun e => h e.1)]
theorem used_has {S : List Ty} {n : Nat} {k : Kd} {l : List Name} (h : hasS k.name l = true) : usedN S (n + 1) k l = l := by rw [usedN, if_neg (fun e => by rw [h] at e; exact absurd e.2 (by decide))]
theorem used_step {S : List Ty} {n : Nat} {k : Kd} {l : List Name} {t : Ty} (hb : k.base = [64]) (h : hasS k.name l = false) (hf : findTy S k.name = some t) :
    usedN S (n + 1) k l = if t.sort = 69 then putS k.name l else t.fields.foldl (fun o f => usedN S n f.kind o) (putS k.name l) := by rw [usedN, if_pos ⟨hb, h⟩, hf]
/-- What is used, so far: the words that each call keeps. -/
theorem used_keep {S : List Ty} (hS : kindsOk S) (n : Nat) {k : Kd} {l : List Name} (hk : refOk S k) (hm : Mets S l) (hs : SortedN l) :
    Mets S (usedN S n k l) ∧ SortedN (usedN S n k l) ∧ l.length ≤ (usedN S n k l).length := by
  obtain ⟨h1, h2⟩ := used_met S n k l l hs (List.Perm.refl _)
  obtain ⟨h3, m, h4⟩ := metN_mets hS n k l hk hm
  refine ⟨h3.perm h2.symm, h1, ?_⟩
  rw [h2.length_eq, h4]; simp
theorem fold_take {α β : Type} (f : β → α → β) (b : β) (l : List α) (j : Nat) (hj : j < l.length) : (l.take (j + 1)).foldl f b = f ((l.take j).foldl f b) l[j] := by
  rw [take_snoc l j hj, List.foldl_append]; rfl
theorem SSc.fds {w : World} {v : Value} {xs : List (Ty × Value)} (h : SSc w v xs) {x : Ty × Value} (hx : x ∈ xs) : SFds w x.2 x.1.fields := by
  obtain ⟨_, _, _, _, _, h⟩ := h
  exact h x hx
theorem fields_len {t : Ty} (h : tyOk t) : t.fields.length ≤ 8 ∧ (t.sort = 69 → 0 < t.fields.length) := by
  obtain ⟨_, _, _, h4, h5⟩ := h
  refine ⟨h4, fun e => ?_⟩
  rcases Nat.eq_zero_or_pos t.fields.length with h0 | h0
  · have := h5 (List.eq_nil_of_length_eq_zero h0)
    rw [e] at this; exact absurd this (by decide)
  · exact h0
theorem bne_byte {c d : UInt8} (h : c ≠ d) : ((c.toNat : Int) != (d.toNat : Int)) = true := by
  rw [bne_iff_ne]; intro e
  exact h (UInt8.toNat_inj.1 (by omega))
theorem bne_byte_no {c d : UInt8} (h : c = d) : ((c.toNat : Int) != (d.toNat : Int)) = false := by subst h; simp
/-- The cells of a part of a row. -/
theorem take_cells {w : World} {g : Nat} {l : List Name} (h : ∀ j (hj : j < l.length), w.cell? ⟨g, j, none⟩ = some (.string ⟨l[j].toArray⟩)) {j i : Nat} {x : Value} (hx : (scells (l.take j))[i]? = some x) : w.cell? ⟨g, i, none⟩ = some x := by
  unfold scells at hx
  rw [List.getElem?_map, List.getElem?_take] at hx
  split at hx
  · rename_i hij
    cases hq : l[i]? with
    | none => rw [hq] at hx; cases hx
    | some y =>
      rw [hq] at hx
      simp at hx; subst hx
      obtain ⟨hi, rfl⟩ := List.getElem?_eq_some_iff.1 hq
      exact h i hi
  · cases hx
theorem drop_cells {w : World} {g : Nat} {l : List Name} (h : ∀ j (hj : j < l.length), w.cell? ⟨g, j, none⟩ = some (.string ⟨l[j].toArray⟩)) {j i : Nat} {x : Value} (hx : (scells (l.drop j))[i]? = some x) : w.cell? ⟨g, j + i, none⟩ = some x := by
  unfold scells at hx
  rw [List.getElem?_map, List.getElem?_drop] at hx
  cases hq : l[j + i]? with
  | none => rw [hq] at hx; cases hx
  | some y =>
    rw [hq] at hx
    simp at hx; subst hx
    obtain ⟨hi, rfl⟩ := List.getElem?_eq_some_iff.1 hq
    exact h (j + i) hi
end Go.Proofs.YtcjfgbcdlcdeaaaDoor
/- Structs of many cells as ranges of cells: kept, made, written in part; results that lie in cells. Conditions: as each theorem names them. -/
namespace Go.Proofs.YtcjfgbcdlcdeaaaDoor
open Go.RowKit
set_option linter.unusedVariables false

theorem rangeAt_below {B : Nat} {w w' : World} {b o : Nat} {cs : List Value} (h : w.rangeAt b o cs) (hb : b < B) (hw : Below B w w') : w'.rangeAt b o cs := fun j v hv => (hw.cell (p := ⟨b, o + j, none⟩) hb).trans (h j v hv)
theorem there_below {B : Nat} {w w' : World} {b o n : Nat} (h : w.there b o n) (hb : b < B) (hw : Below B w w') : w'.there b o n := fun j hj => by
  rw [hw.cell (p := ⟨b, o + j, none⟩) hb, hw.frozen (p := ⟨b, o + j, none⟩) hb]; exact h j hj
theorem rangeAt_grown {w w' : World} {b o : Nat} {cs : List Value} {row : Option Nat} (h : w.rangeAt b o cs) (hg : w.grownBy w' row) (hne : some b ≠ row) : w'.rangeAt b o cs := fun j v hv => hg.cell (h j v hv) hne
theorem there_grown {w w' : World} {b o n : Nat} {row : Option Nat} (h : w.there b o n) (hg : w.grownBy w' row) (hb : b < w.heap.size) (hne : some b ≠ row) : w'.there b o n := fun j hj => by
  rw [hg.cell_far ⟨b, o + j, none⟩ hb hne, hg.frozen_far ⟨b, o + j, none⟩ hb hne]; exact h j hj
theorem there_sub {w : World} {b o n : Nat} (h : w.there b o n) (p m : Nat) (h1 : o ≤ p) (h2 : p + m ≤ o + n) : w.there b p m := fun j hj => by
  have := h (p + j - o) (by omega)
  rwa [show o + (p + j - o) = p + j by omega] at this
theorem rangeAt_new (w : World) (cs : List Value) (t : TypeId) : (w.alloc (.cells cs.toArray t)).rangeAt w.heap.size 0 cs := fun j v hv => by
  rw [World.cell?_alloc_new]; simpa using hv
theorem there_new (w : World) (cs : List Value) (t : TypeId) : (w.alloc (.cells cs.toArray t)).there w.heap.size 0 cs.length := fun j hj => by
  refine ⟨?_, by simp⟩
  rw [World.cell?_alloc_new]; simp; omega
theorem below_setCells {B : Nat} {a : World} (b : Nat) (hb : B ≤ b) : ∀ (vs : List Value) (o : Nat) (w : World), Below B a w → Below B a (w.setCells b o vs)
  | [], _, _, h => h
  | v :: r, o, w, h => below_setCells b hb r (o + 1) _ (h.setCell hb v)
theorem setCells_size (b : Nat) : ∀ (vs : List Value) (o : Nat) (w : World), (w.setCells b o vs).heap.size = w.heap.size
  | [], _, _ => rfl
  | v :: r, o, w => by rw [World.setCells, setCells_size b r]; simp
theorem rangeAt_cell {w : World} {b o : Nat} {cs : List Value} (h : w.rangeAt b o cs) (j : Nat) {v : Value} (hv : cs[j]? = some v) : w.cell? ⟨b, o + j, none⟩ = some v := h j v hv
theorem rangeAt_part {w : World} {b o : Nat} (l1 l2 l3 : List Value) (h : w.rangeAt b o (l1 ++ (l2 ++ l3))) : w.rangeAt b (o + l1.length) l2 := fun j v hv => by
  have hj := (List.getElem?_eq_some_iff.1 hv).1
  rw [Nat.add_assoc]
  exact h _ v (by rw [List.getElem?_append_right (by omega), Nat.add_sub_cancel_left, List.getElem?_append_left hj]; exact hv)
/-- A part of a range is written. -/
theorem rangeAt_setCells_in {w : World} {b : Nat} (l1 l2 l3 l2' : List Value) (h : w.rangeAt b 0 (l1 ++ (l2 ++ l3))) (hl : l2'.length = l2.length) : (w.setCells b l1.length l2').rangeAt b 0 (l1 ++ (l2' ++ l3)) := fun j v hv => by
  have hjl : j < l1.length + (l2'.length + l3.length) := by
    have := (List.getElem?_eq_some_iff.1 hv).1
    simpa using this
  have hsome : ∀ i, i < l2'.length → (w.cell? ⟨b, l1.length + i, none⟩).isSome = true := fun i hi => by
    have e : (l1 ++ (l2 ++ l3))[l1.length + i]? = some (l2[i]'(by omega)) := by
      rw [List.getElem?_append_right (by omega), List.getElem?_append_left (by omega), Nat.add_sub_cancel_left, List.getElem?_eq_getElem (by omega)]
    have := h _ _ e
    rw [Nat.zero_add] at this
    rw [this]; rfl
  rw [Nat.zero_add]
  rcases Nat.lt_or_ge j l1.length with h1 | h1
  · rw [World.cell?_setCells_out b l2' l1.length w ⟨b, j, none⟩ (fun _ _ => .inl h1)]
    rw [List.getElem?_append_left h1] at hv
    have := h j v (by rw [List.getElem?_append_left h1]; exact hv)
    rwa [Nat.zero_add] at this
  · rw [List.getElem?_append_right h1] at hv
    rcases Nat.lt_or_ge (j - l1.length) l2'.length with h2 | h2
    · rw [List.getElem?_append_left h2, List.getElem?_eq_getElem h2] at hv
      have := World.cell?_setCells_in b l2' l1.length w hsome (j - l1.length) h2
      rw [show l1.length + (j - l1.length) = j by omega] at this
      rw [this]; exact hv
    · rw [World.cell?_setCells_out b l2' l1.length w ⟨b, j, none⟩ (fun _ _ => .inr (by show l1.length + l2'.length ≤ j; omega))]
      rw [List.getElem?_append_right h2] at hv
      have := h j v (by rw [List.getElem?_append_right h1, List.getElem?_append_right (by omega), ← hl]; exact hv)
      rwa [Nat.zero_add] at this

section
variable {P : Program}
/-- A struct is stored: the world behind it under a name of its own. -/
theorem wpList_store_hid {ops : Array Oper} {rest : List Oper} {op : Oper} {a : Act} {w : World} {Q : Exit → Act → World → Prop} (hgd : op.guard = none) (ty : TypeId) (x y : Operand) (ho : op.op = .store ty x y)
    (b o : Nat) (cs : List Value) (hx : a.eval x = .pointer (some ⟨b, o, none⟩)) (hy : a.eval y = .agg cs.toArray)
    (ht : w.there b o cs.length) (hi : (P.info? ty).map (·.size) = some cs.length) (h1 : ∀ v ∈ cs, v.oneCell' = true)
    (h : ∀ w', Hid (w' = w.setCells b o cs) → wpList P ops Q rest (a.put op.dst undef) w') : wpList P ops Q (op :: rest) a w :=
  wpList_store_mid hgd ty x y ho b o cs.toArray hx hy (by simpa using ht) (by simpa using hi) (all_oneCell_toArray h1) (h _ rfl)
/-- Results: a struct that lies in cells, and a slot. -/
theorem results_cell_tmp {fn : Func} {p q : Tmp} {ty : TypeId} (h : fn.results = #[.cell p ty, .tmp q]) (tmps : Array Value) (w : World) (b : Nat) (cs : List Value) (d : TypeDesc) (x : Value)
    (hp : tmps.getD p undef = .pointer (some ⟨b, 0, none⟩)) (hq : tmps.getD q undef = x) (hc : w.rangeAt b 0 cs) (hu : P.underlying ty = some d) (hd : d.isRow = true) (hi : (P.info? ty).map (·.size) = some cs.length) :
    (results fn tmps).run P w = .ok (.tuple #[.agg cs.toArray, x]) w := by
  have hp' : tmps[p]?.getD undef = .pointer (some ⟨b, 0, none⟩) := by simpa using hp
  have hq' : tmps[q]?.getD undef = x := by simpa using hq
  simp [results, h, hp', hq', asAddr, run_loadVar_mid w b 0 ty cs d hc hu hd hi]
/-- Results: a slot, a struct that lies in cells, a slot. -/
theorem results_tmp_cell_tmp {fn : Func} {r p q : Tmp} {ty : TypeId} (h : fn.results = #[.tmp r, .cell p ty, .tmp q]) (tmps : Array Value) (w : World) (b : Nat) (cs : List Value) (d : TypeDesc) (y x : Value)
    (hr : tmps.getD r undef = y) (hp : tmps.getD p undef = .pointer (some ⟨b, 0, none⟩)) (hq : tmps.getD q undef = x) (hc : w.rangeAt b 0 cs) (hu : P.underlying ty = some d) (hd : d.isRow = true) (hi : (P.info? ty).map (·.size) = some cs.length) :
    (results fn tmps).run P w = .ok (.tuple #[y, .agg cs.toArray, x]) w := by
  have hp' : tmps[p]?.getD undef = .pointer (some ⟨b, 0, none⟩) := by simpa using hp
  have hq' : tmps[q]?.getD undef = x := by simpa using hq
  have hr' : tmps[r]?.getD undef = y := by simpa using hr
  simp [results, h, hp', hq', hr', asAddr, run_loadVar_mid w b 0 ty cs d hc hu hd hi]
end
end Go.Proofs.YtcjfgbcdlcdeaaaDoor
