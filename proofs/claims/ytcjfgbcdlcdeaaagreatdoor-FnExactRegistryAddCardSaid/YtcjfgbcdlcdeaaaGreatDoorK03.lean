/- Texts joined: IKind, SL5, IMem, NumsI2, NumsS. Conditions: as each theorem names them. -/
import Derived.Deep.RegionWith
import Derived.Laws.Rows
import Derived.Test.YtcjfgbcdlcdeaaaGreatDoorK01
import Derived.Test.YtcjfgbcdlcdeaaaGreatDoorK02
/- readKind of the program, and the small methods on kinds. -/
namespace Go.Proofs.YtcjfgbcdlcdeaaaGreatDoor
open Go.RowKit
set_option maxRecDepth 100000
set_option linter.unusedVariables false
set_option linter.unusedSimpArgs false
attribute [local go_sem] ba_get ba_toList ba_extract take_drop_all ByteArray.mk_append_mk

def kdV (k : Kd) : Value := .agg #[.string ⟨k.signs.toArray⟩, .string ⟨k.base.toArray⟩, .string ⟨k.name.toArray⟩]
/-- What reading a kind leaves. -/
def KdPost (o : Option Kd) (w : World) (e : Ending) (w' : World) : Prop :=
  (match o with
    | some k => e = .returned (.tuple #[kdV k, .bool true])
    | none => ∃ (a b c : ByteArray), e = .returned (.tuple #[.agg #[.string a, .string b, .string c], .bool false])) ∧ Below w.heap.size w w'
theorem KdPost.no {w w' : World} {e : Ending} {o : Option Kd} (ho : o = none) {a b c : ByteArray} (he : e = .returned (.tuple #[.agg #[.string a, .string b, .string c], .bool false])) (hb : Below w.heap.size w w') : KdPost o w e w' := by
  rw [ho]; exact ⟨⟨a, b, c, he⟩, hb⟩
theorem KdPost.yes {w w' : World} {e : Ending} {o : Option Kd} {k : Kd} (ho : o = some k) (he : e = .returned (.tuple #[kdV k, .bool true])) (hb : Below w.heap.size w w') : KdPost o w e w' := by
  rw [ho]; exact ⟨he, hb⟩

theorem sign_has (c : UInt8) : ([91, 63] : List UInt8).contains c = isSign c := by
  have := all_bytes (p := fun c => ([91, 63] : List UInt8).contains c == isSign c) (by decide +kernel) c
  simpa using this
theorem drop_sign (s : List UInt8) : s.dropWhile (([91, 63] : List UInt8).contains ·) = s.dropWhile isSign := by
  congr 1; funext c; exact sign_has c
theorem hasSuffix_one (r : List UInt8) (c : UInt8) : Lib.hasSuffix r [c] = decide (r.getLast? = some c) := by
  rcases snoc_cases r with rfl | ⟨t, d, rfl⟩
  · rfl
  · unfold Lib.hasSuffix List.isSuffixOf
    rw [List.reverse_append, List.getLast?_append]
    by_cases h : c = d
    · subst h; simp [List.isPrefixOf]
    · have h' : d ≠ c := fun e => h e.symm
      simp [List.isPrefixOf, h, h']

/-- A text by its signs. -/
theorem kindL_split (s : List UInt8) (h : s.length ≤ 12) : ∃ g r, s = g ++ r ∧ s.dropWhile isSign = r ∧
    ((∃ b, (b = 110 ∨ b = 116 ∨ b = 102) ∧ r = [b] ∧ kindL s = some ⟨g, r, []⟩) ∨
     (∃ nm, r = 64 :: (nm ++ [59]) ∧ kindL s = if nameOk nm = true then some ⟨g, [64], nm⟩ else none) ∨
     ((r == [110]) = false ∧ (r == [116]) = false ∧ (r == [102]) = false ∧ (r.head? ≠ some 64 ∨ (r.head? = some 64 ∧ r.getLast? ≠ some 59)) ∧ kindL s = none)) := by
  refine ⟨s.takeWhile isSign, s.dropWhile isSign, List.takeWhile_append_dropWhile.symm, rfl, ?_⟩
  unfold kindL
  rw [if_neg (by omega)]
  by_cases h1 : s.dropWhile isSign = [110] ∨ s.dropWhile isSign = [116] ∨ s.dropWhile isSign = [102]
  · left
    rw [if_pos h1]
    rcases h1 with h | h | h
    · exact ⟨110, by simp, h, rfl⟩
    · exact ⟨116, by simp, h, rfl⟩
    · exact ⟨102, by simp, h, rfl⟩
  · right
    rw [if_neg h1]
    simp only [not_or] at h1
    by_cases h2 : (s.dropWhile isSign).head? = some 64
    · by_cases h3 : (s.dropWhile isSign).getLast? = some 59
      · left
        have e := ends_at h2 h3
        refine ⟨((s.dropWhile isSign).drop 1).dropLast, e, ?_⟩
        by_cases h4 : nameOk ((s.dropWhile isSign).drop 1).dropLast = true
        · rw [if_pos ⟨h2, h3, h4⟩, if_pos h4]
        · rw [if_neg (fun h => h4 h.2.2), if_neg h4]
      · right
        refine ⟨by simpa using h1.1, by simpa using h1.2.1, by simpa using h1.2.2, .inr ⟨h2, h3⟩, ?_⟩
        rw [if_neg (fun h => h3 h.2.1)]
    · right
      refine ⟨by simpa using h1.1, by simpa using h1.2.1, by simpa using h1.2.2, .inl h2, ?_⟩
      rw [if_neg (fun h => h2 h.1)]

set_option maxHeartbeats 1000000 in
theorem readKind_any (s : List UInt8) (w : World) (hs : s.length ≤ 4000000) :
    Calls Tryz.prog 88 #[.string ⟨s.toArray⟩] w (KdPost (kindL s) w) := by
  rcases Nat.lt_or_ge 12 s.length with h12 | h12
  · have Hn := Lib.hid (show kindL s = none by unfold kindL; rw [if_pos h12])
    go_enter Tryz.func88, Tryz.ntmps88
    go_wp2_with fail
    refine bodyPost_ret (v := .tuple #[.agg #[.string ⟨#[]⟩, .string ⟨#[]⟩, .string ⟨#[]⟩], .bool false]) (by simp [results, Tryz.results88, go_sem]) rfl ?_
    exact KdPost.no Hn.out rfl ((Below.refl _ _).alloc (Nat.le_refl _) _)
  · obtain ⟨g, r, hsr, hr, hcase⟩ := kindL_split s h12
    have hT := fun W => TrimLeft_any s [91, 63] W (by decide) (by decide)
    simp only [drop_sign, hr] at hT
    have HT := Lib.hid hT
    have hl : s.length = g.length + r.length := by rw [hsr]; simp
    have Htk := Lib.hid (show s.take (s.length - r.length) = g by rw [hl, hsr]; simp)
    have k1 : (0 : Int) ≤ (s.length : Int) - (r.length : Int) := by omega
    have k2 : (s.length : Int) - (r.length : Int) ≤ (s.length : Int) := by omega
    have k3 : ((s.length : Int) - (r.length : Int)).toNat = s.length - r.length := by omega
    have hr12 : r.length ≤ 12 := by omega
    have hl1 : r.length ≤ s.length := by omega
    clear hT hr hl hsr
    rcases hcase with ⟨b, hb, rfl, hk⟩ | ⟨nm, rfl, hk⟩ | ⟨q1, q2, q3, hh, hk⟩
    · have h1 : 1 ≤ s.length := by simp at hl1; omega
      have Hg := Lib.hid (show s.take (s.length - 1) = g by simpa using Htk.out)
      have Hk := Lib.hid hk
      clear hk k1 k2 k3
      rcases hb with rfl | rfl | rfl
      · go_enter Tryz.func88, Tryz.ntmps88
        go_wp2_with fail
        refine (HT.out _).mono ?_
        rintro e w1 ⟨rfl, hb⟩
        obtain ⟨hc, hfz, hz⟩ := bcell hb
        have hzz := hz w.heap.size (by simp)
        have hn1 : ¬ (w1.heap.size = w.heap.size) := by omega
        have hn2 : ¬ (w.heap.size = w1.heap.size) := by omega
        have Hb := Lib.hid (((Below.refl w.heap.size w).alloc (Nat.le_refl _) _).trans (hb.mono (by simp)))
        have u0 : w1.cell? ⟨w.heap.size, 0, none⟩ = some (.string ⟨#[]⟩) := by rw [hc w.heap.size 0 (by simp)]; simp
        have u1 : w1.cell? ⟨w.heap.size, 1, none⟩ = some (.string ⟨#[]⟩) := by rw [hc w.heap.size 1 (by simp)]; simp
        have u2 : w1.cell? ⟨w.heap.size, 2, none⟩ = some (.string ⟨#[]⟩) := by rw [hc w.heap.size 2 (by simp)]; simp
        have fu : ∀ j, w1.frozen? ⟨w.heap.size, j, none⟩ = false := fun j => by rw [hfz w.heap.size j (by simp)]; simp
        clear hb hc hfz hz
        go_wp2_with fail
        refine bodyPost_ret (v := .tuple #[.agg #[.string ⟨(s.take (s.length - 1)).toArray⟩, .string ⟨#[110]⟩, .string ⟨#[]⟩], .bool true]) (by simp [results, Tryz.results88, go_sem, u0, u1, u2, fu, hn1, hn2, hzz]) rfl ?_
        exact KdPost.yes Hk.out (by rw [Hg.out]; rfl) (by (repeat (first | exact Hb.out | refine Below.setCell ?_ (by first | exact Nat.le_refl _ | (simp; omega) | omega) _ | refine Below.alloc ?_ (by first | exact Nat.le_refl _ | (simp; omega) | omega) _ | refine Below.drew ?_)))
      · go_enter Tryz.func88, Tryz.ntmps88
        go_wp2_with fail
        refine (HT.out _).mono ?_
        rintro e w1 ⟨rfl, hb⟩
        obtain ⟨hc, hfz, hz⟩ := bcell hb
        have hzz := hz w.heap.size (by simp)
        have hn1 : ¬ (w1.heap.size = w.heap.size) := by omega
        have hn2 : ¬ (w.heap.size = w1.heap.size) := by omega
        have Hb := Lib.hid (((Below.refl w.heap.size w).alloc (Nat.le_refl _) _).trans (hb.mono (by simp)))
        have u0 : w1.cell? ⟨w.heap.size, 0, none⟩ = some (.string ⟨#[]⟩) := by rw [hc w.heap.size 0 (by simp)]; simp
        have u1 : w1.cell? ⟨w.heap.size, 1, none⟩ = some (.string ⟨#[]⟩) := by rw [hc w.heap.size 1 (by simp)]; simp
        have u2 : w1.cell? ⟨w.heap.size, 2, none⟩ = some (.string ⟨#[]⟩) := by rw [hc w.heap.size 2 (by simp)]; simp
        have fu : ∀ j, w1.frozen? ⟨w.heap.size, j, none⟩ = false := fun j => by rw [hfz w.heap.size j (by simp)]; simp
        clear hb hc hfz hz
        go_wp2_with fail
        refine bodyPost_ret (v := .tuple #[.agg #[.string ⟨(s.take (s.length - 1)).toArray⟩, .string ⟨#[116]⟩, .string ⟨#[]⟩], .bool true]) (by simp [results, Tryz.results88, go_sem, u0, u1, u2, fu, hn1, hn2, hzz]) rfl ?_
        exact KdPost.yes Hk.out (by rw [Hg.out]; rfl) (by (repeat (first | exact Hb.out | refine Below.setCell ?_ (by first | exact Nat.le_refl _ | (simp; omega) | omega) _ | refine Below.alloc ?_ (by first | exact Nat.le_refl _ | (simp; omega) | omega) _ | refine Below.drew ?_)))
      · go_enter Tryz.func88, Tryz.ntmps88
        go_wp2_with fail
        refine (HT.out _).mono ?_
        rintro e w1 ⟨rfl, hb⟩
        obtain ⟨hc, hfz, hz⟩ := bcell hb
        have hzz := hz w.heap.size (by simp)
        have hn1 : ¬ (w1.heap.size = w.heap.size) := by omega
        have hn2 : ¬ (w.heap.size = w1.heap.size) := by omega
        have Hb := Lib.hid (((Below.refl w.heap.size w).alloc (Nat.le_refl _) _).trans (hb.mono (by simp)))
        have u0 : w1.cell? ⟨w.heap.size, 0, none⟩ = some (.string ⟨#[]⟩) := by rw [hc w.heap.size 0 (by simp)]; simp
        have u1 : w1.cell? ⟨w.heap.size, 1, none⟩ = some (.string ⟨#[]⟩) := by rw [hc w.heap.size 1 (by simp)]; simp
        have u2 : w1.cell? ⟨w.heap.size, 2, none⟩ = some (.string ⟨#[]⟩) := by rw [hc w.heap.size 2 (by simp)]; simp
        have fu : ∀ j, w1.frozen? ⟨w.heap.size, j, none⟩ = false := fun j => by rw [hfz w.heap.size j (by simp)]; simp
        clear hb hc hfz hz
        go_wp2_with fail
        refine bodyPost_ret (v := .tuple #[.agg #[.string ⟨(s.take (s.length - 1)).toArray⟩, .string ⟨#[102]⟩, .string ⟨#[]⟩], .bool true]) (by simp [results, Tryz.results88, go_sem, u0, u1, u2, fu, hn1, hn2, hzz]) rfl ?_
        exact KdPost.yes Hk.out (by rw [Hg.out]; rfl) (by (repeat (first | exact Hb.out | refine Below.setCell ?_ (by first | exact Nat.le_refl _ | (simp; omega) | omega) _ | refine Below.alloc ?_ (by first | exact Nat.le_refl _ | (simp; omega) | omega) _ | refine Below.drew ?_)))
    · have h1 : nm.length + 2 ≤ s.length := by simp at hl1; omega
      have Hg := Lib.hid (show s.take (s.length - (nm.length + 1 + 1)) = g by simpa using Htk.out)
      have hnl : nm.length ≤ 12 := by omega
      have hmid : (nm ++ [59]).take nm.length = nm := by simp
      have Hn := Lib.hid (fun W => isName_any nm W (by omega))
      have hp : ([64] : List UInt8).isPrefixOf (64 :: (nm ++ [59])) = true := rfl
      have hs : Lib.hasSuffix (64 :: (nm ++ [59])) [59] = true := by
        rw [hasSuffix_one, show (64 : UInt8) :: (nm ++ [59]) = (64 :: nm) ++ [59] from rfl, List.getLast?_append]; rfl
      have Hp := Lib.hid (fun W => HasPrefix_any (64 :: (nm ++ [59])) [64] W)
      have Hs := Lib.hid (fun W => HasSuffix_any (64 :: (nm ++ [59])) [59] W (by simp; omega))
      rw [hp] at Hp
      rw [hs] at Hs
      clear hp hs k1 k2 k3
      rcases Bool.eq_false_or_eq_true (nameOk nm) with hnm | hnm
      · rw [if_pos hnm] at hk
        rw [hnm] at Hn
        have Hk := Lib.hid hk
        clear hk hnm
        go_enter Tryz.func88, Tryz.ntmps88
        go_wp2_with fail
        refine (HT.out _).mono ?_
        rintro e w1 ⟨rfl, hb⟩
        obtain ⟨hc, hfz, hz⟩ := bcell hb
        have hzz := hz w.heap.size (by simp)
        have hn1 : ¬ (w1.heap.size = w.heap.size) := by omega
        have hn2 : ¬ (w.heap.size = w1.heap.size) := by omega
        have Hb := Lib.hid (((Below.refl w.heap.size w).alloc (Nat.le_refl _) _).trans (hb.mono (by simp)))
        have u0 : w1.cell? ⟨w.heap.size, 0, none⟩ = some (.string ⟨#[]⟩) := by rw [hc w.heap.size 0 (by simp)]; simp
        have u1 : w1.cell? ⟨w.heap.size, 1, none⟩ = some (.string ⟨#[]⟩) := by rw [hc w.heap.size 1 (by simp)]; simp
        have u2 : w1.cell? ⟨w.heap.size, 2, none⟩ = some (.string ⟨#[]⟩) := by rw [hc w.heap.size 2 (by simp)]; simp
        have fu : ∀ j, w1.frozen? ⟨w.heap.size, j, none⟩ = false := fun j => by rw [hfz w.heap.size j (by simp)]; simp
        clear hb hc hfz hz
        go_wp2_with fail
        refine (Hp.out _).mono ?_
        rintro e w2 ⟨rfl, rfl⟩
        go_wp2_with fail
        refine (Hs.out _).mono ?_
        rintro e w2 ⟨rfl, rfl⟩
        go_wp2_with fail
        go_region_with (go_at_call 121; refine (Hn.out _).mono ?_; rintro e w' ⟨rfl, hb6⟩; obtain ⟨hc6, hfz6, hz6⟩ := bcell hb6; have y0 : w'.cell? ⟨w.heap.size, 0, none⟩ = some (.string ⟨#[]⟩) := (by rw [hc6 w.heap.size 0 (by simp; omega)]; simp [go_sem, u0, hn1, hn2, hzz]); have y1 : w'.cell? ⟨w.heap.size, 1, none⟩ = some (.string ⟨#[]⟩) := (by rw [hc6 w.heap.size 1 (by simp; omega)]; simp [go_sem, u1, hn1, hn2, hzz]); have y2 : w'.cell? ⟨w.heap.size, 2, none⟩ = some (.string ⟨#[]⟩) := (by rw [hc6 w.heap.size 2 (by simp; omega)]; simp [go_sem, u2, hn1, hn2, hzz]); have y6 := hz6 w.heap.size (by simp; omega))
        all_goals
          go_wp2
          refine bodyPost_ret (v := .tuple #[.agg #[.string ⟨(s.take (s.length - (nm.length + 1 + 1))).toArray⟩, .string ⟨#[64]⟩, .string ⟨nm.toArray⟩], .bool true]) (by simp [results, Tryz.results88, go_sem, u0, u1, u2, fu, hn1, hn2, hzz, y0, y1, y2]) rfl ?_
          exact KdPost.yes Hk.out (by rw [Hg.out]; rfl) (by (repeat (first | exact Hb.out | refine Below.setCell ?_ (by first | exact Nat.le_refl _ | (simp; omega) | omega) _ | refine Below.alloc ?_ (by first | exact Nat.le_refl _ | (simp; omega) | omega) _ | refine Below.drew ?_ | refine Below.trans ?_ (hb6.mono (by first | exact Nat.le_refl _ | (simp; omega) | omega)))))
      · rw [if_neg (by rw [hnm]; decide)] at hk
        rw [hnm] at Hn
        have Hk := Lib.hid hk
        clear hk hnm
        go_enter Tryz.func88, Tryz.ntmps88
        go_wp2_with fail
        refine (HT.out _).mono ?_
        rintro e w1 ⟨rfl, hb⟩
        obtain ⟨hc, hfz, hz⟩ := bcell hb
        have hzz := hz w.heap.size (by simp)
        have hn1 : ¬ (w1.heap.size = w.heap.size) := by omega
        have hn2 : ¬ (w.heap.size = w1.heap.size) := by omega
        have Hb := Lib.hid (((Below.refl w.heap.size w).alloc (Nat.le_refl _) _).trans (hb.mono (by simp)))
        have u0 : w1.cell? ⟨w.heap.size, 0, none⟩ = some (.string ⟨#[]⟩) := by rw [hc w.heap.size 0 (by simp)]; simp
        have u1 : w1.cell? ⟨w.heap.size, 1, none⟩ = some (.string ⟨#[]⟩) := by rw [hc w.heap.size 1 (by simp)]; simp
        have u2 : w1.cell? ⟨w.heap.size, 2, none⟩ = some (.string ⟨#[]⟩) := by rw [hc w.heap.size 2 (by simp)]; simp
        have fu : ∀ j, w1.frozen? ⟨w.heap.size, j, none⟩ = false := fun j => by rw [hfz w.heap.size j (by simp)]; simp
        clear hb hc hfz hz
        go_wp2_with fail
        refine (Hp.out _).mono ?_
        rintro e w2 ⟨rfl, rfl⟩
        go_wp2_with fail
        refine (Hs.out _).mono ?_
        rintro e w2 ⟨rfl, rfl⟩
        go_wp2_with fail
        go_region_with (go_at_call 121; refine (Hn.out _).mono ?_; rintro e w' ⟨rfl, hb6⟩; obtain ⟨hc6, hfz6, hz6⟩ := bcell hb6; have y0 : w'.cell? ⟨w.heap.size, 0, none⟩ = some (.string ⟨#[]⟩) := (by rw [hc6 w.heap.size 0 (by simp; omega)]; simp [go_sem, u0, hn1, hn2, hzz]); have y1 : w'.cell? ⟨w.heap.size, 1, none⟩ = some (.string ⟨#[]⟩) := (by rw [hc6 w.heap.size 1 (by simp; omega)]; simp [go_sem, u1, hn1, hn2, hzz]); have y2 : w'.cell? ⟨w.heap.size, 2, none⟩ = some (.string ⟨#[]⟩) := (by rw [hc6 w.heap.size 2 (by simp; omega)]; simp [go_sem, u2, hn1, hn2, hzz]); have y6 := hz6 w.heap.size (by simp; omega))
        all_goals
          go_wp2
          refine bodyPost_ret (v := .tuple #[.agg #[.string ⟨(s.take (s.length - (nm.length + 1 + 1))).toArray⟩, .string ⟨#[64]⟩, .string ⟨nm.toArray⟩], .bool false]) (by simp [results, Tryz.results88, go_sem, u0, u1, u2, fu, hn1, hn2, hzz, y0, y1, y2]) rfl ?_
          exact KdPost.no Hk.out rfl (by (repeat (first | exact Hb.out | refine Below.setCell ?_ (by first | exact Nat.le_refl _ | (simp; omega) | omega) _ | refine Below.alloc ?_ (by first | exact Nat.le_refl _ | (simp; omega) | omega) _ | refine Below.drew ?_ | refine Below.trans ?_ (hb6.mono (by first | exact Nat.le_refl _ | (simp; omega) | omega)))))
    · have Hp := Lib.hid (fun W => HasPrefix_any r [64] W)
      have Hs := Lib.hid (fun W => HasSuffix_any r [59] W (by omega))
      have Hk := Lib.hid hk
      have q1' : ¬ (r = [110]) := by simpa using q1
      have q2' : ¬ (r = [116]) := by simpa using q2
      have q3' : ¬ (r = [102]) := by simpa using q3
      clear hk k1 k2 k3
      rcases hh with hh | ⟨hh, hl2⟩
      · have hp : ([64] : List UInt8).isPrefixOf r = false := by
          cases r with
          | nil => rfl
          | cons c r => simp at hh; simp [List.isPrefixOf]; exact fun e => hh e.symm
        rw [hp] at Hp
        clear hp hh
        go_enter Tryz.func88, Tryz.ntmps88
        go_wp2_with fail
        refine (HT.out _).mono ?_
        rintro e w1 ⟨rfl, hb⟩
        obtain ⟨hc, hfz, hz⟩ := bcell hb
        have hzz := hz w.heap.size (by simp)
        have hn1 : ¬ (w1.heap.size = w.heap.size) := by omega
        have hn2 : ¬ (w.heap.size = w1.heap.size) := by omega
        have Hb := Lib.hid (((Below.refl w.heap.size w).alloc (Nat.le_refl _) _).trans (hb.mono (by simp)))
        have u0 : w1.cell? ⟨w.heap.size, 0, none⟩ = some (.string ⟨#[]⟩) := by rw [hc w.heap.size 0 (by simp)]; simp
        have u1 : w1.cell? ⟨w.heap.size, 1, none⟩ = some (.string ⟨#[]⟩) := by rw [hc w.heap.size 1 (by simp)]; simp
        have u2 : w1.cell? ⟨w.heap.size, 2, none⟩ = some (.string ⟨#[]⟩) := by rw [hc w.heap.size 2 (by simp)]; simp
        have fu : ∀ j, w1.frozen? ⟨w.heap.size, j, none⟩ = false := fun j => by rw [hfz w.heap.size j (by simp)]; simp
        clear hb hc hfz hz
        go_wp2_with fail
        refine (Hp.out _).mono ?_
        rintro e w2 ⟨rfl, rfl⟩
        go_wp2_with fail
        refine bodyPost_ret (v := .tuple #[.agg #[.string ⟨#[]⟩, .string ⟨#[]⟩, .string ⟨#[]⟩], .bool false]) (by simp [results, Tryz.results88, go_sem, u0, u1, u2, fu, hn1, hn2, hzz]) rfl ?_
        exact KdPost.no Hk.out rfl (by (repeat (first | exact Hb.out | refine Below.setCell ?_ (by first | exact Nat.le_refl _ | (simp; omega) | omega) _ | refine Below.alloc ?_ (by first | exact Nat.le_refl _ | (simp; omega) | omega) _ | refine Below.drew ?_)))
      · have hp : ([64] : List UInt8).isPrefixOf r = true := by
          cases r with
          | nil => simp at hh
          | cons c r => simp at hh; subst hh; rfl
        have hs : Lib.hasSuffix r [59] = false := by rw [hasSuffix_one]; simpa using hl2
        rw [hp] at Hp
        rw [hs] at Hs
        clear hp hs hh hl2
        go_enter Tryz.func88, Tryz.ntmps88
        go_wp2_with fail
        refine (HT.out _).mono ?_
        rintro e w1 ⟨rfl, hb⟩
        obtain ⟨hc, hfz, hz⟩ := bcell hb
        have hzz := hz w.heap.size (by simp)
        have hn1 : ¬ (w1.heap.size = w.heap.size) := by omega
        have hn2 : ¬ (w.heap.size = w1.heap.size) := by omega
        have Hb := Lib.hid (((Below.refl w.heap.size w).alloc (Nat.le_refl _) _).trans (hb.mono (by simp)))
        have u0 : w1.cell? ⟨w.heap.size, 0, none⟩ = some (.string ⟨#[]⟩) := by rw [hc w.heap.size 0 (by simp)]; simp
        have u1 : w1.cell? ⟨w.heap.size, 1, none⟩ = some (.string ⟨#[]⟩) := by rw [hc w.heap.size 1 (by simp)]; simp
        have u2 : w1.cell? ⟨w.heap.size, 2, none⟩ = some (.string ⟨#[]⟩) := by rw [hc w.heap.size 2 (by simp)]; simp
        have fu : ∀ j, w1.frozen? ⟨w.heap.size, j, none⟩ = false := fun j => by rw [hfz w.heap.size j (by simp)]; simp
        clear hb hc hfz hz
        go_wp2_with fail
        refine (Hp.out _).mono ?_
        rintro e w2 ⟨rfl, rfl⟩
        go_wp2_with fail
        refine (Hs.out _).mono ?_
        rintro e w2 ⟨rfl, rfl⟩
        go_wp2_with fail
        refine bodyPost_ret (v := .tuple #[.agg #[.string ⟨#[]⟩, .string ⟨#[]⟩, .string ⟨#[]⟩], .bool false]) (by simp [results, Tryz.results88, go_sem, u0, u1, u2, fu, hn1, hn2, hzz]) rfl ?_
        exact KdPost.no Hk.out rfl (by (repeat (first | exact Hb.out | refine Below.setCell ?_ (by first | exact Nat.le_refl _ | (simp; omega) | omega) _ | refine Below.alloc ?_ (by first | exact Nat.le_refl _ | (simp; omega) | omega) _ | refine Below.drew ?_)))
end Go.Proofs.YtcjfgbcdlcdeaaaGreatDoor
/- Plain laws of what is met from a kind: in the order of meeting, and sorted by name. No program in sight. -/
namespace Go.Proofs.YtcjfgbcdlcdeaaaGreatDoor

abbrev Name := List UInt8

/-- Names in the order in which they are met from a kind. -/
def metN (S : List Ty) : Nat → Kd → List Name → List Name
  | 0, _, out => out
  | n + 1, k, out =>
    if k.base = [64] ∧ k.name ∉ out then
      (match findTy S k.name with
       | none => out ++ [k.name]
       | some t => if t.sort = 69 then out ++ [k.name] else t.fields.foldl (fun o f => metN S n f.kind o) (out ++ [k.name]))
    else out

def belowB (x : Name) (y : Name) : Bool := decide (y < x)
/-- A name put into its place. -/
def putS (x : Name) (out : List Name) : List Name := out.takeWhile (belowB x) ++ x :: out.dropWhile (belowB x)
/-- Is it at its place? -/
def hasS (x : Name) (out : List Name) : Bool := decide ((out.dropWhile (belowB x)).head? = some x)

/-- Names that are met from a kind, each put into its place. -/
def usedN (S : List Ty) : Nat → Kd → List Name → List Name
  | 0, _, out => out
  | n + 1, k, out =>
    if k.base = [64] ∧ hasS k.name out = false then
      (match findTy S k.name with
       | none => putS k.name out
       | some t => if t.sort = 69 then putS k.name out else t.fields.foldl (fun o f => usedN S n f.kind o) (putS k.name out))
    else out

def SortedN (l : List Name) : Prop := l.Pairwise (· < ·)

theorem hasS_iff {x : Name} {l : List Name} (h : SortedN l) : hasS x l = true ↔ x ∈ l := by
  unfold hasS
  induction l with
  | nil => simp
  | cons y l ih =>
    obtain ⟨h1, h2⟩ := List.pairwise_cons.1 h
    by_cases hb : belowB x y = true
    · have hlt : y < x := by simpa [belowB] using hb
      have hne : x ≠ y := by rintro rfl; exact List.lt_irrefl _ hlt
      simp only [List.dropWhile_cons, hb, if_true, List.mem_cons, hne, false_or]
      exact ih h2
    · have hlt : ¬ y < x := by simpa [belowB] using hb
      simp only [List.dropWhile_cons, hb, Bool.false_eq_true, if_false, List.head?_cons, Option.some.injEq, decide_eq_true_eq, List.mem_cons]
      constructor
      · intro e; exact .inl e.symm
      · rintro (e | e)
        · exact e.symm
        · exact absurd (h1 x e) hlt
theorem putS_perm (x : Name) (l : List Name) : (putS x l).Perm (l ++ [x]) := by
  unfold putS
  have e : l.takeWhile (belowB x) ++ l.dropWhile (belowB x) = l := List.takeWhile_append_dropWhile
  refine (List.perm_middle).trans ?_
  rw [e]
  exact (List.perm_append_singleton x l).symm
theorem mem_takeWhile_p {α : Type} {p : α → Bool} : ∀ {l : List α} {y : α}, y ∈ l.takeWhile p → p y = true
  | [], _, h => by simp at h
  | a :: l, y, h => by
    by_cases hp : p a = true
    · simp only [List.takeWhile_cons, hp, if_true, List.mem_cons] at h
      rcases h with rfl | h
      · exact hp
      · exact mem_takeWhile_p h
    · simp [hp] at h
theorem putS_sorted {x : Name} {l : List Name} (h : SortedN l) (hx : x ∉ l) : SortedN (putS x l) := by
  unfold putS SortedN
  have e : l.takeWhile (belowB x) ++ l.dropWhile (belowB x) = l := List.takeWhile_append_dropWhile
  have h' : SortedN (l.takeWhile (belowB x) ++ l.dropWhile (belowB x)) := by rw [e]; exact h
  obtain ⟨a1, a2, a3⟩ := List.pairwise_append.1 h'
  refine List.pairwise_append.2 ⟨a1, List.pairwise_cons.2 ⟨?_, a2⟩, ?_⟩
  · -- what is dropped is above x
    intro y hy
    have hyl : y ∈ l := by rw [← e]; exact List.mem_append.2 (.inr hy)
    have hne : y ≠ x := by rintro rfl; exact hx hyl
    cases hd : l.dropWhile (belowB x) with
    | nil => rw [hd] at hy; cases hy
    | cons z t =>
      have hz : belowB x z = false := by
        have := List.head?_dropWhile_not (belowB x) l
        rw [hd] at this
        simpa using this
      have hz' : ¬ z < x := by simpa [belowB] using hz
      rw [hd] at hy a2
      have hzl : z ∈ l := by rw [← e, hd]; simp
      have hzx : x < z := by
        rcases Decidable.em (x < z) with h | h
        · exact h
        · exact absurd (show x = z from List.le_antisymm hz' h) (fun (e : x = z) => hx (by rw [e]; exact hzl))
      rcases List.mem_cons.1 hy with rfl | hy
      · exact hzx
      · exact List.lt_trans hzx ((List.pairwise_cons.1 a2).1 y hy)
  · intro a ha b hb
    have hax : a < x := by simpa [belowB] using mem_takeWhile_p ha
    rcases List.mem_cons.1 hb with rfl | hb
    · exact hax
    · exact a3 a ha b hb

/-- Both go the same way: sorted is a permutation of the order of meeting. -/
theorem used_met (S : List Ty) : ∀ (n : Nat) (k : Kd) (us os : List Name), SortedN us → us.Perm os → SortedN (usedN S n k us) ∧ (usedN S n k us).Perm (metN S n k os)
  | 0, _, us, os, hs, hp => ⟨hs, hp⟩
  | n + 1, k, us, os, hs, hp => by
    rw [usedN, metN]
    by_cases hk : k.base = [64]
    · by_cases hm : k.name ∈ os
      · have hu : hasS k.name us = true := (hasS_iff hs).2 (hp.mem_iff.2 hm)
        rw [if_neg (by simp [hu]), if_neg (by simp [hm])]
        exact ⟨hs, hp⟩
      · have hmu : k.name ∉ us := fun h => hm (hp.mem_iff.1 h)
        have hu : hasS k.name us = false := by
          cases hh : hasS k.name us with
          | false => rfl
          | true => exact absurd ((hasS_iff hs).1 hh) hmu
        rw [if_pos ⟨hk, hu⟩, if_pos ⟨hk, hm⟩]
        have hs1 := putS_sorted hs hmu
        have hp1 : (putS k.name us).Perm (os ++ [k.name]) := (putS_perm _ _).trans (hp.append_right _)
        cases findTy S k.name with
        | none => exact ⟨hs1, hp1⟩
        | some t =>
          simp only
          by_cases h69 : t.sort = 69
          · rw [if_pos h69, if_pos h69]; exact ⟨hs1, hp1⟩
          · rw [if_neg h69, if_neg h69]
            generalize putS k.name us = u1 at hs1 hp1
            generalize os ++ [k.name] = o1 at hp1
            generalize t.fields = fs
            induction fs generalizing u1 o1 with
            | nil => exact ⟨hs1, hp1⟩
            | cons f fs ih =>
              simp only [List.foldl_cons]
              obtain ⟨i1, i2⟩ := used_met S n f.kind u1 o1 hs1 hp1
              exact ih _ i1 _ i2
    · rw [if_neg (fun h => hk h.1), if_neg (fun h => hk h.1)]
      exact ⟨hs, hp⟩

/-! ### what is met: names of types, each once -/
def namesOf (S : List Ty) : List Name := S.map (·.name)
theorem findTy_isSome {S : List Ty} {n : Name} : (findTy S n).isSome = true ↔ n ∈ namesOf S := by
  unfold findTy namesOf
  rw [List.find?_isSome]
  simp
/-- Names that are met so far. -/
def Mets (S : List Ty) (out : List Name) : Prop := out.Nodup ∧ ∀ x ∈ out, x ∈ namesOf S
theorem Mets.nil (S : List Ty) : Mets S [] := ⟨List.nodup_nil, by simp⟩
theorem sub_len : ∀ (l m : List Name), l.Nodup → (∀ x ∈ l, x ∈ m) → l.length ≤ m.length
  | [], m, _, _ => Nat.zero_le _
  | x :: l, m, hn, hs => by
    obtain ⟨h1, h2⟩ := List.nodup_cons.1 hn
    have hx := hs x (by simp)
    have ih := sub_len l (m.erase x) h2 (fun y hy => by
      have hne : y ≠ x := by rintro rfl; exact h1 hy
      exact (List.mem_erase_of_ne hne).2 (hs y (by simp [hy])))
    have hl := List.length_erase_of_mem hx
    have hp : 0 < m.length := List.length_pos_iff.2 (by rintro rfl; cases hx)
    simp; omega
theorem Mets.len {S : List Ty} {out : List Name} (h : Mets S out) : out.length ≤ S.length := by
  have := sub_len out (namesOf S) h.1 h.2
  simpa [namesOf] using this
theorem Mets.snoc {S : List Ty} {out : List Name} {x : Name} (h : Mets S out) (hx : x ∈ namesOf S) (hn : x ∉ out) : Mets S (out ++ [x]) := by
  refine ⟨?_, ?_⟩
  · rw [List.nodup_append]
    refine ⟨h.1, by simp, ?_⟩
    intro a ha b hb
    simp at hb; subst hb
    rintro rfl; exact hn ha
  · intro y hy
    rcases List.mem_append.1 hy with hy | hy
    · exact h.2 y hy
    · simp at hy; subst hy; exact hx
theorem Mets.perm {S : List Ty} {a b : List Name} (h : Mets S a) (hp : a.Perm b) : Mets S b := ⟨hp.nodup_iff.1 h.1, fun x hx => h.2 x (hp.mem_iff.2 hx)⟩
theorem metN_mets {S : List Ty} (hS : kindsOk S) : ∀ (n : Nat) (k : Kd) (out : List Name), refOk S k → Mets S out → Mets S (metN S n k out) ∧ ∃ l, metN S n k out = out ++ l
  | 0, _, out, _, h => ⟨h, [], by simp [metN]⟩
  | n + 1, k, out, hk, h => by
    rw [metN]
    by_cases hc : k.base = [64] ∧ k.name ∉ out
    · rw [if_pos hc]
      have hr := hk hc.1
      have hx := findTy_isSome.1 hr
      have hs := h.snoc hx hc.2
      cases hf : findTy S k.name with
      | none => rw [hf] at hr; cases hr
      | some t =>
        simp only
        by_cases h69 : t.sort = 69
        · rw [if_pos h69]; exact ⟨hs, _, rfl⟩
        · rw [if_neg h69]
          have hfs := hS t (findTy_some hf).1 h69
          have key : ∀ (fs : List Fd) (o : List Name), (∀ f ∈ fs, refOk S f.kind) → Mets S o → Mets S (fs.foldl (fun o f => metN S n f.kind o) o) ∧ ∃ l, fs.foldl (fun o f => metN S n f.kind o) o = o ++ l := by
            intro fs
            induction fs with
            | nil => intro o _ ho; exact ⟨ho, [], by simp⟩
            | cons f fs ih =>
              intro o hf ho
              obtain ⟨i1, l, i2⟩ := metN_mets hS n f.kind o (hf f (by simp)) ho
              obtain ⟨j1, m, j2⟩ := ih _ (fun g hg => hf g (by simp [hg])) i1
              refine ⟨j1, l ++ m, ?_⟩
              simp only [List.foldl_cons]
              rw [j2, i2, List.append_assoc]
          obtain ⟨j1, m, j2⟩ := key t.fields _ hfs hs
          exact ⟨j1, k.name :: m, by rw [j2]; simp⟩
    · rw [if_neg hc]; exact ⟨h, [], by simp⟩

/-- How many fields types of names have. -/
def countF (S : List Ty) (ns : List Name) : Nat := (ns.map fun n => match findTy S n with | some t => t.fields.length | none => 0).sum
theorem countF_perm (S : List Ty) {a b : List Name} (h : a.Perm b) : countF S a = countF S b := (h.map _).sum_nat
/-- What is met, and sorted. -/
def metL (S : List Ty) (k : Kd) : List Name := metN S 9 k []
def usedL (S : List Ty) (k : Kd) : List Name := usedN S 9 k []
theorem used_perm (S : List Ty) (k : Kd) : SortedN (usedL S k) ∧ (usedL S k).Perm (metL S k) := used_met S 9 k [] [] List.Pairwise.nil (List.Perm.refl _)
end Go.Proofs.YtcjfgbcdlcdeaaaGreatDoor
/- How the program's fields, types and schemas lie in memory. -/
namespace Go.Proofs.YtcjfgbcdlcdeaaaGreatDoor
open Go.RowKit
set_option linter.unusedVariables false

/-- The cells of a field of the program. -/
def ifc (f : Fd) : List Value := [.int .i64 (f.tag : Int), .string ⟨f.name.toArray⟩, .string ⟨f.kind.signs.toArray⟩, .string ⟨f.kind.base.toArray⟩, .string ⟨f.kind.name.toArray⟩, .string ⟨f.given.toArray⟩]
def ifV (f : Fd) : Value := .agg #[.int .i64 (f.tag : Int), .string ⟨f.name.toArray⟩, .string ⟨f.kind.signs.toArray⟩, .string ⟨f.kind.base.toArray⟩, .string ⟨f.kind.name.toArray⟩, .string ⟨f.given.toArray⟩]
theorem ifc_len (f : Fd) : (ifc f).length = 6 := rfl
/-- A slice value that reads as fields. -/
def IFds (w : World) (v : Value) (fs : List Fd) : Prop := ∃ A c, v = .slice A fs.length c ∧ fs.length ≤ 8 ∧ RowAt w A (fs.length * 6) (fs.flatMap ifc)
theorem IFds.below {w w' : World} {v : Value} {fs : List Fd} (h : IFds w v fs) (hb : Below w.heap.size w w') : IFds w' v fs := by
  obtain ⟨A, c, e, hl, hr⟩ := h
  exact ⟨A, c, e, hl, hr.below hb⟩
theorem IFds.at_ {w : World} {A : Option Addr} {fs : List Fd} (hr : RowAt w A (fs.length * 6) (fs.flatMap ifc)) {i : Nat} (hi : i < fs.length) :
    ∃ b off, A = some ⟨b, off, none⟩ ∧ b < w.heap.size ∧ w.cell? ⟨b, off + i * 6, none⟩ = some (.int .i64 (fs[i].tag : Int)) ∧ w.cell? ⟨b, off + i * 6 + 1, none⟩ = some (.string ⟨fs[i].name.toArray⟩) ∧
      w.cell? ⟨b, off + i * 6 + 2, none⟩ = some (.string ⟨fs[i].kind.signs.toArray⟩) ∧ w.cell? ⟨b, off + i * 6 + 3, none⟩ = some (.string ⟨fs[i].kind.base.toArray⟩) ∧
      w.cell? ⟨b, off + i * 6 + 4, none⟩ = some (.string ⟨fs[i].kind.name.toArray⟩) ∧ w.cell? ⟨b, off + i * 6 + 5, none⟩ = some (.string ⟨fs[i].given.toArray⟩) := by
  obtain ⟨b, off, e, hlt, hc⟩ := hr.elem ifc_len (by decide) hi
  refine ⟨b, off, e, hlt, ?_, ?_, ?_, ?_, ?_, ?_⟩
  · have := hc 0 _ rfl; simpa using this
  · have := hc 1 _ rfl; simpa [Nat.add_assoc] using this
  · have := hc 2 _ rfl; simpa [Nat.add_assoc] using this
  · have := hc 3 _ rfl; simpa [Nat.add_assoc] using this
  · have := hc 4 _ rfl; simpa [Nat.add_assoc] using this
  · have := hc 5 _ rfl; simpa [Nat.add_assoc] using this

/-- A type of the program: its block, and the slice in which its fields lie. -/
structure PT where
  ty : Ty
  blk : Nat
  fv : Value
/-- A block of cells that may be written whole. -/
def Blk (w : World) (b : Nat) : Prop := ∃ cs t, w.heap[b]? = some (.cells cs t (0, 0))
theorem Blk.belowAt {B : Nat} {w w' : World} {b : Nat} (h : Blk w b) (hb : b < B) (hw : Below B w w') : Blk w' b := by
  obtain ⟨cs, t, h⟩ := h
  exact ⟨cs, t, (hw.block b hb).trans h⟩
theorem Blk.grown {w w' : World} {b : Nat} {row : Option Nat} (h : Blk w b) (hb : b < w.heap.size) (hg : w.grownBy w' row) (hne : some b ≠ row) : Blk w' b := by
  obtain ⟨cs, t, h⟩ := h
  exact ⟨cs, t, (hg.block b hb hne).trans h⟩
theorem Blk.set {w : World} {b o : Nat} (h : Blk w b) (v : Value) : Blk (w.setCell ⟨b, o, none⟩ v) b := by
  obtain ⟨cs, t, h⟩ := h
  exact ⟨_, t, heap_setCell_same w b o cs t v h⟩
theorem Blk.new (w : World) (cs : Array Value) (t : TypeId) : Blk (w.alloc (.cells cs t)) w.heap.size := ⟨cs, t, heap_alloc_new w _⟩
def PT.ptr (x : PT) : Value := .pointer (some ⟨x.blk, 0, none⟩)
def ITy (w : World) (x : PT) : Prop :=
  x.blk < w.heap.size ∧ Blk w x.blk ∧ w.cell? ⟨x.blk, 0, none⟩ = some (.int .u8 (x.ty.sort.toNat : Int)) ∧ w.cell? ⟨x.blk, 1, none⟩ = some (.string ⟨x.ty.name.toArray⟩) ∧ w.cell? ⟨x.blk, 2, none⟩ = some x.fv ∧ w.cell? ⟨x.blk, 3, none⟩ = some (.string ⟨(tyB x.ty).toArray⟩) ∧ IFds w x.fv x.ty.fields
theorem ITy.below {w w' : World} {x : PT} (h : ITy w x) (hb : Below w.heap.size w w') : ITy w' x := by
  obtain ⟨h0, hk, h1, h2, h3, h4, h5⟩ := h
  obtain ⟨hc, _, hz⟩ := bcell hb
  exact ⟨hz _ h0, hk.belowAt h0 hb, (hc _ _ h0).trans h1, (hc _ _ h0).trans h2, (hc _ _ h0).trans h3, (hc _ _ h0).trans h4, h5.below hb⟩
def ptysOf (xs : List PT) : List Ty := xs.map (·.ty)
def findP (xs : List PT) (n : Name) : Option PT := xs.find? fun x => decide (x.ty.name = n)
theorem findP_ty (xs : List PT) (n : Name) : findTy (ptysOf xs) n = (findP xs n).map (·.ty) := by
  unfold findTy ptysOf findP; rw [List.find?_map]; rfl
theorem findP_mem {xs : List PT} {n : Name} {x : PT} (h : findP xs n = some x) : x ∈ xs ∧ x.ty.name = n ∧ findTy (ptysOf xs) n = some x.ty := by
  refine ⟨List.mem_of_find?_eq_some h, ?_, by rw [findP_ty, h]; rfl⟩
  have := List.find?_some h
  simpa using this
/-- What the map of names gives. -/
def ptrP : Option PT → Value
  | some x => x.ptr
  | none => .pointer none
def namedF (xs : List PT) (l : Lit) : Value := match l with | .string s => ptrP (findP xs s) | _ => .pointer none

theorem Tryz.keyStr : Go.Maps.Keyed Tryz.prog 9 := Go.Maps.string_keyed Tryz.underlying9
theorem Tryz.zeroPtr (w : World) : (zeroValue 108).run Tryz.prog w = .ok (.pointer none) w := by kernel_rfl

/-- A map of names. -/
def INamed (w : World) (mb : Nat) (xs : List PT) : Prop := FMap Tryz.prog 9 (.pointer none) w mb xs.length (namedF xs)
/-- A pointer that reads as a schema. -/
def ISc (w : World) (p : Value) (xs : List PT) : Prop :=
  ∃ b A c mb, p = .pointer (some ⟨b, 0, none⟩) ∧ b < w.heap.size ∧ w.cell? ⟨b, 0, none⟩ = some (.slice A xs.length c) ∧ w.cell? ⟨b, 1, none⟩ = some (.map (some mb)) ∧ RowAt w A xs.length (xs.map (·.ptr)) ∧ INamed w mb xs ∧ (∀ x ∈ xs, ITy w x) ∧ xs.Pairwise fun x y => x.blk ≠ y.blk
theorem ISc.below {w w' : World} {p : Value} {xs : List PT} (h : ISc w p xs) (hb : Below w.heap.size w w') : ISc w' p xs := by
  obtain ⟨b, A, c, mb, e, h0, h1, h2, h3, h4, h5, h6⟩ := h
  obtain ⟨hc, _, hz⟩ := bcell hb
  exact ⟨b, A, c, mb, e, hz _ h0, (hc _ _ h0).trans h1, (hc _ _ h0).trans h2, h3.below hb, FMap.below h4 hb, fun x hx => (h5 x hx).below hb, h6⟩
theorem keyName {n : Name} (h : n.length ≤ 9223372036854775807) : keyOf Tryz.prog 9 (.string ⟨n.toArray⟩) = some (.string n) := by
  have := Go.WideMaps.keyOf_string_mk (P := Tryz.prog) (k := 9) Tryz.underlying9 (s := ⟨n.toArray⟩) (by unfold maxLen; exact h)
  simpa using this

/-- What reading a field leaves. -/
def IfPost (o : Option Fd) (w : World) (e : Ending) (w' : World) : Prop :=
  (match o with
    | some f => e = .returned (.tuple #[ifV f, .bool true])
    | none => ∃ (n : Int) (a b c d g : ByteArray), e = .returned (.tuple #[.agg #[.int .i64 n, .string a, .string b, .string c, .string d, .string g], .bool false])) ∧ Below w.heap.size w w'
theorem IfPost.no {w w' : World} {e : Ending} {o : Option Fd} (ho : o = none) {n : Int} {a b c d g : ByteArray} (he : e = .returned (.tuple #[.agg #[.int .i64 n, .string a, .string b, .string c, .string d, .string g], .bool false])) (hb : Below w.heap.size w w') : IfPost o w e w' := by
  rw [ho]; exact ⟨⟨n, a, b, c, d, g, he⟩, hb⟩
theorem IfPost.yes {w w' : World} {e : Ending} {o : Option Fd} {f : Fd} (ho : o = some f) (he : e = .returned (.tuple #[ifV f, .bool true])) (hb : Below w.heap.size w w') : IfPost o w e w' := by
  rw [ho]; exact ⟨he, hb⟩
end Go.Proofs.YtcjfgbcdlcdeaaaGreatDoor
/- Standing values and decimals of the program: standing, decimal. -/
namespace Go.Proofs.YtcjfgbcdlcdeaaaGreatDoor
open Go.RowKit
set_option maxRecDepth 100000
set_option linter.unusedVariables false
attribute [local go_sem] ba_get ba_toList ba_extract take_drop_all ByteArray.mk_append_mk

theorem byteV' (n : Nat) (h : n < 256) : Value.int .u8 (n : Int) = .int .u8 ((byteOf n).toNat : Int) := by rw [byteOf_toNat h]

set_option maxHeartbeats 400000 in
theorem decimal_one (n : Nat) (w : World) (hn : n < 10) :
    Calls Tryz.prog 96 #[.int .i64 n] w fun e w' => e = .returned (.string ⟨(decB n).toArray⟩) ∧ Below w.heap.size w w' := by
  have Hfin := Lib.hid (decB_small hn)
  have hcv := fun W => Tryz.conv1 W w.heap.size 1 (byteOf (48 + n))
  rw [byteOf_toNat (by omega)] at hcv
  go_enter Tryz.func96, Tryz.ntmps96
  go_wp2_with fail
  go_ret
  exact ⟨by rw [Hfin.out]; rfl, (Below.refl _ _).alloc (Nat.le_refl _) _⟩

set_option maxHeartbeats 400000 in
theorem decimal_any : ∀ (k n : Nat) (w : World), n ≤ k → n ≤ 1000000000 →
    Calls Tryz.prog 96 #[.int .i64 n] w fun e w' => e = .returned (.string ⟨(decB n).toArray⟩) ∧ Below w.heap.size w w' := by
  intro k
  induction k with
  | zero => intro n w hn h; exact decimal_one n w (by omega)
  | succ k ih =>
    intro n w hn h
    by_cases h10 : n < 10
    · exact decimal_one n w h10
    · have Hfin := Lib.hid (decB_step h10)
      have Hs := Lib.hid (decB_small (show n % 10 < 10 by omega))
      have Ih := Lib.hid (fun W => ih (n / 10) W (by omega) (by omega))
      have hl := decB_len 8 (n / 10) (by have e : 10 ^ (8 + 1) = 1000000000 := rfl; omega)
      have e1 : ((n : Int) / 10) = ((n / 10 : Nat) : Int) := by omega
      have e2 : ((n : Int) % 10) = ((n % 10 : Nat) : Int) := by omega
      have E1 := Lib.hid e1
      have E2 := Lib.hid e2
      clear ih e1 e2
      go_enter Tryz.func96, Tryz.ntmps96
      go_wp2_with fail
      rw [E1.out]
      refine (Ih.out _).mono ?_
      rintro e w1 ⟨rfl, hb1⟩
      have Hb1 := Lib.hid hb1
      clear hb1
      go_wp2_with fail
      rw [E2.out]
      refine (decimal_one (n % 10) w1 (by omega)).mono ?_
      rintro e w2 ⟨rfl, hb2⟩
      have Hb2 := Lib.hid (Hb1.out.trans (hb2.mono Hb1.out.size))
      rw [Hs.out]
      clear hb2
      go_wp2_with fail
      go_ret
      exact ⟨by rw [Hfin.out]; rfl, Hb2.out⟩

/-- The bases of kinds. -/
def baseL (b : List UInt8) : Prop := b = [110] ∨ b = [116] ∨ b = [102] ∨ b = [64]

theorem standOk_n {s : List UInt8} : standOk [110] s = (match decL s with | some n => decide (0 < n) | none => false) := rfl
theorem standOk_t {s : List UInt8} : standOk [116] s = (decide (2 < s.length) && decide (s.head? = some 39) && decide (s.getLast? = some 39) && textOk (s.drop 1).dropLast) := rfl
theorem standOk_f {s : List UInt8} : standOk [102] s = decide (s = [121, 101, 115]) := rfl
theorem standOk_at {s : List UInt8} : standOk [64] s = false := rfl

set_option maxHeartbeats 400000 in
theorem standing_n (s : List UInt8) (w : World) (hs : s.length ≤ 4000000) :
    Calls Tryz.prog 178 #[.string ⟨#[110]⟩, .string ⟨s.toArray⟩] w fun e w' => e = .returned (.bool (standOk [110] s)) ∧ Below w.heap.size w w' := by
  have Hp := Lib.hid (fun W => plainNumber_any s 999999 W (by omega) (by omega))
  have Hf := Lib.hid (standOk_n (s := s))
  cases hd : decL s with
  | none =>
    rw [hd] at Hf
    have Hv := Lib.hid (pnV_no (m := 999999) hd)
    clear hd
    go_enter Tryz.func178, Tryz.ntmps178
    go_wp2_with fail
    refine (Hp.out _).mono ?_
    rintro e w' ⟨rfl, rfl⟩
    rw [Hv.out]
    go_wp2_with fail
    go_ret
    exact ⟨ret1 (vbool Hf.out.symm), Below.refl _ _⟩
  | some n =>
    rw [hd] at Hf
    have h9 := (decL_some.1 hd).1
    have Hv := Lib.hid (pnV_yes (m := 999999) hd)
    have t1 : decide (n ≤ 999999) = true := by simp; exact h9
    clear hd
    rcases Nat.lt_or_ge 0 n with hn | hn
    all_goals
      go_enter Tryz.func178, Tryz.ntmps178
      go_wp2_with fail
      refine (Hp.out _).mono ?_
      rintro e w' ⟨rfl, rfl⟩
      rw [Hv.out, t1]
      go_wp2_with fail
      go_ret
      exact ⟨ret1 (vbool (by rw [Hf.out]; first | done | (simp; try omega))), Below.refl _ _⟩

set_option maxHeartbeats 400000 in
theorem standing_f (s : List UInt8) (w : World) (hs : s.length ≤ 4000000) :
    Calls Tryz.prog 178 #[.string ⟨#[102]⟩, .string ⟨s.toArray⟩] w fun e w' => e = .returned (.bool (standOk [102] s)) ∧ Below w.heap.size w w' := by
  have Hf := Lib.hid (standOk_f (s := s))
  by_cases hy : s = [121, 101, 115]
  · subst hy
    go_enter Tryz.func178, Tryz.ntmps178
    go_wp2_with fail
    go_ret
    exact ⟨ret1 (vbool (by rw [Hf.out]; simp)), Below.refl _ _⟩
  · have Hy := Lib.hid (show decide (s = [121, 101, 115]) = false by simpa using hy)
    have ty : (s == [121, 101, 115]) = false := by simpa using hy
    clear hy
    go_enter Tryz.func178, Tryz.ntmps178
    go_wp2_with fail
    go_ret
    exact ⟨ret1 (vbool (by rw [Hf.out, Hy.out])), Below.refl _ _⟩

theorem standing_at (s : List UInt8) (w : World) :
    Calls Tryz.prog 178 #[.string ⟨#[64]⟩, .string ⟨s.toArray⟩] w fun e w' => e = .returned (.bool (standOk [64] s)) ∧ Below w.heap.size w w' := by
  go_enter Tryz.func178, Tryz.ntmps178
  go_wp2_with fail
  go_ret
  exact ⟨rfl, Below.refl _ _⟩

set_option maxHeartbeats 800000 in
theorem standing_t (s : List UInt8) (w : World) (hs : s.length ≤ 4000000) :
    Calls Tryz.prog 178 #[.string ⟨#[116]⟩, .string ⟨s.toArray⟩] w fun e w' => e = .returned (.bool (standOk [116] s)) ∧ Below w.heap.size w w' := by
  have hf := standOk_t (s := s)
  rcases Nat.lt_or_ge 2 s.length with h2 | h2
  · obtain ⟨c, u, d, rfl⟩ : ∃ c u d, s = c :: (u ++ [d]) := by
      cases s with
      | nil => simp at h2
      | cons c t =>
        rcases snoc_cases t with rfl | ⟨u, d, rfl⟩
        · simp at h2
        · exact ⟨c, u, d, rfl⟩
    have hl : (c :: (u ++ [d])).getLast? = some d := by
      rw [show c :: (u ++ [d]) = (c :: u) ++ [d] from rfl, List.getLast?_append]; rfl
    have hu : ((c :: (u ++ [d])).drop 1).dropLast = u := by simp
    rw [hl, hu] at hf
    have t0 : decide (2 < (c :: (u ++ [d])).length) = true := by simpa using h2
    rw [t0] at hf
    simp only [List.head?_cons, Option.some.injEq, Bool.true_and] at hf
    have Hf := Lib.hid hf
    have hc := c.toNat_lt
    have hd := d.toNat_lt
    have hgd : ∀ h, (c :: (u ++ [d]))[u.length + 1]'h = d := by intro h; simp
    have hsl : (List.take u.length (u ++ [d])) = u := by simp
    have hul : 2 ≤ u.length + 1 := by simp at h2; omega
    have hul2 : u.length ≤ 4000000 := by simp at hs; omega
    clear hf hl hu h2 hs t0
    by_cases hc39 : c = 39
    · have t1 : ((c.toNat : Int) == 39) = true := byte_eq hc39
      have Hc := Lib.hid (show decide (c = 39) = true by simpa using hc39)
      clear hc39
      by_cases hd39 : d = 39
      · have t2 : ((d.toNat : Int) == 39) = true := byte_eq hd39
        have Hd := Lib.hid (show decide (d = 39) = true by simpa using hd39)
        clear hd39
        go_enter Tryz.func178, Tryz.ntmps178
        go_wp2_with fail
        refine (isText_any u _ (by omega)).mono ?_
        rintro e w' ⟨rfl, hb⟩
        go_wp2_with fail
        go_ret
        exact ⟨ret1 (vbool (by rw [Hf.out, Hc.out, Hd.out]; simp)), hb⟩
      · have t2 : ((d.toNat : Int) == 39) = false := byte_ne hd39
        have Hd := Lib.hid (show decide (d = 39) = false by simpa using hd39)
        clear hd39
        go_enter Tryz.func178, Tryz.ntmps178
        go_wp2_with fail
        go_ret
        exact ⟨ret1 (vbool (by rw [Hf.out, Hd.out]; simp)), Below.refl _ _⟩
    · have t1 : ((c.toNat : Int) == 39) = false := byte_ne hc39
      have Hc := Lib.hid (show decide (c = 39) = false by simpa using hc39)
      clear hc39
      go_enter Tryz.func178, Tryz.ntmps178
      go_wp2_with fail
      go_ret
      exact ⟨ret1 (vbool (by rw [Hf.out, Hc.out]; simp)), Below.refl _ _⟩
  · have e0 : decide (2 < s.length) = false := by simp; omega
    have Hf := Lib.hid (show standOk [116] s = false by rw [hf, e0]; simp)
    clear e0
    have t0 : decide (2 < (s.length : Int)) = false := by simp; omega
    clear hf
    go_enter Tryz.func178, Tryz.ntmps178
    go_wp2_with fail
    go_ret
    exact ⟨ret1 (vbool Hf.out.symm), Below.refl _ _⟩

theorem standing_any (b s : List UInt8) (w : World) (hb : baseL b) (hs : s.length ≤ 4000000) :
    Calls Tryz.prog 178 #[.string ⟨b.toArray⟩, .string ⟨s.toArray⟩] w fun e w' => e = .returned (.bool (standOk b s)) ∧ Below w.heap.size w w' := by
  rcases hb with rfl | rfl | rfl | rfl
  · exact standing_n s w hs
  · exact standing_t s w hs
  · exact standing_f s w hs
  · exact standing_at s w
end Go.Proofs.YtcjfgbcdlcdeaaaGreatDoor
/- Numbers and texts of the reference: l6Dec, l3Num, l3Text, l3Stand, l3Plain. -/
namespace Go.Proofs.YtcjfgbcdlcdeaaaGreatDoor
open Go.RowKit
set_option maxRecDepth 100000
set_option linter.unusedVariables false
attribute [local go_sem] ba_get ba_toList ba_extract take_drop_all ByteArray.mk_append_mk

set_option maxHeartbeats 400000 in
theorem l6Dec_one (n : Nat) (w : World) (hn : n < 10) :
    Calls Tryz.prog 101 #[.int .i64 n] w fun e w' => e = .returned (.string ⟨(decB n).toArray⟩) ∧ Below w.heap.size w w' := by
  have Hfin := Lib.hid (decB_small hn)
  have hcv := fun W => Tryz.conv1 W w.heap.size 1 (byteOf (48 + n))
  rw [byteOf_toNat (by omega)] at hcv
  go_enter Tryz.func101, Tryz.ntmps101
  go_wp2_with fail
  go_ret
  exact ⟨by rw [Hfin.out]; rfl, (Below.refl _ _).alloc (Nat.le_refl _) _⟩

set_option maxHeartbeats 400000 in
theorem l6Dec_more (n : Nat) (h10 : ¬ n < 10) (hn : n ≤ 1000000000) (ih : ∀ W, Calls Tryz.prog 101 #[.int .i64 ((n / 10 : Nat) : Int)] W fun e w' => e = .returned (.string ⟨(decB (n / 10)).toArray⟩) ∧ Below W.heap.size W w') (w : World) :
    Calls Tryz.prog 101 #[.int .i64 n] w fun e w' => e = .returned (.string ⟨(decB n).toArray⟩) ∧ Below w.heap.size w w' := by
  have Hfin := Lib.hid (decB_step h10)
  have ih' := Lib.hid ih
  have hl := decB_len 8 (n / 10) (by have e : 10 ^ (8 + 1) = 1000000000 := rfl; omega)
  clear ih
  have hcv := fun W g => Tryz.conv1 W g 1 (byteOf (48 + n % 10))
  have h1 : IntKind.u8.wrap (IntKind.i64.wrap (48 + (n : Int).tmod 10)) = ((byteOf (48 + n % 10)).toNat : Int) := by
    rw [byteOf_toNat (by omega), Int.tmod_eq_emod_of_nonneg (by omega), IntWalk.i64_in _ (by omega), IntWalk.u8_in _ (by omega)]; omega
  have h2 : IntKind.i64.wrap ((n : Int) / 10) = ((n / 10 : Nat) : Int) := by rw [IntWalk.i64_in _ (by omega)]; omega
  go_enter Tryz.func101, Tryz.ntmps101
  go_wp2_with fail
  go_region_with (go_at_call 101; refine (ih'.out _).mono ?_; rintro e w' ⟨rfl, hb⟩; obtain ⟨hc, hf, hz⟩ := bcell hb)
  all_goals
    go_wp2
    go_ret
    refine ⟨by rw [Hfin.out]; rfl, ?_⟩
    have hsz := hb.size
    repeat (first | exact Below.refl _ _ | refine Below.drew ?_ | refine Below.alloc ?_ (by simp at hsz ⊢; first | omega | done) _ | refine Below.trans ?_ (hb.mono (by simp)))

theorem l6Dec_any : ∀ (k n : Nat) (w : World), n ≤ k → n ≤ 1000000000 →
    Calls Tryz.prog 101 #[.int .i64 n] w fun e w' => e = .returned (.string ⟨(decB n).toArray⟩) ∧ Below w.heap.size w w' := by
  intro k
  induction k with
  | zero => intro n w hn h; exact l6Dec_one n w (by omega)
  | succ k ih =>
    intro n w hn h
    by_cases h10 : n < 10
    · exact l6Dec_one n w h10
    · exact l6Dec_more n h10 h (fun W => ih (n / 10) W (by omega) (by omega)) w
end Go.Proofs.YtcjfgbcdlcdeaaaGreatDoor
