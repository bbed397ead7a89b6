/- Texts joined: SRead6. Conditions: as each theorem names them. -/
import Derived.Test.YtcjfgbcdlcdeaaaGreatDoorK05
/- l3ReadField, continued: a field of a record or a union. -/
namespace Go.Proofs.YtcjfgbcdlcdeaaaGreatDoor
open Go.RowKit
set_option maxRecDepth 100000
set_option linter.unusedVariables false
set_option linter.unusedSimpArgs false
attribute [local go_sem] ba_get ba_toList ba_extract take_drop_all ByteArray.mk_append_mk

set_option maxHeartbeats 2000000 in
theorem sRead_N5n (s a b d : List UInt8) (w : World) (hs : s.length ≤ 1000) (hp : splitL 58 s = [a, b, d]) (n0 : Nat) (ho : numOk a 200 = true) (hd : decL a = some n0) (h1 : 1 ≤ n0) (h2 : n0 ≤ 200) (hnm : nameOk b = true) (k v : List UInt8) (hq : splitL 61 d = [k, v]) (hsv : standOk k v = false) :
    Calls Tryz.prog 150 #[.string ⟨s.toArray⟩, .int .u8 82] w (SfPost (fieldS 82 s) w) := by
  have hal := splitL_plen 58 s a (by rw [hp]; simp)
  have hbl := splitL_plen 58 s b (by rw [hp]; simp)
  have hdl := splitL_plen 58 s d (by rw [hp]; simp)
  have hF : fieldS 82 s = fieldS3 82 a b d := fieldS_three (by decide) hp
  have Hcut := Lib.hid (fun W => l3Cut_any s 58 58 rfl W (by omega))
  rw [hp] at Hcut
  have Hnum := Lib.hid (fun W => l3Num_any a 200 W (by omega) (by omega))
  have Hname := Lib.hid (fun W => l2Name_any b W (by omega))
  clear hp
  have hkl := splitL_plen 61 d k (by rw [hq]; simp)
  have hvl := splitL_plen 61 d v (by rw [hq]; simp)
  rw [three_two (fdL3_good hd h1 h2 hnm) hq] at hF
  have hst2 : standOk k v = false := hsv
  have hkk := fun W => l3Stand_any k v W (by omega)
  rw [hsv] at hkk
  have Hk := Lib.hid hkk
  rw [if_neg (fun h => by rw [hsv] at h; cases h.2)] at hF
  clear hsv hst2 hkk
  have HF := Lib.hid hF
  have Ho := Lib.hid ho
  have Hd := Lib.hid hd
  have Hnm := Lib.hid hnm
  have Hcut2 := Lib.hid (fun W => l3Cut_any d 61 61 rfl W (by omega))
  rw [hq] at Hcut2
  clear hF ho hd hnm hq
  go_enter Tryz.func150, Tryz.ntmps150
  go_wp2_with fail
  refine (Hcut.out _).mono ?_
  rintro e w1 ⟨v, rfl, ho, hb⟩
  obtain ⟨g, c, rfl, hg1, hg2, c0, c1, c2⟩ := own_three ho
  simp at hg1
  obtain ⟨hc, hfz, hz⟩ := bcell hb
  have Hb := Lib.hid (((Below.refl w.heap.size w).alloc (Nat.le_refl _) _).trans (hb.mono (by simp)))
  have hzz := hz w.heap.size (by simp)
  clear hb ho
  go_wp2_with fail
  refine (Hnum.out _).mono ?_
  rintro e w2 ⟨n, hn, rfl, hdn, hb2⟩
  rw [Ho.out]
  obtain ⟨hc2, hfz2, hz2⟩ := bcell hb2
  have Hb2 := Lib.hid (Hb.out.trans (hb2.mono Hb.out.size))
  have hsz := Hb2.out.size
  have hz3 := hz2 _ hzz
  clear hb2
  obtain rfl := hdn n0 Hd.out
  clear hdn
  go_wp2_with fail
  refine (Hname.out _).mono ?_
  rintro e w3 ⟨rfl, rfl⟩
  rw [Hnm.out]
  go_wp2_with fail
  refine (Hcut2.out _).mono ?_
  rintro e w4 ⟨v4, rfl, ho4, hb4⟩
  obtain ⟨g4, c4, rfl, hg4, hg5, c40, c41⟩ := own_two ho4
  obtain ⟨hc4, hfz4, hz4⟩ := bcell hb4
  have hzb := hz4 w.heap.size (Nat.lt_trans hz3 (by simp))
  have hzf := hz4 w2.heap.size (by simp)
  have Hb4 := Lib.hid ((Hb2.out.alloc hsz _).trans (hb4.mono (Nat.le_trans hsz (by simp))))
  have u0 : w4.cell? ⟨w.heap.size, 0, none⟩ = some (.int .i64 0) := by rw [hc4 w.heap.size 0 (by simp; omega)]; simp [go_sem, hc2, hc, hzz, hz3]
  have u1 : w4.cell? ⟨w.heap.size, 1, none⟩ = some (.string ⟨#[]⟩) := by rw [hc4 w.heap.size 1 (by simp; omega)]; simp [go_sem, hc2, hc, hzz, hz3]
  have u2 : w4.cell? ⟨w.heap.size, 2, none⟩ = some (.string ⟨#[]⟩) := by rw [hc4 w.heap.size 2 (by simp; omega)]; simp [go_sem, hc2, hc, hzz, hz3]
  have u3 : w4.cell? ⟨w.heap.size, 3, none⟩ = some (.string ⟨#[]⟩) := by rw [hc4 w.heap.size 3 (by simp; omega)]; simp [go_sem, hc2, hc, hzz, hz3]
  have d0 : w4.cell? ⟨w2.heap.size, 0, none⟩ = some (.int .i64 (n0 : Int)) := by rw [hc4 w2.heap.size 0 (by simp)]; simp
  have d1 : w4.cell? ⟨w2.heap.size, 1, none⟩ = some (.string ⟨b.toArray⟩) := by rw [hc4 w2.heap.size 1 (by simp)]; simp
  have d2 : w4.cell? ⟨w2.heap.size, 2, none⟩ = some (.string ⟨#[]⟩) := by rw [hc4 w2.heap.size 2 (by simp)]; simp
  have d3 : w4.cell? ⟨w2.heap.size, 3, none⟩ = some (.string ⟨#[]⟩) := by rw [hc4 w2.heap.size 3 (by simp)]; simp
  have f1 : ∀ j, w4.frozen? ⟨w.heap.size, j, none⟩ = false := fun j => by rw [hfz4 w.heap.size j (by simp; omega)]; simp [go_sem, hfz2, hfz, hzz, hz3]
  have f2 : ∀ j, w4.frozen? ⟨w2.heap.size, j, none⟩ = false := fun j => by rw [hfz4 w2.heap.size j (by simp)]; simp
  clear hb4 ho4 hc hc2 hc4 hfz hfz2 hfz4 hz hz2 hz4
  have hn1 : ¬ (w2.heap.size = w.heap.size) := by omega
  have hn2 : ¬ (w.heap.size = w2.heap.size) := by omega
  have hn3 : ¬ (w4.heap.size = w.heap.size) := by omega
  have hn4 : ¬ (w.heap.size = w4.heap.size) := by omega
  go_wp2_with fail
  go_region_with (go_at_call 179; refine (Hk.out _).mono ?_; rintro e w' ⟨rfl, hb6⟩; obtain ⟨hc6, hfz6, hz6⟩ := bcell hb6)
  all_goals
    go_wp2
    refine bodyPost_ret (v := .tuple #[.agg #[.int .i64 n0, .string ⟨b.toArray⟩, .string ⟨k.toArray⟩, .string ⟨v.toArray⟩], .bool false]) (by simp [results, Tryz.results150, go_sem, u0, u1, u2, u3, d0, d1, d2, d3, hc6, hzz, hz3, hzb, hzf, hn1, hn2, hn3, hn4, sfV]) rfl ?_
    exact SfPost.no HF.out rfl (by (repeat (first | exact Hb4.out | refine Below.setCell ?_ (by first | exact Nat.le_refl _ | (simp; omega) | omega) _ | refine Below.alloc ?_ (by first | exact Nat.le_refl _ | (simp; omega) | omega) _ | refine Below.drew ?_ | refine Below.trans ?_ (hb6.mono (by first | exact Nat.le_refl _ | (simp; omega) | omega)))))

end Go.Proofs.YtcjfgbcdlcdeaaaGreatDoor
