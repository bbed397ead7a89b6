/- Texts joined: SRead8, SRead9, SType1, SType2, SType3, SType4, STypeH, Region3. Conditions: as each theorem names them. -/
import Derived.BigRegion
import Derived.Test.YtcjfgbcdlcdeaaaGreatDoorK01
import Derived.Test.YtcjfgbcdlcdeaaaGreatDoorK05
import Derived.Test.YtcjfgbcdlcdeaaaGreatDoorK06
import Derived.Test.YtcjfgbcdlcdeaaaGreatDoorK07
import Derived.Test.YtcjfgbcdlcdeaaaGreatDoorK08
/- l3ReadField, continued: a field of a record or a union. -/
namespace Go.Proofs.YtcjfgbcdlcdeaaaGreatDoor
open Go.RowKit
set_option maxRecDepth 100000
set_option linter.unusedVariables false
set_option linter.unusedSimpArgs false
attribute [local go_sem] ba_get ba_toList ba_extract take_drop_all ByteArray.mk_append_mk

set_option maxHeartbeats 2000000 in
theorem sRead_N6 (st : UInt8) (hst : st ≠ 69) (s a b d : List UInt8) (w : World) (hs : s.length ≤ 1000) (hp : splitL 58 s = [a, b, d]) (n0 : Nat) (ho : numOk a 200 = true) (hd : decL a = some n0) (h1 : 1 ≤ n0) (h2 : n0 ≤ 200) (hnm : nameOk b = true) (k v x : List UInt8) (l : List (List UInt8)) (hq : splitL 61 d = k :: v :: x :: l) :
    Calls Tryz.prog 150 #[.string ⟨s.toArray⟩, .int .u8 (st.toNat : Int)] w (SfPost (fieldS st s) w) := by
  have hal := splitL_plen 58 s a (by rw [hp]; simp)
  have hbl := splitL_plen 58 s b (by rw [hp]; simp)
  have hdl := splitL_plen 58 s d (by rw [hp]; simp)
  have hF : fieldS st s = fieldS3 st a b d := fieldS_three hst hp
  have Hcut := Lib.hid (fun W => l3Cut_any s 58 58 rfl W (by omega))
  rw [hp] at Hcut
  have Hnum := Lib.hid (fun W => l3Num_any a 200 W (by omega) (by omega))
  have Hname := Lib.hid (fun W => l2Name_any b W (by omega))
  have hsl := st.toNat_lt
  have t1 : ((st.toNat : Int) != 69) = true := by have := byte_ne hst; simpa using this
  have t2 : ((st.toNat : Int) == 69) = false := byte_ne hst
  clear hp hst
  have hll := splitL_len 61 d
  rw [hq] at hll
  simp at hll
  rw [three_more (fdL3_good hd h1 h2 hnm) hq] at hF
  have HF := Lib.hid hF
  have Ho := Lib.hid ho
  have Hd := Lib.hid hd
  have Hnm := Lib.hid hnm
  have Hcut2 := Lib.hid (fun W => l3Cut_any d 61 61 rfl W (by omega))
  rw [hq] at Hcut2
  clear hF ho hd hnm hq
  go_enter Tryz.func150, Tryz.ntmps150
  go_wp2_with fail
  refine (Hcut.out _).mono ?_
  rintro e w1 ⟨v, rfl, ho, hb⟩
  obtain ⟨g, c, rfl, hg1, hg2, c0, c1, c2⟩ := own_three ho
  simp at hg1
  obtain ⟨hc, hfz, hz⟩ := bcell hb
  have Hb := Lib.hid (((Below.refl w.heap.size w).alloc (Nat.le_refl _) _).trans (hb.mono (by simp)))
  have hzz := hz w.heap.size (by simp)
  clear hb ho
  go_wp2_with fail
  refine (Hnum.out _).mono ?_
  rintro e w2 ⟨n, hn, rfl, hdn, hb2⟩
  rw [Ho.out]
  obtain ⟨hc2, hfz2, hz2⟩ := bcell hb2
  have Hb2 := Lib.hid (Hb.out.trans (hb2.mono Hb.out.size))
  have hsz := Hb2.out.size
  have hz3 := hz2 _ hzz
  clear hb2
  obtain rfl := hdn n0 Hd.out
  clear hdn
  go_wp2_with fail
  refine (Hname.out _).mono ?_
  rintro e w3 ⟨rfl, rfl⟩
  rw [Hnm.out]
  go_wp2_with fail
  refine (Hcut2.out _).mono ?_
  rintro e w4 ⟨v4, rfl, ho4, hb4⟩
  obtain ⟨A4, c4, rfl, hrow⟩ := RowAt.own ho4
  obtain ⟨b4, o4, e4, hg5, hcc⟩ := hrow.at_ (k := 0) (by simp)
  subst e4
  have c40 : w4.cell? ⟨b4, o4, none⟩ = some (.string ⟨k.toArray⟩) := by simpa [scells] using hcc
  clear hrow hcc
  obtain ⟨hc4, hfz4, hz4⟩ := bcell hb4
  have hzb := hz4 w.heap.size (Nat.lt_trans hz3 (by simp))
  have hzf := hz4 w2.heap.size (by simp)
  have Hb4 := Lib.hid ((Hb2.out.alloc hsz _).trans (hb4.mono (Nat.le_trans hsz (by simp))))
  have u0 : w4.cell? ⟨w.heap.size, 0, none⟩ = some (.int .i64 0) := by rw [hc4 w.heap.size 0 (by simp; omega)]; simp [go_sem, hc2, hc, hzz, hz3]
  have u1 : w4.cell? ⟨w.heap.size, 1, none⟩ = some (.string ⟨#[]⟩) := by rw [hc4 w.heap.size 1 (by simp; omega)]; simp [go_sem, hc2, hc, hzz, hz3]
  have u2 : w4.cell? ⟨w.heap.size, 2, none⟩ = some (.string ⟨#[]⟩) := by rw [hc4 w.heap.size 2 (by simp; omega)]; simp [go_sem, hc2, hc, hzz, hz3]
  have u3 : w4.cell? ⟨w.heap.size, 3, none⟩ = some (.string ⟨#[]⟩) := by rw [hc4 w.heap.size 3 (by simp; omega)]; simp [go_sem, hc2, hc, hzz, hz3]
  have d0 : w4.cell? ⟨w2.heap.size, 0, none⟩ = some (.int .i64 (n0 : Int)) := by rw [hc4 w2.heap.size 0 (by simp)]; simp
  have d1 : w4.cell? ⟨w2.heap.size, 1, none⟩ = some (.string ⟨b.toArray⟩) := by rw [hc4 w2.heap.size 1 (by simp)]; simp
  have d2 : w4.cell? ⟨w2.heap.size, 2, none⟩ = some (.string ⟨#[]⟩) := by rw [hc4 w2.heap.size 2 (by simp)]; simp
  have d3 : w4.cell? ⟨w2.heap.size, 3, none⟩ = some (.string ⟨#[]⟩) := by rw [hc4 w2.heap.size 3 (by simp)]; simp
  have f1 : ∀ j, w4.frozen? ⟨w.heap.size, j, none⟩ = false := fun j => by rw [hfz4 w.heap.size j (by simp; omega)]; simp [go_sem, hfz2, hfz, hzz, hz3]
  have f2 : ∀ j, w4.frozen? ⟨w2.heap.size, j, none⟩ = false := fun j => by rw [hfz4 w2.heap.size j (by simp)]; simp
  clear hb4 ho4 hc hc2 hc4 hfz hfz2 hfz4 hz hz2 hz4
  have q0 : 3 ≤ (k :: v :: x :: l).length := by simp
  generalize (k :: v :: x :: l).length = m at q0 hll ⊢
  have q2 : ((m : Int) == 2) = false := by rw [beq_eq_false_iff_ne]; omega
  have q3 : ((m : Int) == 1) = false := by rw [beq_eq_false_iff_ne]; omega
  have q4 : ¬ ((m : Int) = 2) := by omega
  have q5 : ¬ ((m : Int) = 1) := by omega
  have q6 : (0 : Int) < (m : Int) := by omega
  have hn1 : ¬ (w2.heap.size = w.heap.size) := by omega
  have hn2 : ¬ (w.heap.size = w2.heap.size) := by omega
  have hn3 : ¬ (w4.heap.size = w.heap.size) := by omega
  have hn4 : ¬ (w.heap.size = w4.heap.size) := by omega
  go_wp2_with fail
  generalize hW0 : w4.setCell ⟨w2.heap.size, 2, none⟩ (.string ⟨k.toArray⟩) = W0
  have e0 : W0.cell? ⟨w2.heap.size, 0, none⟩ = some (.int .i64 (n0 : Int)) := by rw [← hW0]; simp [go_sem, d0]
  have e1 : W0.cell? ⟨w2.heap.size, 1, none⟩ = some (.string ⟨b.toArray⟩) := by rw [← hW0]; simp [go_sem, d1]
  have e2 : W0.cell? ⟨w2.heap.size, 2, none⟩ = some (.string ⟨k.toArray⟩) := by rw [← hW0]; simp [go_sem, hzf, d2, f2]
  have e3 : W0.cell? ⟨w2.heap.size, 3, none⟩ = some (.string ⟨#[]⟩) := by rw [← hW0]; simp [go_sem, hzf, d3, f2]
  have v0 : W0.cell? ⟨w.heap.size, 0, none⟩ = some (.int .i64 0) := by rw [← hW0]; simp [go_sem, u0, hn1, hn2]
  have v1 : W0.cell? ⟨w.heap.size, 1, none⟩ = some (.string ⟨#[]⟩) := by rw [← hW0]; simp [go_sem, u1, hn1, hn2]
  have v2 : W0.cell? ⟨w.heap.size, 2, none⟩ = some (.string ⟨#[]⟩) := by rw [← hW0]; simp [go_sem, u2, hn1, hn2]
  have v3 : W0.cell? ⟨w.heap.size, 3, none⟩ = some (.string ⟨#[]⟩) := by rw [← hW0]; simp [go_sem, u3, hn1, hn2]
  have g1 : ∀ j, W0.frozen? ⟨w.heap.size, j, none⟩ = false := fun j => by rw [← hW0]; simp [go_sem, f1]
  have y1 : w.heap.size < W0.heap.size := by rw [← hW0]; simp [go_sem, hzb]
  have Hb5 : Below w.heap.size w W0 := by
    rw [← hW0]
    (repeat (first | exact Hb4.out | refine Below.setCell ?_ (by first | exact Nat.le_refl _ | (simp; omega) | omega) _ | refine Below.alloc ?_ (by first | exact Nat.le_refl _ | (simp; omega) | omega) _ | refine Below.drew ?_))
  have Hb5 := Lib.hid Hb5
  clear hW0 u0 u1 u2 u3 d0 d1 d2 d3 f1 f2 Hb4 hzb hzf
  refine wp_region_slots [83, 84, 85, 86, 87, 88, 89, 90, 91, 999, 5] (by kernel_rfl) (by kernel_rfl) (by kernel_rfl) (fun u => by dsimp only [frameOf, setMany, List.set])
    (fun i x W => x = [.agg #[.int .i64 n0, .string ⟨b.toArray⟩, .string ⟨k.toArray⟩, .string ⟨#[]⟩], .slice (some ⟨b4, o4, none⟩) m c4, .int .i64 (m : Int), .bool false, .bool false, undef, undef, undef, .bool false, undef, .bool false][i]?.getD undef)
    (fun L W => W = if L 9 = true then (((W0.drew.setCell ⟨w.heap.size, 0, none⟩ (.int .i64 n0)).setCell ⟨w.heap.size, 1, none⟩ (.string ⟨b.toArray⟩)).setCell ⟨w.heap.size, 2, none⟩ (.string ⟨k.toArray⟩)).setCell ⟨w.heap.size, 3, none⟩ (.string ⟨#[]⟩) else W0.drew) (fun _ _ => True) (fun _ _ _ _ _ h => h) rfl ?_ ?_
  · repeat (first | exact Steps.nil | (refine Steps.cons ?_ ?_; rotate_left))
    all_goals
      rintro L u W hL hpre hR K hK
      first | (simp [Region.binds] at hpre; done) | simp [Region.binds] at hpre | clear hpre
      rcases hl : L 9 with _ | _
      all_goals
        first | exact absurd (hl.symm.trans hL) (by decide) | (
          rw [hl] at hR
          first | rw [if_neg (by decide)] at hR | rw [if_pos rfl] at hR
          have hR' := hR.symm
          subst hR'
          go_simp
          first | (refine hK _ _ _ rfl trivial (by simp [hl, go_sem]) rfl; done) | (refine hK _ _ _ rfl trivial (by simp [hl, go_sem]) (by simp [Act.put, hpre]); done) | (refine hK undef _ _ rfl trivial (by simp [hl, go_sem]) (by simp [Act.put, hpre]); done))
  · rintro L u W hL hφ hR
    have c10 := hφ 10 (by decide)
    simp at c10
    simp only [c10]
    rw [if_pos (hL 9 (by decide))] at hR
    subst hR
    go_wp2_with fail
    refine bodyPost_ret (v := .tuple #[.agg #[.int .i64 n0, .string ⟨b.toArray⟩, .string ⟨k.toArray⟩, .string ⟨#[]⟩], .bool false]) (by simp [results, Tryz.results150, go_sem, g1, y1, v0, v1, v2, v3]) rfl ?_
    exact SfPost.no HF.out rfl (by (repeat (first | exact Hb5.out | refine Below.setCell ?_ (by first | exact Nat.le_refl _ | (simp; omega) | omega) _ | refine Below.alloc ?_ (by first | exact Nat.le_refl _ | (simp; omega) | omega) _ | refine Below.drew ?_)))

end Go.Proofs.YtcjfgbcdlcdeaaaGreatDoor
/- l3ReadField, whole: what it answers is fieldS. -/
namespace Go.Proofs.YtcjfgbcdlcdeaaaGreatDoor
open Go.RowKit
set_option linter.unusedVariables false

theorem sReadField_any (st : UInt8) (hso : sortOk st) (s : List UInt8) (w : World) (hs : s.length ≤ 1000) :
    Calls Tryz.prog 150 #[.string ⟨s.toArray⟩, .int .u8 (st.toNat : Int)] w (SfPost (fieldS st s) w) := by
  by_cases hp : (splitL 58 s).length = (if st = 69 then 2 else 3)
  · by_cases he : st = 69
    · subst he
      rw [if_pos rfl] at hp
      match hs2 : splitL 58 s, hp with
      | [a, b], _ => exact sReadField_enum s a b w hs hs2
    · rw [if_neg he] at hp
      match hs2 : splitL 58 s, hp with
      | [a, b, d], _ =>
        rcases parts_cases a b with ho | ⟨ho, hd⟩ | ⟨n0, ho, hd, h1, h2, hnm⟩ | ⟨n0, ho, hd, h1, h2, hnm⟩
        · exact sRead_N1 st he s a b d w hs hs2 ho
        · exact sRead_N2 st he s a b d w hs hs2 ho hd
        · exact sRead_N3 st he s a b d w hs hs2 n0 ho hd h1 h2 hnm
        · match hq : splitL 61 d with
          | [] => exact absurd hq (splitL_ne 61 d)
          | [k] =>
            cases hk : kindL k with
            | none => exact sRead_N4n st he s a b d w hs hs2 n0 ho hd h1 h2 hnm k hq hk
            | some kk => exact sRead_N4y st he s a b d w hs hs2 n0 ho hd h1 h2 hnm k hq kk hk
          | [k, v] =>
            rcases hso with rfl | rfl | rfl
            · rcases Bool.eq_false_or_eq_true (standOk k v) with hsv | hsv
              · exact sRead_N5y s a b d w hs hs2 n0 ho hd h1 h2 hnm k v hq hsv
              · exact sRead_N5n s a b d w hs hs2 n0 ho hd h1 h2 hnm k v hq hsv
            · exact sRead_N5o s a b d w hs hs2 n0 ho hd h1 h2 hnm k v hq
            · exact absurd rfl he
          | k :: v :: x :: l => exact sRead_N6 st he s a b d w hs hs2 n0 ho hd h1 h2 hnm k v x l hq
  · exact sReadField_parts st s w hs hp

end Go.Proofs.YtcjfgbcdlcdeaaaGreatDoor
/- l3ReadType: what it leaves; lines with no name. -/
namespace Go.Proofs.YtcjfgbcdlcdeaaaGreatDoor
open Go.RowKit
set_option maxRecDepth 100000
set_option linter.unusedVariables false
set_option linter.unusedSimpArgs false
attribute [local go_sem] ba_get ba_toList ba_extract take_drop_all ByteArray.mk_append_mk

/-- What reading a type leaves. -/
def StPost (o : Option Ty) (w : World) (e : Ending) (w' : World) : Prop :=
  (match o with
    | some t => ∃ fv, e = .returned (.tuple #[styV t fv, .bool true]) ∧ w'.ownsRow w.heap.size 135 4 fv t.fields.length (t.fields.flatMap sfc)
    | none => ∃ (x : Int) (a : ByteArray) (A : Option Addr) (n c : Nat), e = .returned (.tuple #[.agg #[.int .u8 x, .string a, .slice A n c], .bool false])) ∧ Below w.heap.size w w'
theorem StPost.no {w w' : World} {e : Ending} {o : Option Ty} (ho : o = none) {x : Int} {a : ByteArray} {A : Option Addr} {n c : Nat} (he : e = .returned (.tuple #[.agg #[.int .u8 x, .string a, .slice A n c], .bool false])) (hb : Below w.heap.size w w') : StPost o w e w' := by
  rw [ho]; exact ⟨⟨x, a, A, n, c, he⟩, hb⟩
theorem StPost.yes {w w' : World} {e : Ending} {o : Option Ty} {t : Ty} {fv : Value} (ho : o = some t) (he : e = .returned (.tuple #[styV t fv, .bool true])) (hr : w'.ownsRow w.heap.size 135 4 fv t.fields.length (t.fields.flatMap sfc)) (hb : Below w.heap.size w w') : StPost o w e w' := by
  rw [ho]; exact ⟨⟨fv, he, hr⟩, hb⟩

theorem mem_take_snoc {c : UInt8} {s : List UInt8} {k : Nat} (hk : k < s.length) (h : c ∉ s.take k) (hc : s[k] ≠ c) : c ∉ s.take (k + 1) := by
  rw [take_snoc s k hk]
  simp only [List.mem_append, List.mem_singleton, not_or]
  exact ⟨h, fun e => hc e.symm⟩
theorem at_part {c : UInt8} {p u : List UInt8} {k : Nat} (hp : c ∉ p) (hk : k < (p ++ c :: u).length) (h : c ∉ (p ++ c :: u).take k) : k ≤ p.length ∧ ((p ++ c :: u)[k] = c ↔ k = p.length) := by
  have h1 : k ≤ p.length := by
    rcases Nat.lt_or_ge p.length k with hlt | hge
    · exfalso
      apply h
      rw [List.take_append]
      rcases hd : k - p.length with _ | d
      · omega
      · simp
    · exact hge
  refine ⟨h1, ?_⟩
  rcases Nat.lt_or_ge k p.length with hlt | hge
  · rw [List.getElem_append_left hlt]
    exact ⟨fun e => absurd (e ▸ List.getElem_mem hlt) hp, fun e => by omega⟩
  · obtain rfl : k = p.length := by omega
    simp

set_option maxHeartbeats 2000000 in
theorem sType_none (s : List UInt8) (w : World) (hs : s.length ≤ 1000) (h : 61 ∉ s) :
    Calls Tryz.prog 115 #[.string ⟨s.toArray⟩] w (StPost (typeS s) w) := by
  have HF := Lib.hid (show typeS s = none by unfold typeS; rw [cutL_no h]; cases s <;> rfl)
  have H := Lib.hid h
  clear h
  go_enter Tryz.func115, Tryz.ntmps115
  go_wp2_with fail
  go_loopw [4] (fun i wr => ∃ k : Nat, i = .int .i64 k ∧ k ≤ s.length ∧ wr = w.alloc (.cells #[.int .u8 0, .string ⟨#[]⟩, .slice none 0 0] 133)) (fun i _ => s.length - (intOf i).toNat)
  case atStart => exact ⟨0, rfl, Nat.zero_le _, rfl⟩
  case round =>
    obtain ⟨k, rfl, hk, rfl⟩ := hrel
    by_cases hlt : k < s.length
    · have k1 : (k : Int) < (s.length : Int) := by omega
      have hne : s[k] ≠ 61 := fun e => H.out (e ▸ List.getElem_mem hlt)
      have t1 : (((s[k]).toNat : Int) != 61) = true := by have := byte_ne hne; simpa using this
      have t2 : (((s[k]).toNat : Int) == 61) = false := byte_ne hne
      have hb := (s[k]).toNat_lt
      clear hne
      go_wp2_with fail
      go_roundw
      case rel => exact ⟨k + 1, by go_num, by omega, trivial⟩
      case measure => simp [intOf]; omega
    · obtain rfl : k = s.length := by omega
      have k1 : ¬ ((s.length : Int) < (s.length : Int)) := by omega
      rcases Nat.eq_zero_or_pos s.length with h0 | h0
      · have q1 : ((s.length : Int) < 1) := by omega
        go_wp2_with fail
        refine bodyPost_ret (v := .tuple #[sty0, .bool false]) (by simp [results, Tryz.results115, go_sem, sty0]) rfl ?_
        exact StPost.no HF.out rfl (by (repeat (first | exact Below.refl _ _ | refine Below.setCell ?_ (by first | exact Nat.le_refl _ | (simp; done) | (simp; omega) | omega) _ | refine Below.alloc ?_ (by first | exact Nat.le_refl _ | (simp; done) | (simp; omega) | omega) _ | refine Below.drew ?_ | refine below_drewN ?_ _)))
      · have q1 : ¬ ((s.length : Int) < 1) := by omega
        go_wp2_with fail
        refine bodyPost_ret (v := .tuple #[sty0, .bool false]) (by simp [results, Tryz.results115, go_sem, sty0]) rfl ?_
        exact StPost.no HF.out rfl (by (repeat (first | exact Below.refl _ _ | refine Below.setCell ?_ (by first | exact Nat.le_refl _ | (simp; done) | (simp; omega) | omega) _ | refine Below.alloc ?_ (by first | exact Nat.le_refl _ | (simp; done) | (simp; omega) | omega) _ | refine Below.drew ?_ | refine below_drewN ?_ _)))

end Go.Proofs.YtcjfgbcdlcdeaaaGreatDoor
/- l3ReadType: a line with no sort, a bad name or a bad sort. -/
namespace Go.Proofs.YtcjfgbcdlcdeaaaGreatDoor
open Go.RowKit
set_option maxRecDepth 100000
set_option linter.unusedVariables false
set_option linter.unusedSimpArgs false
attribute [local go_sem] ba_get ba_toList ba_extract take_drop_all ByteArray.mk_append_mk

theorem at_part' {c : UInt8} {p u s : List UInt8} {k : Nat} (hs : s = p ++ c :: u) (hp : c ∉ p) (hk : k < s.length) (h : c ∉ s.take k) : k ≤ p.length ∧ (s[k] = c ↔ k = p.length) := by
  subst hs; exact at_part hp hk h

set_option maxHeartbeats 2000000 in
theorem sType_empty (s u : List UInt8) (w : World) (hs : s.length ≤ 1000) (h : s = [] ++ 61 :: u) :
    Calls Tryz.prog 115 #[.string ⟨s.toArray⟩] w (StPost (typeS s) w) := by
  have HF := Lib.hid (show typeS s = none by rw [h]; unfold typeS; rw [cutL_app (by simp)])
  have Hs := Lib.hid h
  have Hsl := Lib.hid (show s.length = 0 + 1 + u.length by rw [h]; simp; omega)
  have h0 : 0 < s.length := by have := Hsl.out; omega
  have Hp := Lib.hid (show (61 : UInt8) ∉ ([] : List UInt8) by simp)
  clear h
  go_enter Tryz.func115, Tryz.ntmps115
  go_wp2_with fail
  go_loopw [4] (fun i wr => ∃ k : Nat, i = .int .i64 k ∧ k < s.length ∧ Hid (61 ∉ s.take k) ∧ wr = w.alloc (.cells #[.int .u8 0, .string ⟨#[]⟩, .slice none 0 0] 133)) (fun i _ => s.length - (intOf i).toNat)
  case atStart => exact ⟨0, rfl, by omega, by simp [Hid], rfl⟩
  case round =>
    obtain ⟨k, rfl, hlt, hno, rfl⟩ := hrel
    have k1 : (k : Int) < (s.length : Int) := by omega
    obtain ⟨hkp, hiff⟩ := at_part' Hs.out Hp.out hlt hno.out
    have hb := (s[k]).toNat_lt
    by_cases hne : s[k] = 61
    · obtain rfl : k = 0 := hiff.1 hne
      have t1 : (((s[0]).toNat : Int) != 61) = false := by have := byte_eq hne; simpa using this
      have t2 : (((s[0]).toNat : Int) == 61) = true := byte_eq hne
      clear hne hiff hkp hno
      go_wp2_with fail
      refine bodyPost_ret (v := .tuple #[sty0, .bool false]) (by simp [results, Tryz.results115, go_sem, sty0]) rfl ?_
      exact StPost.no HF.out rfl (by (repeat (first | exact Below.refl _ _ | refine Below.setCell ?_ (by first | exact Nat.le_refl _ | (simp; done) | (simp; omega) | omega) _ | refine Below.alloc ?_ (by first | exact Nat.le_refl _ | (simp; done) | (simp; omega) | omega) _ | refine Below.drew ?_ | refine below_drewN ?_ _)))
    · have Hno := Lib.hid (mem_take_snoc hlt hno.out hne)
      have hk2 : k + 1 < s.length := by
        have h1 : k ≠ 0 := fun e => hne (hiff.2 e)
        simp at hkp
        have h2 := Hsl.out
        omega
      have t1 : (((s[k]).toNat : Int) != 61) = true := by have := byte_ne hne; simpa using this
      have t2 : (((s[k]).toNat : Int) == 61) = false := byte_ne hne
      clear hne hiff hkp
      go_wp2_with fail
      go_roundw
      case rel => exact ⟨k + 1, by go_num, hk2, Hno.out, trivial⟩
      case measure => simp [intOf]; omega

end Go.Proofs.YtcjfgbcdlcdeaaaGreatDoor
/- l3ReadType: a line with a bad name or a bad sort. -/
namespace Go.Proofs.YtcjfgbcdlcdeaaaGreatDoor
open Go.RowKit
set_option maxRecDepth 100000
set_option linter.unusedVariables false
set_option linter.unusedSimpArgs false
attribute [local go_sem] ba_get ba_toList ba_extract take_drop_all ByteArray.mk_append_mk
set_option maxHeartbeats 2000000 in
theorem sType_name (s : List UInt8) (c : UInt8) (nm u : List UInt8) (w : World) (hs : s.length ≤ 1000) (h : s = (c :: nm) ++ 61 :: u) (hp : 61 ∉ c :: nm) (hnm : nameOk nm = false) :
    Calls Tryz.prog 115 #[.string ⟨s.toArray⟩] w (StPost (typeS s) w) := by
  have HF := Lib.hid (show typeS s = none by rw [h]; unfold typeS; rw [cutL_app hp]; exact if_pos (.inl (by rw [hnm]; decide)))
  have Hs := Lib.hid h
  have Hsl := Lib.hid (show s.length = (c :: nm).length + 1 + u.length by rw [h]; simp; omega)
  have h0 : 0 < s.length := by have := Hsl.out; omega
  have Hp := Lib.hid hp
  have Hu := Lib.hid (fun W => l2Name_any nm W (by have := Hsl.out; simp at this; omega))
  rw [hnm] at Hu
  clear h hp hnm
  go_enter Tryz.func115, Tryz.ntmps115
  go_wp2_with fail
  go_loopw [4] (fun i wr => ∃ k : Nat, i = .int .i64 k ∧ k < s.length ∧ Hid (61 ∉ s.take k) ∧ wr = w.alloc (.cells #[.int .u8 0, .string ⟨#[]⟩, .slice none 0 0] 133)) (fun i _ => s.length - (intOf i).toNat)
  case atStart => exact ⟨0, rfl, by omega, by simp [Hid], rfl⟩
  case round =>
    obtain ⟨k, rfl, hlt, hno, rfl⟩ := hrel
    have k1 : (k : Int) < (s.length : Int) := by omega
    obtain ⟨hkp, hiff⟩ := at_part' Hs.out Hp.out hlt hno.out
    have hb := (s[k]).toNat_lt
    by_cases hne : s[k] = 61
    · obtain rfl : k = nm.length + 1 := hiff.1 hne
      have t1 : (((s[nm.length + 1]).toNat : Int) != 61) = false := by have := byte_eq hne; simpa using this
      have t2 : (((s[nm.length + 1]).toNat : Int) == 61) = true := byte_eq hne
      clear hne hiff hkp hno
      have e0 : s[0] = c := by simp [Hs.out]
      have e1 : s.tail.take nm.length = nm := by rw [Hs.out]; simp
      have e2 : s.drop (nm.length + 1 + 1) = u := by rw [Hs.out]; simp
      have m1 : (nm.length : Int) + 1 < (s.length : Int) := by have := Hsl.out; simp at this; omega
      have m2 : ¬ ((nm.length : Int) + 1 < 1) := by omega
      have m3 : ¬ ((s.length : Int) ≤ (nm.length : Int) + 1) := by omega
      have hcl := c.toNat_lt
      have hn1 : ¬ (w.heap.size + 1 = w.heap.size) := by omega
      go_wp2_with fail
      go_region
      go_wp2_with fail
      refine (Hu.out _).mono ?_
      rintro e w2 ⟨rfl, rfl⟩
      go_wp2_with fail
      refine bodyPost_ret (v := .tuple #[.agg #[.int .u8 (c.toNat : Int), .string ⟨nm.toArray⟩, .slice none 0 0], .bool false]) (by simp [results, Tryz.results115, go_sem, hn1]) rfl ?_
      exact StPost.no HF.out rfl (by (repeat (first | exact Below.refl _ _ | refine Below.setCell ?_ (by first | exact Nat.le_refl _ | (simp; done) | (simp; omega) | omega) _ | refine Below.alloc ?_ (by first | exact Nat.le_refl _ | (simp; done) | (simp; omega) | omega) _ | refine Below.drew ?_ | refine below_drewN ?_ _)))
    · have Hno := Lib.hid (mem_take_snoc hlt hno.out hne)
      have hk2 : k + 1 < s.length := by
        have h1 : k ≠ (c :: nm).length := fun e => hne (hiff.2 e)
        have h2 := Hsl.out
        omega
      have t1 : (((s[k]).toNat : Int) != 61) = true := by have := byte_ne hne; simpa using this
      have t2 : (((s[k]).toNat : Int) == 61) = false := byte_ne hne
      clear hne hiff hkp
      go_wp2_with fail
      go_roundw
      case rel => exact ⟨k + 1, by go_num, hk2, Hno.out, trivial⟩
      case measure => simp [intOf]; omega
set_option maxHeartbeats 2000000 in
theorem sType_sort (s : List UInt8) (c : UInt8) (nm u : List UInt8) (w : World) (hs : s.length ≤ 1000) (h : s = (c :: nm) ++ 61 :: u) (hp : 61 ∉ c :: nm) (hnm : nameOk nm = true) (hso : ¬ sortOk c) :
    Calls Tryz.prog 115 #[.string ⟨s.toArray⟩] w (StPost (typeS s) w) := by
  have HF := Lib.hid (show typeS s = none by rw [h]; unfold typeS; rw [cutL_app hp]; exact if_pos (.inr hso))
  have Hs := Lib.hid h
  have Hsl := Lib.hid (show s.length = (c :: nm).length + 1 + u.length by rw [h]; simp; omega)
  have h0 : 0 < s.length := by have := Hsl.out; omega
  have Hp := Lib.hid hp
  have Hu := Lib.hid (fun W => l2Name_any nm W (by have := Hsl.out; simp at this; omega))
  rw [hnm] at Hu
  have Hso := Lib.hid hso
  clear h hp hnm hso
  go_enter Tryz.func115, Tryz.ntmps115
  go_wp2_with fail
  go_loopw [4] (fun i wr => ∃ k : Nat, i = .int .i64 k ∧ k < s.length ∧ Hid (61 ∉ s.take k) ∧ wr = w.alloc (.cells #[.int .u8 0, .string ⟨#[]⟩, .slice none 0 0] 133)) (fun i _ => s.length - (intOf i).toNat)
  case atStart => exact ⟨0, rfl, by omega, by simp [Hid], rfl⟩
  case round =>
    obtain ⟨k, rfl, hlt, hno, rfl⟩ := hrel
    have k1 : (k : Int) < (s.length : Int) := by omega
    obtain ⟨hkp, hiff⟩ := at_part' Hs.out Hp.out hlt hno.out
    have hb := (s[k]).toNat_lt
    by_cases hne : s[k] = 61
    · obtain rfl : k = nm.length + 1 := hiff.1 hne
      have t1 : (((s[nm.length + 1]).toNat : Int) != 61) = false := by have := byte_eq hne; simpa using this
      have t2 : (((s[nm.length + 1]).toNat : Int) == 61) = true := byte_eq hne
      clear hne hiff hkp hno
      have e0 : s[0] = c := by simp [Hs.out]
      have e1 : s.tail.take nm.length = nm := by rw [Hs.out]; simp
      have e2 : s.drop (nm.length + 1 + 1) = u := by rw [Hs.out]; simp
      have m1 : (nm.length : Int) + 1 < (s.length : Int) := by have := Hsl.out; simp at this; omega
      have m2 : ¬ ((nm.length : Int) + 1 < 1) := by omega
      have m3 : ¬ ((s.length : Int) ≤ (nm.length : Int) + 1) := by omega
      have hcl := c.toNat_lt
      have hn1 : ¬ (w.heap.size + 1 = w.heap.size) := by omega
      go_wp2_with fail
      have s1 : ((c.toNat : Int) != 82) = true := by have := byte_ne (d := 82) (fun e => Hso.out (.inl e)); simpa using this
      have s2 : ((c.toNat : Int) != 85) = true := by have := byte_ne (d := 85) (fun e => Hso.out (.inr (.inl e))); simpa using this
      have s3 : ((c.toNat : Int) != 69) = true := by have := byte_ne (d := 69) (fun e => Hso.out (.inr (.inr e))); simpa using this
      go_region
      go_wp2_with fail
      refine (Hu.out _).mono ?_
      rintro e w2 ⟨rfl, rfl⟩
      go_wp2_with fail
      refine bodyPost_ret (v := .tuple #[.agg #[.int .u8 (c.toNat : Int), .string ⟨nm.toArray⟩, .slice none 0 0], .bool false]) (by simp [results, Tryz.results115, go_sem, hn1]) rfl ?_
      exact StPost.no HF.out rfl (by (repeat (first | exact Below.refl _ _ | refine Below.setCell ?_ (by first | exact Nat.le_refl _ | (simp; done) | (simp; omega) | omega) _ | refine Below.alloc ?_ (by first | exact Nat.le_refl _ | (simp; done) | (simp; omega) | omega) _ | refine Below.drew ?_ | refine below_drewN ?_ _)))
    · have Hno := Lib.hid (mem_take_snoc hlt hno.out hne)
      have hk2 : k + 1 < s.length := by
        have h1 : k ≠ (c :: nm).length := fun e => hne (hiff.2 e)
        have h2 := Hsl.out
        omega
      have t1 : (((s[k]).toNat : Int) != 61) = true := by have := byte_ne hne; simpa using this
      have t2 : (((s[k]).toNat : Int) == 61) = false := byte_ne hne
      clear hne hiff hkp
      go_wp2_with fail
      go_roundw
      case rel => exact ⟨k + 1, by go_num, hk2, Hno.out, trivial⟩
      case measure => simp [intOf]; omega

end Go.Proofs.YtcjfgbcdlcdeaaaGreatDoor
/- l3ReadType: a line with no fields. -/
namespace Go.Proofs.YtcjfgbcdlcdeaaaGreatDoor
open Go.RowKit
set_option maxRecDepth 100000
set_option linter.unusedVariables false
set_option linter.unusedSimpArgs false
attribute [local go_sem] ba_get ba_toList ba_extract take_drop_all ByteArray.mk_append_mk
set_option maxHeartbeats 2000000 in
theorem sType_bare82 (s : List UInt8) (nm u : List UInt8) (w : World) (hs : s.length ≤ 1000) (h : s = (82 :: nm) ++ 61 :: u) (hp : 61 ∉ 82 :: nm) (hnm : nameOk nm = true) (hu : u = []) :
    Calls Tryz.prog 115 #[.string ⟨s.toArray⟩] w (StPost (typeS s) w) := by
  have HF := Lib.hid (show typeS s = some ⟨82, nm, []⟩ by rw [h]; unfold typeS; rw [cutL_app hp]; subst hu; simp [hnm, sortOk])
  have Hs := Lib.hid h
  have Hsl := Lib.hid (show s.length = (82 :: nm).length + 1 + u.length by rw [h]; simp; omega)
  have h0 : 0 < s.length := by have := Hsl.out; omega
  have Hp := Lib.hid hp
  have Hu := Lib.hid (fun W => l2Name_any nm W (by have := Hsl.out; simp at this; omega))
  rw [hnm] at Hu
  subst hu
  clear h hp hnm
  go_enter Tryz.func115, Tryz.ntmps115
  go_wp2_with fail
  go_loopw [4] (fun i wr => ∃ k : Nat, i = .int .i64 k ∧ k < s.length ∧ Hid (61 ∉ s.take k) ∧ wr = w.alloc (.cells #[.int .u8 0, .string ⟨#[]⟩, .slice none 0 0] 133)) (fun i _ => s.length - (intOf i).toNat)
  case atStart => exact ⟨0, rfl, by omega, by simp [Hid], rfl⟩
  case round =>
    obtain ⟨k, rfl, hlt, hno, rfl⟩ := hrel
    have k1 : (k : Int) < (s.length : Int) := by omega
    obtain ⟨hkp, hiff⟩ := at_part' Hs.out Hp.out hlt hno.out
    have hb := (s[k]).toNat_lt
    by_cases hne : s[k] = 61
    · obtain rfl : k = nm.length + 1 := hiff.1 hne
      have t1 : (((s[nm.length + 1]).toNat : Int) != 61) = false := by have := byte_eq hne; simpa using this
      have t2 : (((s[nm.length + 1]).toNat : Int) == 61) = true := byte_eq hne
      clear hne hiff hkp hno
      have e0 : s[0] = 82 := by simp [Hs.out]
      have e1 : s.tail.take nm.length = nm := by rw [Hs.out]; simp
      have e2 : s.drop (nm.length + 1 + 1) = [] := by rw [Hs.out]; simp
      have m1 : (nm.length : Int) + 1 < (s.length : Int) := by have := Hsl.out; simp at this; omega
      have m2 : ¬ ((nm.length : Int) + 1 < 1) := by omega
      have m3 : ¬ ((s.length : Int) ≤ (nm.length : Int) + 1) := by omega
      have hn1 : ¬ (w.heap.size + 1 = w.heap.size) := by omega
      go_wp2_with fail
      go_region
      go_wp2_with fail
      refine (Hu.out _).mono ?_
      rintro e w2 ⟨rfl, rfl⟩
      go_wp2_with fail
      go_region
      go_wp2_with fail
      refine bodyPost_ret (v := .tuple #[.agg #[.int .u8 82, .string ⟨nm.toArray⟩, .slice none 0 0], .bool true]) (by simp [results, Tryz.results115, go_sem, hn1]) rfl ?_
      exact StPost.yes HF.out rfl ⟨rfl, .inl ⟨rfl, rfl⟩⟩ (by (repeat (first | exact Below.refl _ _ | refine Below.setCell ?_ (by first | exact Nat.le_refl _ | (simp; done) | (simp; omega) | omega) _ | refine Below.alloc ?_ (by first | exact Nat.le_refl _ | (simp; done) | (simp; omega) | omega) _ | refine Below.drew ?_ | refine below_drewN ?_ _)))
    · have Hno := Lib.hid (mem_take_snoc hlt hno.out hne)
      have hk2 : k + 1 < s.length := by
        have h1 : k ≠ (82 :: nm).length := fun e => hne (hiff.2 e)
        have h2 := Hsl.out
        omega
      have t1 : (((s[k]).toNat : Int) != 61) = true := by have := byte_ne hne; simpa using this
      have t2 : (((s[k]).toNat : Int) == 61) = false := byte_ne hne
      clear hne hiff hkp
      go_wp2_with fail
      go_roundw
      case rel => exact ⟨k + 1, by go_num, hk2, Hno.out, trivial⟩
      case measure => simp [intOf]; omega

set_option maxHeartbeats 2000000 in
theorem sType_bare85 (s : List UInt8) (nm u : List UInt8) (w : World) (hs : s.length ≤ 1000) (h : s = (85 :: nm) ++ 61 :: u) (hp : 61 ∉ 85 :: nm) (hnm : nameOk nm = true) (hu : u = []) :
    Calls Tryz.prog 115 #[.string ⟨s.toArray⟩] w (StPost (typeS s) w) := by
  have HF := Lib.hid (show typeS s = none by rw [h]; unfold typeS; rw [cutL_app hp]; subst hu; simp [hnm, sortOk])
  have Hs := Lib.hid h
  have Hsl := Lib.hid (show s.length = (85 :: nm).length + 1 + u.length by rw [h]; simp; omega)
  have h0 : 0 < s.length := by have := Hsl.out; omega
  have Hp := Lib.hid hp
  have Hu := Lib.hid (fun W => l2Name_any nm W (by have := Hsl.out; simp at this; omega))
  rw [hnm] at Hu
  subst hu
  clear h hp hnm
  go_enter Tryz.func115, Tryz.ntmps115
  go_wp2_with fail
  go_loopw [4] (fun i wr => ∃ k : Nat, i = .int .i64 k ∧ k < s.length ∧ Hid (61 ∉ s.take k) ∧ wr = w.alloc (.cells #[.int .u8 0, .string ⟨#[]⟩, .slice none 0 0] 133)) (fun i _ => s.length - (intOf i).toNat)
  case atStart => exact ⟨0, rfl, by omega, by simp [Hid], rfl⟩
  case round =>
    obtain ⟨k, rfl, hlt, hno, rfl⟩ := hrel
    have k1 : (k : Int) < (s.length : Int) := by omega
    obtain ⟨hkp, hiff⟩ := at_part' Hs.out Hp.out hlt hno.out
    have hb := (s[k]).toNat_lt
    by_cases hne : s[k] = 61
    · obtain rfl : k = nm.length + 1 := hiff.1 hne
      have t1 : (((s[nm.length + 1]).toNat : Int) != 61) = false := by have := byte_eq hne; simpa using this
      have t2 : (((s[nm.length + 1]).toNat : Int) == 61) = true := byte_eq hne
      clear hne hiff hkp hno
      have e0 : s[0] = 85 := by simp [Hs.out]
      have e1 : s.tail.take nm.length = nm := by rw [Hs.out]; simp
      have e2 : s.drop (nm.length + 1 + 1) = [] := by rw [Hs.out]; simp
      have m1 : (nm.length : Int) + 1 < (s.length : Int) := by have := Hsl.out; simp at this; omega
      have m2 : ¬ ((nm.length : Int) + 1 < 1) := by omega
      have m3 : ¬ ((s.length : Int) ≤ (nm.length : Int) + 1) := by omega
      have hn1 : ¬ (w.heap.size + 1 = w.heap.size) := by omega
      go_wp2_with fail
      go_region
      go_wp2_with fail
      refine (Hu.out _).mono ?_
      rintro e w2 ⟨rfl, rfl⟩
      go_wp2_with fail
      go_region
      go_wp2_with fail
      refine bodyPost_ret (v := .tuple #[.agg #[.int .u8 85, .string ⟨nm.toArray⟩, .slice none 0 0], .bool false]) (by simp [results, Tryz.results115, go_sem, hn1]) rfl ?_
      exact StPost.no HF.out rfl (by (repeat (first | exact Below.refl _ _ | refine Below.setCell ?_ (by first | exact Nat.le_refl _ | (simp; done) | (simp; omega) | omega) _ | refine Below.alloc ?_ (by first | exact Nat.le_refl _ | (simp; done) | (simp; omega) | omega) _ | refine Below.drew ?_ | refine below_drewN ?_ _)))
    · have Hno := Lib.hid (mem_take_snoc hlt hno.out hne)
      have hk2 : k + 1 < s.length := by
        have h1 : k ≠ (85 :: nm).length := fun e => hne (hiff.2 e)
        have h2 := Hsl.out
        omega
      have t1 : (((s[k]).toNat : Int) != 61) = true := by have := byte_ne hne; simpa using this
      have t2 : (((s[k]).toNat : Int) == 61) = false := byte_ne hne
      clear hne hiff hkp
      go_wp2_with fail
      go_roundw
      case rel => exact ⟨k + 1, by go_num, hk2, Hno.out, trivial⟩
      case measure => simp [intOf]; omega

set_option maxHeartbeats 2000000 in
theorem sType_bare69 (s : List UInt8) (nm u : List UInt8) (w : World) (hs : s.length ≤ 1000) (h : s = (69 :: nm) ++ 61 :: u) (hp : 61 ∉ 69 :: nm) (hnm : nameOk nm = true) (hu : u = []) :
    Calls Tryz.prog 115 #[.string ⟨s.toArray⟩] w (StPost (typeS s) w) := by
  have HF := Lib.hid (show typeS s = none by rw [h]; unfold typeS; rw [cutL_app hp]; subst hu; simp [hnm, sortOk])
  have Hs := Lib.hid h
  have Hsl := Lib.hid (show s.length = (69 :: nm).length + 1 + u.length by rw [h]; simp; omega)
  have h0 : 0 < s.length := by have := Hsl.out; omega
  have Hp := Lib.hid hp
  have Hu := Lib.hid (fun W => l2Name_any nm W (by have := Hsl.out; simp at this; omega))
  rw [hnm] at Hu
  subst hu
  clear h hp hnm
  go_enter Tryz.func115, Tryz.ntmps115
  go_wp2_with fail
  go_loopw [4] (fun i wr => ∃ k : Nat, i = .int .i64 k ∧ k < s.length ∧ Hid (61 ∉ s.take k) ∧ wr = w.alloc (.cells #[.int .u8 0, .string ⟨#[]⟩, .slice none 0 0] 133)) (fun i _ => s.length - (intOf i).toNat)
  case atStart => exact ⟨0, rfl, by omega, by simp [Hid], rfl⟩
  case round =>
    obtain ⟨k, rfl, hlt, hno, rfl⟩ := hrel
    have k1 : (k : Int) < (s.length : Int) := by omega
    obtain ⟨hkp, hiff⟩ := at_part' Hs.out Hp.out hlt hno.out
    have hb := (s[k]).toNat_lt
    by_cases hne : s[k] = 61
    · obtain rfl : k = nm.length + 1 := hiff.1 hne
      have t1 : (((s[nm.length + 1]).toNat : Int) != 61) = false := by have := byte_eq hne; simpa using this
      have t2 : (((s[nm.length + 1]).toNat : Int) == 61) = true := byte_eq hne
      clear hne hiff hkp hno
      have e0 : s[0] = 69 := by simp [Hs.out]
      have e1 : s.tail.take nm.length = nm := by rw [Hs.out]; simp
      have e2 : s.drop (nm.length + 1 + 1) = [] := by rw [Hs.out]; simp
      have m1 : (nm.length : Int) + 1 < (s.length : Int) := by have := Hsl.out; simp at this; omega
      have m2 : ¬ ((nm.length : Int) + 1 < 1) := by omega
      have m3 : ¬ ((s.length : Int) ≤ (nm.length : Int) + 1) := by omega
      have hn1 : ¬ (w.heap.size + 1 = w.heap.size) := by omega
      go_wp2_with fail
      go_region
      go_wp2_with fail
      refine (Hu.out _).mono ?_
      rintro e w2 ⟨rfl, rfl⟩
      go_wp2_with fail
      go_region
      go_wp2_with fail
      refine bodyPost_ret (v := .tuple #[.agg #[.int .u8 69, .string ⟨nm.toArray⟩, .slice none 0 0], .bool false]) (by simp [results, Tryz.results115, go_sem, hn1]) rfl ?_
      exact StPost.no HF.out rfl (by (repeat (first | exact Below.refl _ _ | refine Below.setCell ?_ (by first | exact Nat.le_refl _ | (simp; done) | (simp; omega) | omega) _ | refine Below.alloc ?_ (by first | exact Nat.le_refl _ | (simp; done) | (simp; omega) | omega) _ | refine Below.drew ?_ | refine below_drewN ?_ _)))
    · have Hno := Lib.hid (mem_take_snoc hlt hno.out hne)
      have hk2 : k + 1 < s.length := by
        have h1 : k ≠ (69 :: nm).length := fun e => hne (hiff.2 e)
        have h2 := Hsl.out
        omega
      have t1 : (((s[k]).toNat : Int) != 61) = true := by have := byte_ne hne; simpa using this
      have t2 : (((s[k]).toNat : Int) == 61) = false := byte_ne hne
      clear hne hiff hkp
      go_wp2_with fail
      go_roundw
      case rel => exact ⟨k + 1, by go_num, hk2, Hno.out, trivial⟩
      case measure => simp [intOf]; omega

end Go.Proofs.YtcjfgbcdlcdeaaaGreatDoor
/- l3ReadType: plain words for lines with fields. -/
namespace Go.Proofs.YtcjfgbcdlcdeaaaGreatDoor
open Go.RowKit

/-- The type of the fields that were read. -/
def finT (c : UInt8) (nm : List UInt8) : Option (List Fd) → Option Ty
  | some r => if r.length ≤ 8 then some ⟨c, nm, r⟩ else none
  | none => none
theorem typeS_fields {c : UInt8} {nm u s : List UInt8} (h : s = (c :: nm) ++ 61 :: u) (hp : 61 ∉ c :: nm) (hnm : nameOk nm = true) (hc : sortOk c) (hu : u ≠ []) : typeS s = finT c nm (fieldsS c (splitL 44 u) []) := by
  rw [h]; unfold typeS; rw [cutL_app hp]
  simp only []
  rw [if_neg (by rw [hnm]; simp [hc]), if_neg hu]
  unfold finT
  cases fieldsS c (splitL 44 u) [] <;> rfl
theorem fieldsS_step {c : UInt8} {ps : List (List UInt8)} {acc : List Fd} {k : Nat} (hk : k < ps.length) : fieldsS c (ps.drop k) acc = (match fieldS c ps[k] with | none => none | some f => if fitsIn acc f = false then none else fieldsS c (ps.drop (k + 1)) (acc ++ [f])) := by
  rw [List.drop_eq_getElem_cons hk]; rfl
theorem addr0 (g j : Nat) : (⟨g, 0, none⟩ : Addr).add j = ⟨g, j, none⟩ := by unfold Addr.add; split <;> simp_all
/-- Where the field lies that was just read. -/
def FdAt (W : World) (lo : Nat) (stored : Bool) (o : Option Fd) (v : Value) : Prop :=
  ∃ b8, v = .pointer (some ⟨b8, 0, none⟩) ∧ lo ≤ b8 ∧ b8 < W.heap.size ∧ (∀ j, W.frozen? ⟨b8, j, none⟩ = false) ∧
    (∃ x0 x1 x2 x3, W.cell? ⟨b8, 0, none⟩ = some x0 ∧ W.cell? ⟨b8, 1, none⟩ = some x1 ∧ W.cell? ⟨b8, 2, none⟩ = some x2 ∧ W.cell? ⟨b8, 3, none⟩ = some x3) ∧
    (stored = true → ∀ f, o = some f → W.cell? ⟨b8, 0, none⟩ = some (.int .i64 (f.tag : Int)) ∧ W.cell? ⟨b8, 1, none⟩ = some (.string ⟨f.name.toArray⟩) ∧ W.cell? ⟨b8, 2, none⟩ = some (.string ⟨(kdB f.kind).toArray⟩) ∧ W.cell? ⟨b8, 3, none⟩ = some (.string ⟨f.given.toArray⟩))
/-- The value of a field that was read. -/
def FdVal (o : Option Fd) (v : Value) : Prop :=
  match o with
  | some f => v = sfV f
  | none => ∃ (x : Int) (a b c : ByteArray), v = .agg #[.int .i64 x, .string a, .string b, .string c]
def TupOk (o : Option Fd) (v : Value) : Prop := ∃ rv, v = .tuple #[rv, .bool o.isSome] ∧ FdVal o rv
theorem FdAt.below {W W' : World} {lo : Nat} {b : Bool} {o : Option Fd} {v : Value} (h : FdAt W lo b o v) (hb : Below W.heap.size W W') : FdAt W' lo b o v := by
  obtain ⟨b8, rfl, h1, h2, h3, ⟨x0, x1, x2, x3, e0, e1, e2, e3⟩, h5⟩ := h
  have hc : ∀ j, W'.cell? ⟨b8, j, none⟩ = W.cell? ⟨b8, j, none⟩ := fun j => hb.cell (p := ⟨b8, j, none⟩) h2
  exact ⟨b8, rfl, h1, Nat.lt_of_lt_of_le h2 hb.size, fun j => (hb.frozen (p := ⟨b8, j, none⟩) h2).trans (h3 j), ⟨x0, x1, x2, x3, (hc 0).trans e0, (hc 1).trans e1, (hc 2).trans e2, (hc 3).trans e3⟩, fun hs f hf => by
    obtain ⟨a0, a1, a2, a3⟩ := h5 hs f hf
    exact ⟨(hc 0).trans a0, (hc 1).trans a1, (hc 2).trans a2, (hc 3).trans a3⟩⟩
theorem sfR_val {c : UInt8} {p : List UInt8} {W W' : World} {e : Ending} (h : SfPost (fieldS c p) W e W') : (∃ rv, e = .returned (.tuple #[rv, .bool (fieldS c p).isSome]) ∧ FdVal (fieldS c p) rv) ∧ Below W.heap.size W W' := by
  obtain ⟨h1, h2⟩ := h
  refine ⟨?_, h2⟩
  cases hf : fieldS c p with
  | none => rw [hf] at h1; obtain ⟨x, a, b, d, e1⟩ := h1; exact ⟨_, e1, x, a, b, d, rfl⟩
  | some f => rw [hf] at h1; exact ⟨_, h1, rfl⟩
theorem ownsRow_base {w : World} {b0 base k : Nat} {e : TypeId} {v : Value} {n : Nat} {xs : List Value} (h : w.ownsRow base e k v n xs) (hb : b0 ≤ base) : w.ownsRow b0 e k v n xs := by
  refine ⟨h.1, ?_⟩
  rcases h.2 with hn | ⟨g, cap, cur, rfl, hb2, rest⟩
  · exact .inl hn
  · exact .inr ⟨g, cap, cur, rfl, by omega, rest⟩
theorem fits_no {acc : List Fd} {f : Fd} {j : Nat} (hj : j < acc.length) (h : f.tag ≤ acc[j].tag ∨ acc[j].name = f.name) : fitsIn acc f = false := by
  rw [Bool.eq_false_iff]
  intro hf
  have := fitsIn_iff.1 hf _ (List.getElem_mem hj)
  rcases h with h | h
  · omega
  · exact this.1 h
theorem fits_step {acc : List Fd} {f : Fd} {j : Nat} (hj : j < acc.length) (h : ∀ g ∈ acc.take j, g.name ≠ f.name ∧ g.tag < f.tag) (h1 : ¬ f.tag ≤ acc[j].tag) (h2 : acc[j].name ≠ f.name) : ∀ g ∈ acc.take (j + 1), g.name ≠ f.name ∧ g.tag < f.tag := by
  intro g hg
  rw [take_snoc acc j hj] at hg
  rcases List.mem_append.1 hg with hg | hg
  · exact h g hg
  · simp at hg; subst hg; exact ⟨h2, by omega⟩
end Go.Proofs.YtcjfgbcdlcdeaaaGreatDoor
/- wp_region_slots3: a region whose order is open; what is known of the world may speak of the values yielded. -/
namespace Go.Proofs.YtcjfgbcdlcdeaaaGreatDoor
open Go.RowKit
section
variable {P : Program} {ops : Array Oper} {Q : Exit → Act → World → Prop}
/-- The same, where what is known of the world (R) may speak of what the operations have yielded too. -/
theorem wp_region_slots3 {id : Nat} {a : Act} {w : World} (S : List Nat) (hm : P.follows .mixedOrders = true) (hac : (List.range ops.size).all (fun i => ((ops[i]?).map fun o => o.after.all fun e => !Region.binds .any e || decide (e.on < i)).getD true) = true)
    (hS : slotsOk a.tmps.size ops.toList S = true) {mk : (Nat → Value) → Act} (hmk : ∀ u, frameOf a S u = mk u)
    (φ : Nat → Value → World → Prop) (R : (Nat → Bool) → (Nat → Value) → World → Prop) (Rel : World → World → Prop)
    (hst : ∀ w w', Rel w w' → ∀ i v, φ i v w → φ i v w')
    (h0 : R (fun _ => false) (fun i => a.tmps.toList.getD (S.getD i 0) undef) w.drew)
    (hstep : Steps (fun i o => ∀ (l : Nat → Bool) u w, l i = false → (∀ e ∈ o.after, Region.binds .any e = true → l e.on = true ∧ φ e.on (u e.on) w) → R l u w →
      (∀ j, l j = false → u j = a.tmps.toList.getD (S.getD j 0) undef) → (∀ (j : Nat) (o : Oper), ops[j]? = some o → ∀ e ∈ o.after, Region.binds .any e = true → l e.on = false → l j = false) →
      ∀ K : Act → World → Prop, (∀ v w' a', φ i v w' → Rel w w' → R (fun j => if j = i then true else l j) (fun j => if j = i then v else u j) w' → a' = (mk u).put o.dst v → K a' w') →
        if Region.wanted o (yielded ops (mk u).tmps) = true then Oper.wp P o (mk u) w K Q else K ((mk u).put o.dst undef) w) 0 ops.toList)
    (hdone : ∀ (l : Nat → Bool) u w, (∀ i, i < ops.size → l i = true) → (∀ i, i < ops.size → φ i (u i) w) → R l u w → Q .normal (mk u) w) : (Code.region id ops true).wp P Q a w := by
  obtain rfl : frameOf a S = mk := funext hmk
  obtain ⟨hn, hs⟩ := slotsOk_spec hS
  have hput : ∀ (i : Nat) (o : Oper), ops.toList[i]? = some o → ∀ u v, (frameOf a S u).put o.dst v = frameOf a S (fun j => if j = i then v else u j) := by
    intro i o ho u v
    obtain ⟨s, hsi, hd | ⟨hd, hb⟩⟩ := hs i o ho
    · have e := setMany_put S 0 u a.tmps.toList i s v hn hsi
      rw [Nat.zero_add] at e
      unfold frameOf Act.put
      rw [hd]
      simp only [← e]
      congr 1
      simp
    · have e := setMany_out S 0 u a.tmps.toList i s v hsi (by simpa using hb)
      rw [Nat.zero_add] at e
      unfold frameOf Act.put
      rw [hd]
      simp only [← e]
  have hac' : ∀ (i : Nat) (o : Oper), ops[i]? = some o → ∀ e ∈ o.after, Region.binds .any e = true → e.on < i := by
    intro i o ho e he hbd
    have hlt : i < ops.size := (Array.getElem?_eq_some_iff.1 ho).1
    have h := List.all_eq_true.1 hac i (List.mem_range.2 hlt)
    rw [ho] at h
    have := Array.all_eq_true_iff_forall_mem.1 h e he
    simpa [hbd] using this
  refine wp_region_any hm ?_
  refine wpAny_inv hac' (fun l b w => ∃ u, b = frameOf a S u ∧ (∀ i, l i = true → i < ops.size → φ i (u i) w) ∧ R l u w ∧ (∀ j, l j = false → u j = a.tmps.toList.getD (S.getD j 0) undef) ∧
      (∀ (j : Nat) (o : Oper), ops[j]? = some o → ∀ e ∈ o.after, Region.binds .any e = true → l e.on = false → l j = false)) ?_ ?_ ops.size _ a _ (by simp) (by
    unfold stillTo
    exact Nat.le_trans (List.length_filter_le _ _) (by simp)) ⟨fun i => a.tmps.toList.getD (S.getD i 0) undef, ?_, ?_, ?_, fun _ _ => rfl, ?_⟩
  · rintro l b w i o ho hl hpre ⟨u, rfl, hφ, hR, hi, hdn⟩
    have ho' : ops.toList[i]? = some o := by simpa using ho
    have hp := hput i o ho'
    have hs' := hstep i o ho'
    rw [Nat.zero_add] at hs'
    refine wpOp_step ho fun K' hK' => ?_
    refine hs' l u w hl (fun e he hb => ⟨hpre e he hb, hφ e.on (hpre e he hb) ?_⟩) hR hi hdn K' (fun v w' a' hv hrel hR' ha' => hK' _ _ ⟨_, ha'.trans (hp u v), fun j hj hjs => ?_, hR', fun j hj => ?_, fun j o' hj e he hb hle => ?_⟩)
    · have := hac' i o ho e he hb
      have := (Array.getElem?_eq_some_iff.1 ho).1
      omega
    · by_cases hji : j = i
      · subst hji; simpa using hv
      · have hj' : l j = true := by simpa [hji] using hj
        simpa [hji] using hst w w' hrel j _ (hφ j hj' hjs)
    · by_cases hji : j = i
      · subst hji; simp at hj
      · have hj' : l j = false := by simpa [hji] using hj
        simpa [hji] using hi j hj'
    · have hne : e.on ≠ i := by rintro rfl; simp at hle
      have hle' : l e.on = false := by simpa [hne] using hle
      have hlj := hdn j o' hj e he hb hle'
      have hji : j ≠ i := by
        rintro rfl
        rw [ho] at hj
        injection hj with hj
        subst hj
        rw [hpre e he hb] at hle'
        cases hle'
      simpa [hji] using hlj
  · rintro l b w hl ⟨u, rfl, hφ, hR, _, _⟩
    exact hdone l u w hl (fun i hi => hφ i (hl i hi) hi) hR
  · unfold frameOf
    rw [setMany_self S 0 _ _ fun k s hk => by simp [List.getD, hk]]
  · intro i hi
    simp [Array.getD] at hi
  · have e : (fun j => (Array.replicate ops.size false).getD j false) = fun _ => false := by
      funext j
      simp [Array.getD]
    rw [e]; exact h0
  · intro j o hj e he hb _
    simp [Array.getD]
end
end Go.Proofs.YtcjfgbcdlcdeaaaGreatDoor
