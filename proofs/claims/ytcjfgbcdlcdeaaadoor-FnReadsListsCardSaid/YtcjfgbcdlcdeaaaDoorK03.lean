/- Texts joined: SRead, SRead2. Conditions: as each theorem names them. -/
import Derived.Test.YtcjfgbcdlcdeaaaDoorK02
/- l3ReadField: a field of a type, as the reference reads it. -/
namespace Go.Proofs.YtcjfgbcdlcdeaaaDoor
open Go.RowKit
set_option maxRecDepth 100000
set_option linter.unusedVariables false
set_option linter.unusedSimpArgs false
attribute [local go_sem] ba_get ba_toList ba_extract take_drop_all ByteArray.mk_append_mk

/-- What reading a field leaves. -/
def SfPost (o : Option Fd) (w : World) (e : Ending) (w' : World) : Prop :=
  (match o with
    | some f => e = .returned (.tuple #[sfV f, .bool true])
    | none => ∃ (x : Int) (a b c : ByteArray), e = .returned (.tuple #[.agg #[.int .i64 x, .string a, .string b, .string c], .bool false])) ∧ Below w.heap.size w w'
theorem SfPost.no {w w' : World} {e : Ending} {o : Option Fd} (ho : o = none) {x : Int} {a b c : ByteArray} (he : e = .returned (.tuple #[.agg #[.int .i64 x, .string a, .string b, .string c], .bool false])) (hb : Below w.heap.size w w') : SfPost o w e w' := by
  rw [ho]; exact ⟨⟨x, a, b, c, he⟩, hb⟩
theorem SfPost.yes {w w' : World} {e : Ending} {o : Option Fd} {f : Fd} (ho : o = some f) (he : e = .returned (.tuple #[sfV f, .bool true])) (hb : Below w.heap.size w w') : SfPost o w e w' := by
  rw [ho]; exact ⟨he, hb⟩

/-- Two or three texts in a row. -/
theorem own_two {w : World} {base : Nat} {v : Value} {a b : List UInt8} (h : w.ownsRow base 9 1 v [a, b].length (scells [a, b])) :
    ∃ g c, v = .slice (some ⟨g, 0, none⟩) 2 c ∧ base ≤ g ∧ g < w.heap.size ∧ w.cell? ⟨g, 0, none⟩ = some (.string ⟨a.toArray⟩) ∧ w.cell? ⟨g, 1, none⟩ = some (.string ⟨b.toArray⟩) := by
  rcases h.2 with ⟨_, h0⟩ | ⟨g, cap, cur, rfl, hb, hh, _⟩
  · simp at h0
  · have hc := fun j u hu => h.cells (g := g) rfl j u hu
    have e1 : ∀ j, (⟨g, 0, none⟩ : Addr).add j = ⟨g, j, none⟩ := fun j => by unfold Addr.add; split <;> simp_all
    refine ⟨g, cap, rfl, hb, (h.lt g rfl).2, ?_, ?_⟩
    · have := hc 0 _ rfl; rwa [e1] at this
    · have := hc 1 _ rfl; rwa [e1] at this
theorem own_three {w : World} {base : Nat} {v : Value} {a b d : List UInt8} (h : w.ownsRow base 9 1 v [a, b, d].length (scells [a, b, d])) :
    ∃ g c, v = .slice (some ⟨g, 0, none⟩) 3 c ∧ base ≤ g ∧ g < w.heap.size ∧ w.cell? ⟨g, 0, none⟩ = some (.string ⟨a.toArray⟩) ∧ w.cell? ⟨g, 1, none⟩ = some (.string ⟨b.toArray⟩) ∧ w.cell? ⟨g, 2, none⟩ = some (.string ⟨d.toArray⟩) := by
  rcases h.2 with ⟨_, h0⟩ | ⟨g, cap, cur, rfl, hb, hh, _⟩
  · simp at h0
  · have hc := fun j u hu => h.cells (g := g) rfl j u hu
    have e1 : ∀ j, (⟨g, 0, none⟩ : Addr).add j = ⟨g, j, none⟩ := fun j => by unfold Addr.add; split <;> simp_all
    refine ⟨g, cap, rfl, hb, (h.lt g rfl).2, ?_, ?_, ?_⟩
    · have := hc 0 _ rfl; rwa [e1] at this
    · have := hc 1 _ rfl; rwa [e1] at this
    · have := hc 2 _ rfl; rwa [e1] at this

set_option maxHeartbeats 1000000 in
/-- A number of parts that is not the wanted one. -/
theorem sReadField_parts (st : UInt8) (s : List UInt8) (w : World) (hs : s.length ≤ 1000) (hp : (splitL 58 s).length ≠ (if st = 69 then 2 else 3)) :
    Calls Tryd.prog 41 #[.string ⟨s.toArray⟩, .int .u8 (st.toNat : Int)] w (SfPost (fieldS st s) w) := by
  have hno : fieldS st s = none := by
    unfold fieldS
    by_cases h : st = 69
    · rw [if_pos h] at hp ⊢
      have : fdL2 (splitL 58 s) = none := by
        cases hh : fdL2 (splitL 58 s) with
        | none => rfl
        | some x => rw [(fdL2_some (n := x.1) (b := x.2)).1 hh |>.1] at hp; simp at hp
      rw [this]
    · rw [if_neg h] at hp ⊢
      have : fdL3 (splitL 58 s) = none := by
        cases hh : fdL3 (splitL 58 s) with
        | none => rfl
        | some x => rw [(fdL3_some (n := x.1) (b := x.2.1) (c := x.2.2)).1 hh |>.1] at hp; simp at hp
      rw [this]
  have Hno := Lib.hid hno
  have Hl := Lib.hid (splitL_len 58 s)
  have hst := st.toNat_lt
  clear hno
  have Hcut := Lib.hid (fun W => l3Cut_any s 58 58 rfl W (by omega))
  generalize splitL 58 s = ps at hp Hl Hcut
  by_cases h69 : st = 69
  · rw [if_pos h69] at hp
    have t1 : ((st.toNat : Int) != 69) = false := by have := byte_eq h69; simpa using this
    have t2 : ((st.toNat : Int) == 69) = true := byte_eq h69
    have t3 : ((ps.length : Int) != 2) = true := by rw [bne_iff_ne]; omega
    clear h69 hp
    go_enter Tryd.func41, Tryd.ntmps41
    go_wp2_with fail
    refine (Hcut.out _).mono ?_
    rintro e w1 ⟨v, rfl, ho, hb⟩
    obtain ⟨A, c, rfl, _⟩ := RowAt.own ho
    obtain ⟨hc, hfz, hz⟩ := bcell hb
    have Hb := Lib.hid (((Below.refl w.heap.size w).alloc (Nat.le_refl _) _).trans (hb.mono (by simp)))
    clear hb ho
    go_wp2_with fail
    all_goals
      refine bodyPost_ret (v := .tuple #[sf0, .bool false]) (by simp [results, Tryd.results41, go_sem, sf0, hc]) rfl ?_
      exact SfPost.no Hno.out rfl ((((Hb.out.setCell (Nat.le_refl _) _).setCell (Nat.le_refl _) _).setCell (Nat.le_refl _) _).setCell (Nat.le_refl _) _)
  · rw [if_neg h69] at hp
    have t1 : ((st.toNat : Int) != 69) = true := by have := byte_ne h69; simpa using this
    have t2 : ((st.toNat : Int) == 69) = false := byte_ne h69
    have t3 : ((ps.length : Int) != 3) = true := by rw [bne_iff_ne]; omega
    clear h69 hp
    go_enter Tryd.func41, Tryd.ntmps41
    go_wp2_with fail
    refine (Hcut.out _).mono ?_
    rintro e w1 ⟨v, rfl, ho, hb⟩
    obtain ⟨A, c, rfl, _⟩ := RowAt.own ho
    obtain ⟨hc, hfz, hz⟩ := bcell hb
    have Hb := Lib.hid (((Below.refl w.heap.size w).alloc (Nat.le_refl _) _).trans (hb.mono (by simp)))
    clear hb ho
    go_wp2_with fail
    all_goals
      refine bodyPost_ret (v := .tuple #[sf0, .bool false]) (by simp [results, Tryd.results41, go_sem, sf0, hc]) rfl ?_
      exact SfPost.no Hno.out rfl ((((Hb.out.setCell (Nat.le_refl _) _).setCell (Nat.le_refl _) _).setCell (Nat.le_refl _) _).setCell (Nat.le_refl _) _)

/-- How the first two parts of a field stand. -/
theorem parts_cases (a b : List UInt8) : numOk a 200 = false ∨ (numOk a 200 = true ∧ decL a = some 0) ∨ (∃ n, numOk a 200 = true ∧ decL a = some n ∧ 1 ≤ n ∧ n ≤ 200 ∧ nameOk b = false) ∨ (∃ n, numOk a 200 = true ∧ decL a = some n ∧ 1 ≤ n ∧ n ≤ 200 ∧ nameOk b = true) := by
  cases hd : decL a with
  | none => exact .inl (numOk_no hd)
  | some n =>
    rw [numOk_yes hd]
    by_cases h : n ≤ 200
    · have e : decide (n ≤ 200) = true := by simpa using h
      rw [e]
      by_cases h0 : n = 0
      · subst h0; exact .inr (.inl ⟨rfl, rfl⟩)
      · rcases Bool.eq_false_or_eq_true (nameOk b) with hb | hb
        · exact .inr (.inr (.inr ⟨n, rfl, rfl, by omega, h, hb⟩))
        · exact .inr (.inr (.inl ⟨n, rfl, rfl, by omega, h, hb⟩))
    · left; simpa using h
theorem fdL2_bad {a b : List UInt8} (h : numOk a 200 = false ∨ decL a = some 0 ∨ nameOk b = false) : fdL2 [a, b] = none := by
  cases hh : fdL2 [a, b] with
  | none => rfl
  | some x =>
    obtain ⟨n, c⟩ := x
    obtain ⟨e, h1, h2, h3⟩ := fdL2_some.1 hh
    simp at e
    obtain ⟨rfl, rfl⟩ := e
    have hd : decL (decB n) = some n := decL_some.2 ⟨by omega, rfl⟩
    rcases h with h | h | h
    · rw [numOk_yes hd] at h; simp at h; omega
    · rw [hd] at h; injection h with h; omega
    · rw [h3] at h; cases h
theorem fdL3_bad {a b c : List UInt8} (h : numOk a 200 = false ∨ decL a = some 0 ∨ nameOk b = false) : fdL3 [a, b, c] = none := by
  cases hh : fdL3 [a, b, c] with
  | none => rfl
  | some x =>
    obtain ⟨n, d, f⟩ := x
    obtain ⟨e, h1, h2, h3⟩ := fdL3_some.1 hh
    simp at e
    obtain ⟨rfl, rfl, rfl⟩ := e
    have hd : decL (decB n) = some n := decL_some.2 ⟨by omega, rfl⟩
    rcases h with h | h | h
    · rw [numOk_yes hd] at h; simp at h; omega
    · rw [hd] at h; injection h with h; omega
    · rw [h3] at h; cases h
theorem fdL2_good {a b : List UInt8} {n : Nat} (hd : decL a = some n) (h1 : 1 ≤ n) (h2 : n ≤ 200) (hb : nameOk b = true) : fdL2 [a, b] = some (n, b) := fdL2_some.2 ⟨by rw [(decL_some.1 hd).2], h1, h2, hb⟩
theorem fdL3_good {a b c : List UInt8} {n : Nat} (hd : decL a = some n) (h1 : 1 ≤ n) (h2 : n ≤ 200) (hb : nameOk b = true) : fdL3 [a, b, c] = some (n, b, c) := fdL3_some.2 ⟨by rw [(decL_some.1 hd).2], h1, h2, hb⟩

set_option maxHeartbeats 2000000 in
theorem sRead_E1 (s a b : List UInt8) (w : World) (hs : s.length ≤ 1000) (hp : splitL 58 s = [a, b]) (ho : numOk a 200 = false) :
    Calls Tryd.prog 41 #[.string ⟨s.toArray⟩, .int .u8 69] w (SfPost (fieldS 69 s) w) := by
  have hal := splitL_plen 58 s a (by rw [hp]; simp)
  have hbl := splitL_plen 58 s b (by rw [hp]; simp)
  have hF : fieldS 69 s = (match fdL2 [a, b] with | some (n, b) => some ⟨n, b, Kd.nil, []⟩ | none => none) := by unfold fieldS; rw [if_pos rfl, hp]; cases fdL2 [a, b] <;> rfl
  have Hcut := Lib.hid (fun W => l3Cut_any s 58 58 rfl W (by omega))
  rw [hp] at Hcut
  have Hnum := Lib.hid (fun W => l3Num_any a 200 W (by omega) (by omega))
  have Hname := Lib.hid (fun W => l2Name_any b W (by omega))
  clear hp
  rw [fdL2_bad (.inl ho)] at hF
  have HF := Lib.hid hF
  have Ho := Lib.hid ho
  clear hF ho
  go_enter Tryd.func41, Tryd.ntmps41
  go_wp2_with fail
  refine (Hcut.out _).mono ?_
  rintro e w1 ⟨v, rfl, ho, hb⟩
  obtain ⟨g, c, rfl, hg1, hg2, c0, c1⟩ := own_two ho
  simp at hg1
  obtain ⟨hc, hfz, hz⟩ := bcell hb
  have Hb := Lib.hid (((Below.refl w.heap.size w).alloc (Nat.le_refl _) _).trans (hb.mono (by simp)))
  have hzz := hz w.heap.size (by simp)
  clear hb ho
  go_wp2_with fail
  refine (Hnum.out _).mono ?_
  rintro e w2 ⟨n, hn, rfl, hdn, hb2⟩
  rw [Ho.out]
  obtain ⟨hc2, hfz2, hz2⟩ := bcell hb2
  have Hb2 := Lib.hid (Hb.out.trans (hb2.mono Hb.out.size))
  have hsz := Hb2.out.size
  have hz3 := hz2 _ hzz
  clear hb2
  go_wp2_with fail
  refine bodyPost_ret (v := .tuple #[.agg #[.int .i64 n, .string ⟨b.toArray⟩, .string ⟨#[]⟩, .string ⟨#[]⟩], .bool false]) (by simp [results, Tryd.results41, go_sem, hc, hc2, hzz, hz3]) rfl ?_
  exact SfPost.no HF.out rfl (by (repeat (first | exact Hb2.out | refine Below.setCell ?_ (by first | exact Nat.le_refl _ | (simp; omega) | omega) _ | refine Below.alloc ?_ (by first | exact Nat.le_refl _ | (simp; omega) | omega) _ | refine Below.drew ?_)))

set_option maxHeartbeats 2000000 in
theorem sRead_E2 (s a b : List UInt8) (w : World) (hs : s.length ≤ 1000) (hp : splitL 58 s = [a, b]) (ho : numOk a 200 = true) (hd : decL a = some 0) :
    Calls Tryd.prog 41 #[.string ⟨s.toArray⟩, .int .u8 69] w (SfPost (fieldS 69 s) w) := by
  have hal := splitL_plen 58 s a (by rw [hp]; simp)
  have hbl := splitL_plen 58 s b (by rw [hp]; simp)
  have hF : fieldS 69 s = (match fdL2 [a, b] with | some (n, b) => some ⟨n, b, Kd.nil, []⟩ | none => none) := by unfold fieldS; rw [if_pos rfl, hp]; cases fdL2 [a, b] <;> rfl
  have Hcut := Lib.hid (fun W => l3Cut_any s 58 58 rfl W (by omega))
  rw [hp] at Hcut
  have Hnum := Lib.hid (fun W => l3Num_any a 200 W (by omega) (by omega))
  have Hname := Lib.hid (fun W => l2Name_any b W (by omega))
  clear hp
  rw [fdL2_bad (.inr (.inl hd))] at hF
  have HF := Lib.hid hF
  have Ho := Lib.hid ho
  have Hd := Lib.hid hd
  clear hF ho hd
  go_enter Tryd.func41, Tryd.ntmps41
  go_wp2_with fail
  refine (Hcut.out _).mono ?_
  rintro e w1 ⟨v, rfl, ho, hb⟩
  obtain ⟨g, c, rfl, hg1, hg2, c0, c1⟩ := own_two ho
  simp at hg1
  obtain ⟨hc, hfz, hz⟩ := bcell hb
  have Hb := Lib.hid (((Below.refl w.heap.size w).alloc (Nat.le_refl _) _).trans (hb.mono (by simp)))
  have hzz := hz w.heap.size (by simp)
  clear hb ho
  go_wp2_with fail
  refine (Hnum.out _).mono ?_
  rintro e w2 ⟨n, hn, rfl, hdn, hb2⟩
  rw [Ho.out]
  obtain ⟨hc2, hfz2, hz2⟩ := bcell hb2
  have Hb2 := Lib.hid (Hb.out.trans (hb2.mono Hb.out.size))
  have hsz := Hb2.out.size
  have hz3 := hz2 _ hzz
  clear hb2
  obtain rfl := hdn 0 Hd.out
  clear hdn
  go_wp2_with fail
  refine bodyPost_ret (v := .tuple #[.agg #[.int .i64 0, .string ⟨b.toArray⟩, .string ⟨#[]⟩, .string ⟨#[]⟩], .bool false]) (by simp [results, Tryd.results41, go_sem, hc, hc2, hzz, hz3]) rfl ?_
  exact SfPost.no HF.out rfl (by (repeat (first | exact Hb2.out | refine Below.setCell ?_ (by first | exact Nat.le_refl _ | (simp; omega) | omega) _ | refine Below.alloc ?_ (by first | exact Nat.le_refl _ | (simp; omega) | omega) _ | refine Below.drew ?_)))

set_option maxHeartbeats 2000000 in
theorem sRead_E3 (s a b : List UInt8) (w : World) (hs : s.length ≤ 1000) (hp : splitL 58 s = [a, b]) (n0 : Nat) (ho : numOk a 200 = true) (hd : decL a = some n0) (h1 : 1 ≤ n0) (h2 : n0 ≤ 200) (hnm : nameOk b = false) :
    Calls Tryd.prog 41 #[.string ⟨s.toArray⟩, .int .u8 69] w (SfPost (fieldS 69 s) w) := by
  have hal := splitL_plen 58 s a (by rw [hp]; simp)
  have hbl := splitL_plen 58 s b (by rw [hp]; simp)
  have hF : fieldS 69 s = (match fdL2 [a, b] with | some (n, b) => some ⟨n, b, Kd.nil, []⟩ | none => none) := by unfold fieldS; rw [if_pos rfl, hp]; cases fdL2 [a, b] <;> rfl
  have Hcut := Lib.hid (fun W => l3Cut_any s 58 58 rfl W (by omega))
  rw [hp] at Hcut
  have Hnum := Lib.hid (fun W => l3Num_any a 200 W (by omega) (by omega))
  have Hname := Lib.hid (fun W => l2Name_any b W (by omega))
  clear hp
  rw [fdL2_bad (.inr (.inr hnm))] at hF
  have HF := Lib.hid hF
  have Ho := Lib.hid ho
  have Hd := Lib.hid hd
  have Hnm := Lib.hid hnm
  clear hF ho hd hnm
  go_enter Tryd.func41, Tryd.ntmps41
  go_wp2_with fail
  refine (Hcut.out _).mono ?_
  rintro e w1 ⟨v, rfl, ho, hb⟩
  obtain ⟨g, c, rfl, hg1, hg2, c0, c1⟩ := own_two ho
  simp at hg1
  obtain ⟨hc, hfz, hz⟩ := bcell hb
  have Hb := Lib.hid (((Below.refl w.heap.size w).alloc (Nat.le_refl _) _).trans (hb.mono (by simp)))
  have hzz := hz w.heap.size (by simp)
  clear hb ho
  go_wp2_with fail
  refine (Hnum.out _).mono ?_
  rintro e w2 ⟨n, hn, rfl, hdn, hb2⟩
  rw [Ho.out]
  obtain ⟨hc2, hfz2, hz2⟩ := bcell hb2
  have Hb2 := Lib.hid (Hb.out.trans (hb2.mono Hb.out.size))
  have hsz := Hb2.out.size
  have hz3 := hz2 _ hzz
  clear hb2
  obtain rfl := hdn n0 Hd.out
  clear hdn
  go_wp2_with fail
  refine (Hname.out _).mono ?_
  rintro e w3 ⟨rfl, rfl⟩
  rw [Hnm.out]
  go_wp2_with fail
  refine bodyPost_ret (v := .tuple #[.agg #[.int .i64 n0, .string ⟨b.toArray⟩, .string ⟨#[]⟩, .string ⟨#[]⟩], .bool false]) (by simp [results, Tryd.results41, go_sem, hc, hc2, hzz, hz3]) rfl ?_
  exact SfPost.no HF.out rfl (by (repeat (first | exact Hb2.out | refine Below.setCell ?_ (by first | exact Nat.le_refl _ | (simp; omega) | omega) _ | refine Below.alloc ?_ (by first | exact Nat.le_refl _ | (simp; omega) | omega) _ | refine Below.drew ?_)))

set_option maxHeartbeats 2000000 in
theorem sRead_E4 (s a b : List UInt8) (w : World) (hs : s.length ≤ 1000) (hp : splitL 58 s = [a, b]) (n0 : Nat) (ho : numOk a 200 = true) (hd : decL a = some n0) (h1 : 1 ≤ n0) (h2 : n0 ≤ 200) (hnm : nameOk b = true) :
    Calls Tryd.prog 41 #[.string ⟨s.toArray⟩, .int .u8 69] w (SfPost (fieldS 69 s) w) := by
  have hal := splitL_plen 58 s a (by rw [hp]; simp)
  have hbl := splitL_plen 58 s b (by rw [hp]; simp)
  have hF : fieldS 69 s = (match fdL2 [a, b] with | some (n, b) => some ⟨n, b, Kd.nil, []⟩ | none => none) := by unfold fieldS; rw [if_pos rfl, hp]; cases fdL2 [a, b] <;> rfl
  have Hcut := Lib.hid (fun W => l3Cut_any s 58 58 rfl W (by omega))
  rw [hp] at Hcut
  have Hnum := Lib.hid (fun W => l3Num_any a 200 W (by omega) (by omega))
  have Hname := Lib.hid (fun W => l2Name_any b W (by omega))
  clear hp
  rw [fdL2_good hd h1 h2 hnm] at hF
  have HF := Lib.hid hF
  have Ho := Lib.hid ho
  have Hd := Lib.hid hd
  have Hnm := Lib.hid hnm
  clear hF ho hd hnm
  go_enter Tryd.func41, Tryd.ntmps41
  go_wp2_with fail
  refine (Hcut.out _).mono ?_
  rintro e w1 ⟨v, rfl, ho, hb⟩
  obtain ⟨g, c, rfl, hg1, hg2, c0, c1⟩ := own_two ho
  simp at hg1
  obtain ⟨hc, hfz, hz⟩ := bcell hb
  have Hb := Lib.hid (((Below.refl w.heap.size w).alloc (Nat.le_refl _) _).trans (hb.mono (by simp)))
  have hzz := hz w.heap.size (by simp)
  clear hb ho
  go_wp2_with fail
  refine (Hnum.out _).mono ?_
  rintro e w2 ⟨n, hn, rfl, hdn, hb2⟩
  rw [Ho.out]
  obtain ⟨hc2, hfz2, hz2⟩ := bcell hb2
  have Hb2 := Lib.hid (Hb.out.trans (hb2.mono Hb.out.size))
  have hsz := Hb2.out.size
  have hz3 := hz2 _ hzz
  clear hb2
  obtain rfl := hdn n0 Hd.out
  clear hdn
  go_wp2_with fail
  refine (Hname.out _).mono ?_
  rintro e w3 ⟨rfl, rfl⟩
  rw [Hnm.out]
  go_wp2_with fail
  refine bodyPost_ret (v := .tuple #[sfV ⟨n0, b, Kd.nil, []⟩, .bool true]) (by simp [results, Tryd.results41, go_sem, sfV, Kd.nil, kdB, coreB, hc, hc2, hzz, hz3]) rfl ?_
  exact SfPost.yes HF.out rfl (by (repeat (first | exact Hb2.out | refine Below.setCell ?_ (by first | exact Nat.le_refl _ | (simp; omega) | omega) _ | refine Below.alloc ?_ (by first | exact Nat.le_refl _ | (simp; omega) | omega) _ | refine Below.drew ?_)))

theorem sReadField_enum (s a b : List UInt8) (w : World) (hs : s.length ≤ 1000) (hp : splitL 58 s = [a, b]) :
    Calls Tryd.prog 41 #[.string ⟨s.toArray⟩, .int .u8 69] w (SfPost (fieldS 69 s) w) := by
  rcases parts_cases a b with ho | ⟨ho, hd⟩ | ⟨n0, ho, hd, h1, h2, hnm⟩ | ⟨n0, ho, hd, h1, h2, hnm⟩
  · exact sRead_E1 s a b w hs hp ho
  · exact sRead_E2 s a b w hs hp ho hd
  · exact sRead_E3 s a b w hs hp n0 ho hd h1 h2 hnm
  · exact sRead_E4 s a b w hs hp n0 ho hd h1 h2 hnm

end Go.Proofs.YtcjfgbcdlcdeaaaDoor
/- l3ReadField, continued: a field of a record or a union. -/
namespace Go.Proofs.YtcjfgbcdlcdeaaaDoor
open Go.RowKit
set_option maxRecDepth 100000
set_option linter.unusedVariables false
set_option linter.unusedSimpArgs false
attribute [local go_sem] ba_get ba_toList ba_extract take_drop_all ByteArray.mk_append_mk

theorem own_one {w : World} {base : Nat} {v : Value} {a : List UInt8} (h : w.ownsRow base 9 1 v [a].length (scells [a])) :
    ∃ g c, v = .slice (some ⟨g, 0, none⟩) 1 c ∧ base ≤ g ∧ g < w.heap.size ∧ w.cell? ⟨g, 0, none⟩ = some (.string ⟨a.toArray⟩) := by
  rcases h.2 with ⟨_, h0⟩ | ⟨g, cap, cur, rfl, hb, hh, _⟩
  · simp at h0
  · have hc := fun j u hu => h.cells (g := g) rfl j u hu
    have e1 : ∀ j, (⟨g, 0, none⟩ : Addr).add j = ⟨g, j, none⟩ := fun j => by unfold Addr.add; split <;> simp_all
    refine ⟨g, cap, rfl, hb, (h.lt g rfl).2, ?_⟩
    have := hc 0 _ rfl; rwa [e1] at this

/-- What three parts tell as a field. -/
def fieldS3 (st : UInt8) (a b d : List UInt8) : Option Fd :=
  match fdL3 [a, b, d] with
  | some (n, b, c) => (match splitL 61 c with
    | [k] => (match kindL k with | some k => some ⟨n, b, k, []⟩ | none => none)
    | [k, v] => if st = 82 ∧ standOk k v = true then some ⟨n, b, ⟨[], k, []⟩, v⟩ else none
    | _ => none)
  | none => none
theorem fieldS_three {st : UInt8} {s a b d : List UInt8} (hst : st ≠ 69) (hp : splitL 58 s = [a, b, d]) : fieldS st s = fieldS3 st a b d := by
  unfold fieldS fieldS3
  rw [if_neg hst, hp]
  cases fdL3 [a, b, d] with
  | none => rfl
  | some x =>
    obtain ⟨n, b', c⟩ := x
    simp only
    match splitL 61 c with
    | [] => rfl
    | [k] => simp only; cases kindL k <;> rfl
    | [k, v] => rfl
    | _ :: _ :: _ :: _ => rfl
theorem three_bad {st : UInt8} {a b d : List UInt8} (h : fdL3 [a, b, d] = none) : fieldS3 st a b d = none := by unfold fieldS3; rw [h]
theorem three_one {st : UInt8} {a b d k : List UInt8} {n : Nat} (h : fdL3 [a, b, d] = some (n, b, d)) (hq : splitL 61 d = [k]) : fieldS3 st a b d = (kindL k).map fun k => ⟨n, b, k, []⟩ := by
  unfold fieldS3; rw [h]; simp only; rw [hq]; simp only; cases kindL k <;> rfl
theorem three_two {st : UInt8} {a b d k v : List UInt8} {n : Nat} (h : fdL3 [a, b, d] = some (n, b, d)) (hq : splitL 61 d = [k, v]) : fieldS3 st a b d = if st = 82 ∧ standOk k v = true then some ⟨n, b, ⟨[], k, []⟩, v⟩ else none := by
  unfold fieldS3; rw [h]; simp only; rw [hq]
theorem three_more {st : UInt8} {a b d k v x : List UInt8} {l : List (List UInt8)} {n : Nat} (h : fdL3 [a, b, d] = some (n, b, d)) (hq : splitL 61 d = k :: v :: x :: l) : fieldS3 st a b d = none := by
  unfold fieldS3; rw [h]; simp only; rw [hq]

set_option maxHeartbeats 2000000 in
theorem sRead_N1 (st : UInt8) (hst : st ≠ 69) (s a b d : List UInt8) (w : World) (hs : s.length ≤ 1000) (hp : splitL 58 s = [a, b, d]) (ho : numOk a 200 = false) :
    Calls Tryd.prog 41 #[.string ⟨s.toArray⟩, .int .u8 (st.toNat : Int)] w (SfPost (fieldS st s) w) := by
  have hal := splitL_plen 58 s a (by rw [hp]; simp)
  have hbl := splitL_plen 58 s b (by rw [hp]; simp)
  have hdl := splitL_plen 58 s d (by rw [hp]; simp)
  have hF : fieldS st s = fieldS3 st a b d := fieldS_three hst hp
  have Hcut := Lib.hid (fun W => l3Cut_any s 58 58 rfl W (by omega))
  rw [hp] at Hcut
  have Hnum := Lib.hid (fun W => l3Num_any a 200 W (by omega) (by omega))
  have Hname := Lib.hid (fun W => l2Name_any b W (by omega))
  have hsl := st.toNat_lt
  have t1 : ((st.toNat : Int) != 69) = true := by have := byte_ne hst; simpa using this
  have t2 : ((st.toNat : Int) == 69) = false := byte_ne hst
  clear hp hst
  rw [three_bad (fdL3_bad (.inl ho))] at hF
  have HF := Lib.hid hF
  have Ho := Lib.hid ho
  clear hF ho
  go_enter Tryd.func41, Tryd.ntmps41
  go_wp2_with fail
  refine (Hcut.out _).mono ?_
  rintro e w1 ⟨v, rfl, ho, hb⟩
  obtain ⟨g, c, rfl, hg1, hg2, c0, c1, c2⟩ := own_three ho
  simp at hg1
  obtain ⟨hc, hfz, hz⟩ := bcell hb
  have Hb := Lib.hid (((Below.refl w.heap.size w).alloc (Nat.le_refl _) _).trans (hb.mono (by simp)))
  have hzz := hz w.heap.size (by simp)
  clear hb ho
  go_wp2_with fail
  refine (Hnum.out _).mono ?_
  rintro e w2 ⟨n, hn, rfl, hdn, hb2⟩
  rw [Ho.out]
  obtain ⟨hc2, hfz2, hz2⟩ := bcell hb2
  have Hb2 := Lib.hid (Hb.out.trans (hb2.mono Hb.out.size))
  have hsz := Hb2.out.size
  have hz3 := hz2 _ hzz
  clear hb2
  go_wp2_with fail
  refine bodyPost_ret (v := .tuple #[.agg #[.int .i64 n, .string ⟨b.toArray⟩, .string ⟨#[]⟩, .string ⟨#[]⟩], .bool false]) (by simp [results, Tryd.results41, go_sem, hc, hc2, hzz, hz3]) rfl ?_
  exact SfPost.no HF.out rfl (by (repeat (first | exact Hb2.out | refine Below.setCell ?_ (by first | exact Nat.le_refl _ | (simp; omega) | omega) _ | refine Below.alloc ?_ (by first | exact Nat.le_refl _ | (simp; omega) | omega) _ | refine Below.drew ?_)))

set_option maxHeartbeats 2000000 in
theorem sRead_N2 (st : UInt8) (hst : st ≠ 69) (s a b d : List UInt8) (w : World) (hs : s.length ≤ 1000) (hp : splitL 58 s = [a, b, d]) (ho : numOk a 200 = true) (hd : decL a = some 0) :
    Calls Tryd.prog 41 #[.string ⟨s.toArray⟩, .int .u8 (st.toNat : Int)] w (SfPost (fieldS st s) w) := by
  have hal := splitL_plen 58 s a (by rw [hp]; simp)
  have hbl := splitL_plen 58 s b (by rw [hp]; simp)
  have hdl := splitL_plen 58 s d (by rw [hp]; simp)
  have hF : fieldS st s = fieldS3 st a b d := fieldS_three hst hp
  have Hcut := Lib.hid (fun W => l3Cut_any s 58 58 rfl W (by omega))
  rw [hp] at Hcut
  have Hnum := Lib.hid (fun W => l3Num_any a 200 W (by omega) (by omega))
  have Hname := Lib.hid (fun W => l2Name_any b W (by omega))
  have hsl := st.toNat_lt
  have t1 : ((st.toNat : Int) != 69) = true := by have := byte_ne hst; simpa using this
  have t2 : ((st.toNat : Int) == 69) = false := byte_ne hst
  clear hp hst
  rw [three_bad (fdL3_bad (.inr (.inl hd)))] at hF
  have HF := Lib.hid hF
  have Ho := Lib.hid ho
  have Hd := Lib.hid hd
  clear hF ho hd
  go_enter Tryd.func41, Tryd.ntmps41
  go_wp2_with fail
  refine (Hcut.out _).mono ?_
  rintro e w1 ⟨v, rfl, ho, hb⟩
  obtain ⟨g, c, rfl, hg1, hg2, c0, c1, c2⟩ := own_three ho
  simp at hg1
  obtain ⟨hc, hfz, hz⟩ := bcell hb
  have Hb := Lib.hid (((Below.refl w.heap.size w).alloc (Nat.le_refl _) _).trans (hb.mono (by simp)))
  have hzz := hz w.heap.size (by simp)
  clear hb ho
  go_wp2_with fail
  refine (Hnum.out _).mono ?_
  rintro e w2 ⟨n, hn, rfl, hdn, hb2⟩
  rw [Ho.out]
  obtain ⟨hc2, hfz2, hz2⟩ := bcell hb2
  have Hb2 := Lib.hid (Hb.out.trans (hb2.mono Hb.out.size))
  have hsz := Hb2.out.size
  have hz3 := hz2 _ hzz
  clear hb2
  obtain rfl := hdn 0 Hd.out
  clear hdn
  go_wp2_with fail
  refine bodyPost_ret (v := .tuple #[.agg #[.int .i64 0, .string ⟨b.toArray⟩, .string ⟨#[]⟩, .string ⟨#[]⟩], .bool false]) (by simp [results, Tryd.results41, go_sem, hc, hc2, hzz, hz3]) rfl ?_
  exact SfPost.no HF.out rfl (by (repeat (first | exact Hb2.out | refine Below.setCell ?_ (by first | exact Nat.le_refl _ | (simp; omega) | omega) _ | refine Below.alloc ?_ (by first | exact Nat.le_refl _ | (simp; omega) | omega) _ | refine Below.drew ?_)))

set_option maxHeartbeats 2000000 in
theorem sRead_N3 (st : UInt8) (hst : st ≠ 69) (s a b d : List UInt8) (w : World) (hs : s.length ≤ 1000) (hp : splitL 58 s = [a, b, d]) (n0 : Nat) (ho : numOk a 200 = true) (hd : decL a = some n0) (h1 : 1 ≤ n0) (h2 : n0 ≤ 200) (hnm : nameOk b = false) :
    Calls Tryd.prog 41 #[.string ⟨s.toArray⟩, .int .u8 (st.toNat : Int)] w (SfPost (fieldS st s) w) := by
  have hal := splitL_plen 58 s a (by rw [hp]; simp)
  have hbl := splitL_plen 58 s b (by rw [hp]; simp)
  have hdl := splitL_plen 58 s d (by rw [hp]; simp)
  have hF : fieldS st s = fieldS3 st a b d := fieldS_three hst hp
  have Hcut := Lib.hid (fun W => l3Cut_any s 58 58 rfl W (by omega))
  rw [hp] at Hcut
  have Hnum := Lib.hid (fun W => l3Num_any a 200 W (by omega) (by omega))
  have Hname := Lib.hid (fun W => l2Name_any b W (by omega))
  have hsl := st.toNat_lt
  have t1 : ((st.toNat : Int) != 69) = true := by have := byte_ne hst; simpa using this
  have t2 : ((st.toNat : Int) == 69) = false := byte_ne hst
  clear hp hst
  rw [three_bad (fdL3_bad (.inr (.inr hnm)))] at hF
  have HF := Lib.hid hF
  have Ho := Lib.hid ho
  have Hd := Lib.hid hd
  have Hnm := Lib.hid hnm
  clear hF ho hd hnm
  go_enter Tryd.func41, Tryd.ntmps41
  go_wp2_with fail
  refine (Hcut.out _).mono ?_
  rintro e w1 ⟨v, rfl, ho, hb⟩
  obtain ⟨g, c, rfl, hg1, hg2, c0, c1, c2⟩ := own_three ho
  simp at hg1
  obtain ⟨hc, hfz, hz⟩ := bcell hb
  have Hb := Lib.hid (((Below.refl w.heap.size w).alloc (Nat.le_refl _) _).trans (hb.mono (by simp)))
  have hzz := hz w.heap.size (by simp)
  clear hb ho
  go_wp2_with fail
  refine (Hnum.out _).mono ?_
  rintro e w2 ⟨n, hn, rfl, hdn, hb2⟩
  rw [Ho.out]
  obtain ⟨hc2, hfz2, hz2⟩ := bcell hb2
  have Hb2 := Lib.hid (Hb.out.trans (hb2.mono Hb.out.size))
  have hsz := Hb2.out.size
  have hz3 := hz2 _ hzz
  clear hb2
  obtain rfl := hdn n0 Hd.out
  clear hdn
  go_wp2_with fail
  refine (Hname.out _).mono ?_
  rintro e w3 ⟨rfl, rfl⟩
  rw [Hnm.out]
  go_wp2_with fail
  refine bodyPost_ret (v := .tuple #[.agg #[.int .i64 n0, .string ⟨b.toArray⟩, .string ⟨#[]⟩, .string ⟨#[]⟩], .bool false]) (by simp [results, Tryd.results41, go_sem, hc, hc2, hzz, hz3]) rfl ?_
  exact SfPost.no HF.out rfl (by (repeat (first | exact Hb2.out | refine Below.setCell ?_ (by first | exact Nat.le_refl _ | (simp; omega) | omega) _ | refine Below.alloc ?_ (by first | exact Nat.le_refl _ | (simp; omega) | omega) _ | refine Below.drew ?_)))

end Go.Proofs.YtcjfgbcdlcdeaaaDoor
