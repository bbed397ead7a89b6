/- Texts joined: SOf2, SKind, SKindA, SEvolve, Reg2, App, IType2, IHas, IEnds, ISchema. Conditions: as each theorem names them. -/
import Derived.Laws.AppendOwnNone
import Derived.Test.YtcjfgbcdlcdeaaaGreatDoorK01
import Derived.Test.YtcjfgbcdlcdeaaaGreatDoorK09
import Derived.Test.YtcjfgbcdlcdeaaaGreatDoorK13
import Derived.Test.YtcjfgbcdlcdeaaaGreatDoorK14
import Derived.Test.YtcjfgbcdlcdeaaaGreatDoorK15
import Derived.Test.YtcjfgbcdlcdeaaaGreatDoorK16
/- l3Of, walked whole. -/
namespace Go.Proofs.YtcjfgbcdlcdeaaaGreatDoor
open Go.RowKit
set_option maxRecDepth 100000
set_option linter.unusedVariables false
set_option linter.unusedSimpArgs false
attribute [local go_sem] ba_get ba_toList ba_extract take_drop_all ByteArray.mk_append_mk

set_option maxHeartbeats 2000000 in
theorem sOf_lines (s : List UInt8) (w : World) (h4 : s.length ≤ 400) (h9 : ¬ 9 < (splitL 10 s).length) (hlast : (splitL 10 s).getLast? = some []) :
    Calls Tryz.prog 84 #[.string ⟨s.toArray⟩] w (ScPost (schemaL s) w) := by
  have HL := Lib.hid (linesS_go h9 hlast)
  have Hcut := Lib.hid (fun W => l3Cut_any s 10 10 rfl W (by omega))
  have hne := splitL_ne 10 s
  have Hpl := Lib.hid (splitL_plen 10 s)
  generalize splitL 10 s = L at h9 hlast HL Hcut hne Hpl
  go_enter Tryz.func84, Tryz.ntmps84
  go_wp2_with fail
  refine (Hcut.out _).mono ?_
  rintro e w1 ⟨v, rfl, ho, hb⟩
  obtain ⟨g, c, rfl, hg1, hg2, hcells⟩ := own_texts ho hne
  have hpos : 0 < L.length := List.length_pos_iff.2 hne
  have Hb := Lib.hid hb
  have Hcells := Lib.hid hcells
  have hz1 := hb.size
  have k1 : (0 : Int) ≤ (L.length : Int) - 1 := by omega
  have k2 : (L.length : Int) - 1 < (L.length : Int) := by omega
  have k3 : ((L.length : Int) - 1).toNat = L.length - 1 := by omega
  have q1 : ¬ (400 : Int) < (s.length : Int) := by omega
  have q2 : ¬ (9 : Int) < (L.length : Int) := by omega
  have cl := hcells (L.length - 1) (by omega)
  have he : L[L.length - 1] = [] := by
    rw [List.getLast?_eq_getElem?, List.getElem?_eq_getElem (by omega)] at hlast
    simpa using hlast
  rw [he] at cl
  have hDl : L.dropLast.length = L.length - 1 := by simp
  clear he hlast hcells ho hb hne
  go_wp2_with fail
  go_loopw [5, 6] (fun v i wr => ∃ (xs : List (Ty × Value)), i = .int .i64 (xs.length : Nat) ∧ xs.length + 1 ≤ L.length ∧ Hid (typesL L.dropLast = (typesL (L.dropLast.drop xs.length)).map (tysOf xs ++ ·)) ∧
      Hid (wr.ownsRow w1.heap.size 133 3 v xs.length (xs.flatMap stc)) ∧ Hid (OwnTys wr w1.heap.size xs) ∧ Hid (Below w1.heap.size w1 wr) ∧ w1.heap.size ≤ wr.heap.size) (fun _ i _ => L.length - (intOf i).toNat)
  case atStart => exact ⟨[], rfl, by simp; omega, by simp [Hid, tysOf], World.ownsRow_lit (base := w1.heap.size) (e := 133) (size := 3) w1 #[] 0 (Nat.le_refl _) (Nat.zero_le _) rfl, by intro x hx; simp at hx, (Below.refl _ _).alloc (Nat.le_refl _) _, by simp⟩
  case round =>
    obtain ⟨xs, rfl, hxl, hty, hown, htys, hbr, hszr⟩ := hrel
    obtain ⟨A, cA, rfl, hrA⟩ := RowAt.ownK hown.out (by unfold maxLen; omega)
    have HrA := Lib.hid hrA
    have HbW := Lib.hid (Hb.out.trans (hbr.out.mono hz1))
    clear hrA
    by_cases hlt : xs.length + 1 < L.length
    · have j1 : (xs.length : Int) + 1 < (L.length : Int) := by omega
      have j2 : (0 : Int) ≤ (xs.length : Int) := by omega
      have j3 : (xs.length : Int) < (L.length : Int) := by omega
      have cell : _ := (hbr.out.cell (p := ⟨g, xs.length, none⟩) hg2).trans (Hcells.out xs.length (by omega))
      have hstep := typesL_step (L := L.dropLast) (k := xs.length) (by omega) hty.out
      have hge : L.dropLast[xs.length]'(by omega) = L[xs.length] := by simp
      rw [hge] at hstep
      have hpl := Hpl.out _ (List.getElem_mem (show xs.length < L.length by omega))
      have Hstep := Lib.hid hstep
      generalize L[xs.length] = p at cell Hstep hpl
      have Hread := Lib.hid (fun W => sReadType_any p W (by omega))
      have Htok := Lib.hid (fun t (h : typeS p = some t) => (typeI_some.1 ((typeS_eq p).symm.trans h)).1)
      generalize typeS p = o at Hstep Hread Htok
      clear hstep hge hty
      go_wp2_with fail
      refine (Hread.out _).mono ?_
      rintro e w4 ⟨hcase, hb4⟩
      have HbW4 := Lib.hid (HbW.out.trans (hb4.mono HbW.out.size))
      cases o with
      | none =>
        obtain ⟨x, a, A2, n2, c2, rfl⟩ := hcase
        have Hno := Lib.hid (show schemaL s = none from schemaL_lines (.inr (HL.out.trans Hstep.out)))
        clear hb4
        go_wp2_with fail
        refine bodyPost_ret (v := .tuple #[.slice none 0 0, .bool false]) (by simp [results, Tryz.results84, go_sem]) rfl ?_
        exact ScPost.no Hno.out rfl (by (repeat (first | exact HbW4.out | refine Below.setCell ?_ (by first | exact Nat.le_refl _ | exact HbW4.out.size | (simp; done) | (simp; omega) | omega) _ | refine Below.alloc ?_ (by first | exact Nat.le_refl _ | exact HbW4.out.size | (simp; done) | (simp; omega) | omega) _ | refine Below.drew ?_)))
      | some t =>
        obtain ⟨fv, rfl, hfv⟩ := hcase
        have htk := Htok.out t rfl
        have h8 := htk.2.2.2.1
        obtain ⟨A2, c2, rfl, _⟩ := RowAt.ownK hfv (by unfold maxLen; omega)
        have Hstep2 := Lib.hid (show typesL L.dropLast = (typesL (L.dropLast.drop (xs.length + 1))).map ((tysOf xs ++ [t]) ++ ·) from Hstep.out)
        have Hw5 := Lib.hid ((ownsRow_below hown.out hb4).alloc (.cells #[.int .u8 (t.sort.toNat : Int), .string ⟨t.name.toArray⟩, .slice A2 t.fields.length c2] 133))
        have Hbb := Lib.hid (show Below w1.heap.size w1 (w4.alloc (.cells #[.int .u8 (t.sort.toNat : Int), .string ⟨t.name.toArray⟩, .slice A2 t.fields.length c2] 133)) from (hbr.out.trans (hb4.mono hszr)).alloc (Nat.le_trans hszr hb4.size) _)
        have Hty5 := Lib.hid (show OwnTys (w4.alloc (.cells #[.int .u8 (t.sort.toNat : Int), .string ⟨t.name.toArray⟩, .slice A2 t.fields.length c2] 133)) w1.heap.size (xs ++ [(t, .slice A2 t.fields.length c2)]) from by
          intro x hx
          rcases List.mem_append.1 hx with hx | hx
          · exact ⟨(ownsRow_below ((htys.out x hx).1) hb4).alloc _, (htys.out x hx).2⟩
          · simp at hx; subst hx; exact ⟨(ownsRow_base hfv hszr).alloc _, htk⟩)
        have hz5 : w1.heap.size ≤ w4.heap.size + 1 := by have := hb4.size; omega
        have Hsz5 := Lib.hid (show (w4.alloc (.cells #[.int .u8 (t.sort.toNat : Int), .string ⟨t.name.toArray⟩, .slice A2 t.fields.length c2] 133)).heap.size = w4.heap.size + 1 from by simp)
        clear hfv htk hb4
        unfold styV
        go_wp2_with (at_builtin; go_loud (refine wpList_appG _ rfl _ _ 98 rfl w1.heap.size 133 (.agg #[.int .u8 0, .string ⟨#[]⟩, .slice none 0 0]) 3 48 Tryz.underlying98 Tryz.infoSt rfl (by decide) (w4.alloc (.cells #[.int .u8 (t.sort.toNat : Int), .string ⟨t.name.toArray⟩, .slice A2 t.fields.length c2] 133)) [.int .u8 (t.sort.toNat : Int), .string ⟨t.name.toArray⟩, .slice A2 t.fields.length c2] rfl rfl (by simp [Value.oneCell']) _ xs.length (xs.flatMap stc) rfl (by rw [Hsz5.out]; rfl) Hw5.out (by unfold maxLen; omega) (by omega) (by simp; omega) ?_; intro v5 w5 hown5 hb5 hg5; have Hty6 := Lib.hid ((Hty5.out.below ((Below.refl _ _).alloc (Nat.le_refl _) _)).grown (Hw5.out.alloc _) (by decide) hg5); have Hown5 := Lib.hid hown5; have Hb5 := Lib.hid (Hbb.out.trans hb5); clear hown5 hb5 hg5))
        go_roundw
        case rel =>
          refine ⟨xs ++ [(t, Value.slice A2 t.fields.length c2)], by rw [List.length_append]; go_num, by simp; omega, ?_, ?_, ?_, Hb5.out, Hb5.out.size⟩
          · show typesL L.dropLast = _
            rw [Hstep2.out]; simp [tysOf]
          · show World.ownsRow _ _ _ _ _ _ _
            rw [List.flatMap_append, List.length_append]
            exact Hown5.out
          · exact Hty6.out
        case measure => simp [intOf]; omega
    · have j1 : ¬ (xs.length : Int) + 1 < (L.length : Int) := by omega
      have Hlin := Lib.hid (show linesS s = some (tysOf xs) by
        rw [HL.out, hty.out, List.drop_of_length_le (by omega)]
        simp [typesL])
      have Hval := Lib.hid (fun (_ : Unit) => sValid_any (.slice A xs.length cA) xs wr (SSc.own hown.out (by omega) htys.out) (fun x hx => (htys.out x hx).2))
      have Hs := Lib.hid (SSc.own hown.out (by omega) htys.out)
      clear hty
      go_wp2_with fail
      refine (Hval.out ()).mono ?_
      rintro e w4 ⟨⟨b, rfl, hbv⟩, hb4⟩
      have Hfin := Lib.hid (schemaL_valid h4 Hlin.out b hbv)
      have HbW4 := Lib.hid (HbW.out.trans (hb4.mono HbW.out.size))
      have Hs4 := Lib.hid (Hs.out.below hb4)
      clear hb4 hbv
      cases b with
      | true =>
        go_wp2_with fail
        refine bodyPost_ret (v := .tuple #[.slice A xs.length cA, .bool true]) (by simp [results, Tryz.results84, go_sem]) rfl ?_
        exact ScPost.yes (xs := xs) Hfin.out rfl Hs4.out HbW4.out
      | false =>
        go_wp2_with fail
        refine bodyPost_ret (v := .tuple #[.slice A xs.length cA, .bool false]) (by simp [results, Tryz.results84, go_sem]) rfl ?_
        exact ScPost.no Hfin.out rfl HbW4.out

theorem sOf_any (s : List UInt8) (w : World) (hs : s.length ≤ 4000000) :
    Calls Tryz.prog 84 #[.string ⟨s.toArray⟩] w (ScPost (schemaL s) w) := by
  by_cases h1 : 400 < s.length
  · exact sOf_early s w hs (.inl h1)
  · by_cases h2 : 9 < (splitL 10 s).length
    · exact sOf_early s w hs (.inr (.inl h2))
    · by_cases h3 : (splitL 10 s).getLast? = some []
      · exact sOf_lines s w (by omega) h2 h3
      · exact sOf_early s w hs (.inr (.inr h3))
end Go.Proofs.YtcjfgbcdlcdeaaaGreatDoor
/- l3Kind: reads a schema, and says whether a kind is one of it. -/
namespace Go.Proofs.YtcjfgbcdlcdeaaaGreatDoor
open Go.RowKit
set_option maxRecDepth 100000
set_option linter.unusedVariables false
set_option linter.unusedSimpArgs false
attribute [local go_sem] ba_get ba_toList ba_extract take_drop_all ByteArray.mk_append_mk

/-- A schema and a kind that fit. -/
def bothL (s d : List UInt8) : Option (List Ty × Kd) :=
  match schemaL s with
  | none => none
  | some S => match kindL d with
    | none => none
    | some k => if refOk S k then some (S, k) else none
def KiPost (o : Option (List Ty × Kd)) (w : World) (e : Ending) (w' : World) : Prop :=
  (match o with
    | some x => ∃ v xs, e = .returned (.tuple #[v, .bool true]) ∧ tysOf xs = x.1 ∧ SSc w' v xs
    | none => ∃ A n c, e = .returned (.tuple #[.slice A n c, .bool false])) ∧ Below w.heap.size w w'
theorem KiPost.no {w w' : World} {e : Ending} {o : Option (List Ty × Kd)} (ho : o = none) {A : Option Addr} {n c : Nat} (he : e = .returned (.tuple #[.slice A n c, .bool false])) (hb : Below w.heap.size w w') : KiPost o w e w' := by
  rw [ho]; exact ⟨⟨A, n, c, he⟩, hb⟩

set_option maxHeartbeats 1000000 in
theorem sKind_noSchema (s d : List UInt8) (w : World) (hs : s.length ≤ 4000000) (h : schemaL s = none) :
    Calls Tryz.prog 98 #[.string ⟨s.toArray⟩, .string ⟨d.toArray⟩] w (KiPost (bothL s d) w) := by
  have HF := Lib.hid (show bothL s d = none by unfold bothL; rw [h])
  have Hof := Lib.hid (fun W => sOf_any s W hs)
  rw [h] at Hof
  clear h
  go_enter Tryz.func98, Tryz.ntmps98
  go_wp2_with fail
  refine (Hof.out _).mono ?_
  rintro e w1 ⟨⟨A, n, c, rfl⟩, hb⟩
  go_wp2_with fail
  refine bodyPost_ret (v := .tuple #[.slice none 0 0, .bool false]) (by simp [results, Tryz.results98, go_sem]) rfl ?_
  exact KiPost.no HF.out rfl hb

set_option maxHeartbeats 1000000 in
theorem sKind_noKind (s d : List UInt8) (w : World) (hs : s.length ≤ 4000000) (hd : d.length ≤ 4000000) (S : List Ty) (h : schemaL s = some S) (hk : kindL d = none) :
    Calls Tryz.prog 98 #[.string ⟨s.toArray⟩, .string ⟨d.toArray⟩] w (KiPost (bothL s d) w) := by
  have HF := Lib.hid (show bothL s d = none by unfold bothL; rw [h, hk])
  have Hof := Lib.hid (fun W => sOf_any s W hs)
  have Hkd := Lib.hid (fun W => KindOk_any d.length d W (Nat.le_refl _) (by omega))
  rw [h] at Hof
  rw [hk] at Hkd
  clear h hk
  go_enter Tryz.func98, Tryz.ntmps98
  go_wp2_with fail
  refine (Hof.out _).mono ?_
  rintro e w1 ⟨⟨v, xs, rfl, hx, hsc⟩, hb⟩
  clear hsc
  go_wp2_with fail
  refine (Hkd.out _).mono ?_
  rintro e w2 ⟨rfl, rfl⟩
  go_wp2_with fail
  refine bodyPost_ret (v := .tuple #[.slice none 0 0, .bool false]) (by simp [results, Tryz.results98, go_sem]) rfl ?_
  exact KiPost.no HF.out rfl hb

theorem KiPost.of {w w' : World} {e : Ending} {S : List Ty} {k : Kd} {v : Value} {xs : List (Ty × Value)} {b : Bool} {o : Option (List Ty × Kd)} (ho : o = if b = true then some (S, k) else none) (he : e = .returned (.tuple #[v, .bool b])) (hx : tysOf xs = S) (hs : SSc w' v xs) (hb : Below w.heap.size w w') : KiPost o w e w' := by
  cases b with
  | true => rw [ho]; exact ⟨⟨v, xs, he, hx, hs⟩, hb⟩
  | false =>
    obtain ⟨A, c, rfl, _⟩ := hs
    rw [ho]; exact ⟨⟨A, _, c, he⟩, hb⟩
set_option maxHeartbeats 1000000 in
theorem sKind_yes (s d : List UInt8) (w : World) (hs : s.length ≤ 4000000) (S : List Ty) (h : schemaL s = some S) (k : Kd) (hk : kindL d = some k) :
    Calls Tryz.prog 98 #[.string ⟨s.toArray⟩, .string ⟨d.toArray⟩] w (KiPost (bothL s d) w) := by
  obtain ⟨hok, rfl⟩ := kindL_some.1 hk
  have HF := Lib.hid (show bothL s (kdB k) = if refOk S k then some (S, k) else none by unfold bothL; rw [h, hk])
  have Hof := Lib.hid (fun W => sOf_any s W hs)
  have hl := hok.2.2
  have Hkd := Lib.hid (fun W => KindOk_any (kdB k).length (kdB k) W (Nat.le_refl _) (by omega))
  have Hok := Lib.hid hok
  rw [h] at Hof
  rw [hk] at Hkd
  clear h hk hok
  go_enter Tryz.func98, Tryz.ntmps98
  go_wp2_with fail
  refine (Hof.out _).mono ?_
  rintro e w1 ⟨⟨v, xs, rfl, hx, hsc⟩, hb⟩
  subst hx
  have Hsc := Lib.hid hsc
  obtain ⟨A, c, rfl, _, _, hfds⟩ := hsc
  have Hfds := Lib.hid hfds
  have Hb := Lib.hid hb
  clear hb hfds
  go_wp2_with fail
  refine (Hkd.out _).mono ?_
  rintro e w2 ⟨rfl, rfl⟩
  go_wp2_with fail
  refine (l2CoreK_any k Hok.out _).mono ?_
  rintro e w2 ⟨rfl, rfl⟩
  go_wp2_with fail
  refine (l2RefCore_any k Hok.out _).mono ?_
  rintro e w2 ⟨rfl, rfl⟩
  go_wp2_with fail
  refine (sFind_any _ xs (refNm k) _ Hsc.out).mono ?_
  rintro e w2 ⟨rfl, hb2⟩
  have Hb2 := Lib.hid (Hb.out.trans (hb2.mono Hb.out.size))
  have Hs2 := Lib.hid (Hsc.out.below hb2)
  clear hb2
  cases hx2 : findX xs (refNm k) with
  | none =>
    unfold styR sty0
    rcases hir : isRef k with _ | _
    · have Hr := Lib.hid (show (if refOk (tysOf xs) k then some (tysOf xs, k) else none) = if (true : Bool) = true then some (tysOf xs, k) else none by
        have := refOk_find xs k
        rw [hx2, hir] at this
        simp at this
        simp [this])
      go_wp2_with fail
      refine bodyPost_ret (v := .tuple #[.slice A xs.length c, .bool true]) (by simp [results, Tryz.results98, go_sem]) rfl ?_
      exact KiPost.of (b := true) (HF.out.trans Hr.out) rfl rfl (Hs2.out.below ((Below.refl _ _).alloc (Nat.le_refl _) _)) (by (repeat (first | exact Hb2.out | refine Below.setCell ?_ (by first | exact Nat.le_refl _ | exact Hb2.out.size | (simp; done) | (simp; omega) | omega) _ | refine Below.alloc ?_ (by first | exact Nat.le_refl _ | exact Hb2.out.size | (simp; done) | (simp; omega) | omega) _)))
    · have Hr := Lib.hid (show (if refOk (tysOf xs) k then some (tysOf xs, k) else none) = if (false : Bool) = true then some (tysOf xs, k) else none by
        have := refOk_find xs k
        rw [hx2, hir] at this
        simp at this
        simp [this])
      go_wp2_with fail
      refine bodyPost_ret (v := .tuple #[.slice A xs.length c, .bool false]) (by simp [results, Tryz.results98, go_sem]) rfl ?_
      exact KiPost.of (b := false) (HF.out.trans Hr.out) rfl rfl (Hs2.out.below ((Below.refl _ _).alloc (Nat.le_refl _) _)) (by (repeat (first | exact Hb2.out | refine Below.setCell ?_ (by first | exact Nat.le_refl _ | exact Hb2.out.size | (simp; done) | (simp; omega) | omega) _ | refine Below.alloc ?_ (by first | exact Nat.le_refl _ | exact Hb2.out.size | (simp; done) | (simp; omega) | omega) _)))
  | some y =>
    obtain ⟨ty, yv⟩ := y
    obtain ⟨A5, c5, e5, _⟩ := Hfds.out _ (findX_mem hx2).1
    simp only [] at e5
    subst e5
    unfold styR styV
    rcases hir : isRef k with _ | _
    · have Hr := Lib.hid (show (if refOk (tysOf xs) k then some (tysOf xs, k) else none) = if (true : Bool) = true then some (tysOf xs, k) else none by
        have := refOk_find xs k
        rw [hx2, hir] at this
        simp at this
        simp [this])
      go_wp2_with fail
      refine bodyPost_ret (v := .tuple #[.slice A xs.length c, .bool true]) (by simp [results, Tryz.results98, go_sem]) rfl ?_
      exact KiPost.of (b := true) (HF.out.trans Hr.out) rfl rfl (Hs2.out.below ((Below.refl _ _).alloc (Nat.le_refl _) _)) (by (repeat (first | exact Hb2.out | refine Below.setCell ?_ (by first | exact Nat.le_refl _ | exact Hb2.out.size | (simp; done) | (simp; omega) | omega) _ | refine Below.alloc ?_ (by first | exact Nat.le_refl _ | exact Hb2.out.size | (simp; done) | (simp; omega) | omega) _)))
    · have Hr := Lib.hid (show (if refOk (tysOf xs) k then some (tysOf xs, k) else none) = if (true : Bool) = true then some (tysOf xs, k) else none by
        have := refOk_find xs k
        rw [hx2, hir] at this
        simp at this
        simp [this])
      go_wp2_with fail
      refine bodyPost_ret (v := .tuple #[.slice A xs.length c, .bool true]) (by simp [results, Tryz.results98, go_sem]) rfl ?_
      exact KiPost.of (b := true) (HF.out.trans Hr.out) rfl rfl (Hs2.out.below ((Below.refl _ _).alloc (Nat.le_refl _) _)) (by (repeat (first | exact Hb2.out | refine Below.setCell ?_ (by first | exact Nat.le_refl _ | exact Hb2.out.size | (simp; done) | (simp; omega) | omega) _ | refine Below.alloc ?_ (by first | exact Nat.le_refl _ | exact Hb2.out.size | (simp; done) | (simp; omega) | omega) _)))
end Go.Proofs.YtcjfgbcdlcdeaaaGreatDoor
/- l3Kind = bothL; what a schema and a kind that fit are good for. -/
namespace Go.Proofs.YtcjfgbcdlcdeaaaGreatDoor
open Go.RowKit
set_option maxRecDepth 100000
set_option linter.unusedVariables false
set_option linter.unusedSimpArgs false
attribute [local go_sem] ba_get ba_toList ba_extract take_drop_all ByteArray.mk_append_mk

theorem sKind_any (s d : List UInt8) (w : World) (hs : s.length ≤ 4000000) (hd : d.length ≤ 4000000) :
    Calls Tryz.prog 98 #[.string ⟨s.toArray⟩, .string ⟨d.toArray⟩] w (KiPost (bothL s d) w) := by
  cases h : schemaL s with
  | none => exact sKind_noSchema s d w hs h
  | some S => cases hk : kindL d with
    | none => exact sKind_noKind s d w hs hd S h hk
    | some k => exact sKind_yes s d w hs S h k hk
theorem bothL_some {s d : List UInt8} {S : List Ty} {k : Kd} (h : bothL s d = some (S, k)) : schemaL s = some S ∧ kindL d = some k ∧ refOk S k := by
  unfold bothL at h
  cases h1 : schemaL s with
  | none => rw [h1] at h; cases h
  | some T => cases h2 : kindL d with
    | none => rw [h1, h2] at h; cases h
    | some q =>
      rw [h1, h2] at h
      simp only at h
      split at h
      · rename_i hr
        simp only [Option.some.injEq, Prod.mk.injEq] at h
        obtain ⟨rfl, rfl⟩ := h
        exact ⟨rfl, rfl, hr⟩
      · cases h
/-- What a schema and a kind that fit are good for. -/
theorem bothL_good {s d : List UInt8} {S : List Ty} {k : Kd} (h : bothL s d = some (S, k)) : scOk S ∧ s.length ≤ 400 ∧ scB S = s ∧ kdOk k ∧ kdB k = d ∧ refOk S k := by
  obtain ⟨h1, h2, h3⟩ := bothL_some h
  obtain ⟨a1, a2, a3⟩ := schemaL_some.1 h1
  obtain ⟨b1, b2⟩ := kindL_some.1 h2
  exact ⟨a1, a2, a3, b1, b2, h3⟩
end Go.Proofs.YtcjfgbcdlcdeaaaGreatDoor
/- The reference's EvolveReads and EvolveBoth. -/
namespace Go.Proofs.YtcjfgbcdlcdeaaaGreatDoor
open Go.RowKit
set_option maxRecDepth 100000
set_option linter.unusedVariables false
set_option linter.unusedSimpArgs false
attribute [local go_sem] ba_get ba_toList ba_extract take_drop_all ByteArray.mk_append_mk

theorem sAsk_any (w0 : World) (v1 v2 : Value) (xs ys : List (Ty × Value)) (hx : SSc w0 v1 xs) (hy : SSc w0 v2 ys) (hS : scOk (tysOf xs)) (hT : scOk (tysOf ys)) : ∀ (n : Nat) (a b : Kd) (m : List Pair) (w : World) (mv : Value),
    kdOk a → kdOk b → refOk (tysOf xs) a → refOk (tysOf ys) b → Asks (tysOf xs) (tysOf ys) m → 64 < n + m.length → AskSt w0 v1 v2 w m mv →
      Calls Tryz.prog 123 #[.pointer (some ⟨w0.heap.size, 0, none⟩), .string ⟨(kdB a).toArray⟩, .string ⟨(kdB b).toArray⟩] w (AkPost w0 v1 v2 (evK (tysOf xs) (tysOf ys) n a b m) w mv) := by
  have h8 : (tysOf xs).length * (tysOf ys).length ≤ 64 := by
    have h1 := hS.1.2.1
    have h2 := hT.1.2.1
    exact Nat.le_trans (Nat.mul_le_mul h1 h2) (by decide)
  intro n
  induction n with
  | zero =>
    intro a b m w mv _ _ _ _ hm hn _
    have := hm.len
    omega
  | succ n ih =>
    intro a b m w mv ha hb hra hrb hm hn hst
    have hml : m.length ≤ 64 := Nat.le_trans hm.len h8
    refine sAsk_kinds w0 v1 v2 xs ys hx hy n a b m w mv ha hb hra hrb hml hst (fun t fv u gv W mv' htm hum hW h1 h2 hnin => ?_)
    have hm2 : Asks (tysOf xs) (tysOf ys) (m ++ [(a.name, b.name)]) := hm.snoc (findTy_isSome.1 (by rw [h1]; rfl)) (findTy_isSome.1 (by rw [h2]; rfl)) hnin
    exact sAsk_types w0 v1 v2 xs ys hx hy hS hT n t u fv gv htm hum (fun a' b' m' W' mv'' h1 h2 h3 h4 h5 h6 h7 => ih a' b' m' W' mv'' h1 h2 h3 h4 h5 h6 h7) _ hm2 (by simp; omega) W mv' hW

/-- What reading both schemas and asking leaves. -/
def LrPost (o1 o2 : Option (List Ty × Kd)) (w : World) (e : Ending) (w' : World) : Prop :=
  ∃ v1 v2, e = .returned (.tuple #[v1, v2, .bool (evolveL o1 o2)]) ∧ Below w.heap.size w w' ∧ (∃ A n c, v1 = .slice A n c) ∧ (∃ A n c, v2 = .slice A n c) ∧
    (match o1, o2 with
    | some x, some y => ∃ xs ys, tysOf xs = x.1 ∧ tysOf ys = y.1 ∧ SSc w' v1 xs ∧ SSc w' v2 ys
    | _, _ => True)

set_option maxHeartbeats 2000000 in
theorem sRead8_any (s1 d1 s2 d2 : List UInt8) (w : World) (h1 : s1.length ≤ 4000000) (h2 : d1.length ≤ 4000000) (h3 : s2.length ≤ 4000000) (h4 : d2.length ≤ 4000000) :
    Calls Tryz.prog 91 #[.string ⟨s1.toArray⟩, .string ⟨d1.toArray⟩, .string ⟨s2.toArray⟩, .string ⟨d2.toArray⟩] w (LrPost (bothL s1 d1) (bothL s2 d2) w) := by
  have Hk1 := Lib.hid (fun W => sKind_any s1 d1 W h1 h2)
  have Hk2 := Lib.hid (fun W => sKind_any s2 d2 W h3 h4)
  have Hg1 := Lib.hid (fun S k (h : bothL s1 d1 = some (S, k)) => bothL_good h)
  have Hg2 := Lib.hid (fun S k (h : bothL s2 d2 = some (S, k)) => bothL_good h)
  generalize bothL s1 d1 = o1 at *
  generalize bothL s2 d2 = o2 at *
  go_enter Tryz.func91, Tryz.ntmps91
  go_wp2_with fail
  refine (Hk1.out _).mono ?_
  rintro e w1 ⟨hc1, hb1⟩
  have Hb1 := Lib.hid hb1
  clear hb1
  cases o1 with
  | none =>
    obtain ⟨A, n, c, rfl⟩ := hc1
    go_wp2_with fail
    refine (Hk2.out _).mono ?_
    rintro e w2 ⟨hc2, hb2⟩
    have Hb2 := Lib.hid (Hb1.out.trans (hb2.mono Hb1.out.size))
    clear hb2
    cases o2 with
    | none =>
      obtain ⟨A2, n2, c2, rfl⟩ := hc2
      go_wp2_with fail
      refine bodyPost_ret (v := .tuple #[.slice none 0 0, .slice none 0 0, .bool false]) (by simp [results, Tryz.results91, go_sem]) rfl ?_
      exact ⟨_, _, rfl, Hb2.out, ⟨_, _, _, rfl⟩, ⟨_, _, _, rfl⟩, trivial⟩
    | some y =>
      obtain ⟨v, ys, rfl, hys, hsc⟩ := hc2
      clear hsc
      go_wp2_with fail
      refine bodyPost_ret (v := .tuple #[.slice none 0 0, .slice none 0 0, .bool false]) (by simp [results, Tryz.results91, go_sem]) rfl ?_
      exact ⟨_, _, rfl, Hb2.out, ⟨_, _, _, rfl⟩, ⟨_, _, _, rfl⟩, trivial⟩
  | some x =>
    obtain ⟨S, k⟩ := x
    obtain ⟨v, xs, rfl, hxs, hsc⟩ := hc1
    simp only at hxs
    have Hxs := Lib.hid hxs
    have Hsc := Lib.hid hsc
    clear hsc hxs
    go_wp2_with fail
    refine (Hk2.out _).mono ?_
    rintro e w2 ⟨hc2, hb2⟩
    have Hsc2 := Lib.hid (Hsc.out.below hb2)
    have Hb2 := Lib.hid (Hb1.out.trans (hb2.mono Hb1.out.size))
    clear hb2
    cases o2 with
    | none =>
      obtain ⟨A2, n2, c2, rfl⟩ := hc2
      go_wp2_with fail
      refine bodyPost_ret (v := .tuple #[.slice none 0 0, .slice none 0 0, .bool false]) (by simp [results, Tryz.results91, go_sem]) rfl ?_
      exact ⟨_, _, rfl, Hb2.out, ⟨_, _, _, rfl⟩, ⟨_, _, _, rfl⟩, trivial⟩
    | some y =>
      obtain ⟨T, k2⟩ := y
      obtain ⟨v2, ys, rfl, hys, hsc2⟩ := hc2
      simp only at hys
      have Hys := Lib.hid hys
      have Hscy := Lib.hid hsc2
      clear hsc2 hys
      obtain ⟨A1, c1, rfl, _⟩ := Hsc2.out
      obtain ⟨A2, c2, rfl, _⟩ := Hscy.out
      obtain ⟨hS, _, _, hk1, hd1, hr1⟩ := Hg1.out _ _ rfl
      obtain ⟨hT, _, _, hk2, hd2, hr2⟩ := Hg2.out _ _ rfl
      have hfs := Hxs.out
      have hft := Hys.out
      subst hfs hft hd1 hd2
      have Hask := Lib.hid (fun W (h : AskSt w2 (.slice A1 xs.length c1) (.slice A2 ys.length c2) W [] (.slice none 0 0)) => sAsk_any w2 _ _ xs ys Hsc2.out Hscy.out hS hT 65 k k2 [] W _ hk1 hk2 hr1 hr2 (Asks.nil _ _) (by simp) h)
      have Hev : Hid (evolveL (some (tysOf xs, k)) (some (tysOf ys, k2)) = (evK (tysOf xs) (tysOf ys) 65 k k2 []).1) := rfl
      generalize evK (tysOf xs) (tysOf ys) 65 k k2 [] = r at *
      clear hS hT hk1 hk2 hr1 hr2
      go_wp2_with fail
      refine (Hask.out _ ?_).mono ?_
      · refine ⟨(Below.refl _ _).alloc (Nat.le_refl _) _, by simp, by simp, by simp, by simp, ?_, World.ownsRow_nil _ _ _ _⟩
        exact there_new w2 [.slice A1 xs.length c1, .slice A2 ys.length c2, .slice none 0 0] _
      rintro e w3 ⟨rfl, mv, hst, _⟩
      have Hb3 := Lib.hid hst.1
      clear hst
      go_wp2_with fail
      refine bodyPost_ret (v := .tuple #[.slice A1 xs.length c1, .slice A2 ys.length c2, .bool r.1]) (by simp [results, Tryz.results91, go_sem]) rfl ?_
      exact ⟨_, _, by rw [Hev.out], Hb2.out.trans (Hb3.out.mono Hb2.out.size), ⟨_, _, _, rfl⟩, ⟨_, _, _, rfl⟩, ⟨xs, ys, rfl, rfl, Hsc2.out.below Hb3.out, Hscy.out.below Hb3.out⟩⟩

set_option maxHeartbeats 1000000 in
theorem sEvolve_any (s1 d1 s2 d2 : List UInt8) (w : World) (h1 : s1.length ≤ 4000000) (h2 : d1.length ≤ 4000000) (h3 : s2.length ≤ 4000000) (h4 : d2.length ≤ 4000000) :
    Calls Tryz.prog 112 #[.string ⟨s1.toArray⟩, .string ⟨d1.toArray⟩, .string ⟨s2.toArray⟩, .string ⟨d2.toArray⟩] w fun e w' => e = .returned (.bool (evolveL (bothL s1 d1) (bothL s2 d2))) ∧ Below w.heap.size w w' := by
  have Hr := Lib.hid (fun W => sRead8_any s1 d1 s2 d2 W h1 h2 h3 h4)
  generalize bothL s1 d1 = o1 at *
  generalize bothL s2 d2 = o2 at *
  go_enter Tryz.func112, Tryz.ntmps112
  go_wp2_with fail
  refine (Hr.out _).mono ?_
  rintro e w1 ⟨v1, v2, rfl, hb1, _, _, _⟩
  have Hb1 := Lib.hid hb1
  clear hb1
  go_wp2_with fail
  go_ret
  exact ⟨rfl, Hb1.out⟩
end Go.Proofs.YtcjfgbcdlcdeaaaGreatDoor
/- Registries: the same; the reference's RegistryOk. -/
namespace Go.Proofs.YtcjfgbcdlcdeaaaGreatDoor
open Go.RowKit
set_option maxRecDepth 100000
set_option linter.unusedVariables false
set_option linter.unusedSimpArgs false
attribute [local go_sem] ba_get ba_toList ba_extract take_drop_all ByteArray.mk_append_mk

set_option maxHeartbeats 1000000 in
theorem eqVersionS_any (v1 v2 : Value) (vs : List Ver) (w : World) (h1 : VRow w v1 vs) (h2 : VRow w v2 vs) :
    Calls Tryz.prog 49 #[v1, v2] w fun e w' => e = .returned (.bool true) ∧ Below w.heap.size w w' := by
  obtain ⟨A1, c1, rfl, hcap1, hvm, hr1⟩ := h1
  obtain ⟨A2, c2, rfl, hcap2, _, hr2⟩ := h2
  have Hr1 := Lib.hid hr1
  have Hr2 := Lib.hid hr2
  have hlen := hvm
  unfold maxLen at hlen
  have t0 : ((vs.length : Int) != (vs.length : Int)) = false := by simp
  clear hr1 hr2
  go_enter Tryz.func49, Tryz.ntmps49
  go_wp2_with fail
  go_loopw [5] (fun i wr => ∃ k : Nat, i = .int .i64 k ∧ k ≤ vs.length ∧ Hid (Below w.heap.size w wr)) (fun i _ => vs.length - (intOf i).toNat)
  case atStart => exact ⟨0, rfl, Nat.zero_le _, Below.refl _ _⟩
  case round =>
    obtain ⟨k, rfl, hk, hb⟩ := hrel
    have k1 : (0 : Int) ≤ (k : Int) := by omega
    by_cases hlt : k < vs.length
    · have k2 : (k : Int) < (vs.length : Int) := by omega
      obtain ⟨b1, o1, rfl, hbl1, x0, x1⟩ := VRow.at_ (Hr1.out.below hb.out) hlt
      obtain ⟨b2, o2, rfl, hbl2, y0, y1⟩ := VRow.at_ (Hr2.out.below hb.out) hlt
      generalize vs[k] = x at x0 x1 y0 y1
      have C0 := Lib.hid x0
      have C1 := Lib.hid x1
      have D0 := Lib.hid y0
      have D1 := Lib.hid y1
      have L1 := Lib.hid hbl1
      have L2 := Lib.hid hbl2
      clear x0 x1 y0 y1 hbl1 hbl2
      go_wp2_with fail
      refine wp_region_slots3 [17, 18, 19, 20, 21, 22, 23, 24, 25, 26] (by kernel_rfl) (by kernel_rfl) (by kernel_rfl) (fun u => by dsimp only [frameOf, setMany, List.set, Nat.zero_add, Nat.reduceAdd])
        (fun ix v W => match ix with | 0 => v = .slice (some ⟨b1, o1, none⟩) vs.length c1 | 1 => v = .int .i64 k | 2 => v = .pointer (some ⟨b1, o1 + k * 2, none⟩) | 3 => v = .agg #[.string ⟨x.1.toArray⟩, .string ⟨x.2.toArray⟩] | 4 => v = .slice (some ⟨b2, o2, none⟩) vs.length c2 | 5 => v = .int .i64 k | 6 => v = .pointer (some ⟨b2, o2 + k * 2, none⟩) | 7 => v = .agg #[.string ⟨x.1.toArray⟩, .string ⟨x.2.toArray⟩] | 8 => v = .bool true | 9 => v = .bool false | _ => True)
        (fun L U W => Below wr.heap.size wr W) (fun _ _ => True) (fun _ _ _ _ _ h => h) ((Below.refl _ _).drew) ?_ ?_
      · repeat (first | exact Steps.nil | (refine Steps.cons ?_ ?_; rotate_left))
        all_goals
          rintro L U W hL hpre hR hun hdep K hK
          have HR := Lib.hid hR
          have hB := HR.out
          have a0 : W.cell? ⟨b1, o1 + k * 2, none⟩ = some (.string ⟨x.1.toArray⟩) := (hB.cell (p := ⟨b1, o1 + k * 2, none⟩) L1.out).trans C0.out
          have a1 : W.cell? ⟨b1, o1 + k * 2 + 1, none⟩ = some (.string ⟨x.2.toArray⟩) := (hB.cell (p := ⟨b1, o1 + k * 2 + 1, none⟩) L1.out).trans C1.out
          have d0 : W.cell? ⟨b2, o2 + k * 2, none⟩ = some (.string ⟨x.1.toArray⟩) := (hB.cell (p := ⟨b2, o2 + k * 2, none⟩) L2.out).trans D0.out
          have d1 : W.cell? ⟨b2, o2 + k * 2 + 1, none⟩ = some (.string ⟨x.2.toArray⟩) := (hB.cell (p := ⟨b2, o2 + k * 2 + 1, none⟩) L2.out).trans D1.out
          clear hun hdep hR
          first | (simp [Region.binds] at hpre; done) | simp [Region.binds] at hpre | clear hpre
        iterate 8
          · go_simp
            first | exact hK _ _ _ rfl trivial HR.out rfl | exact hK _ _ _ rfl trivial HR.out (by simp [Act.put, hpre]) | exact hK undef _ _ trivial trivial HR.out (by simp [Act.put, hpre]) | exact hK _ _ _ trivial trivial HR.out rfl | exact hK _ _ _ trivial trivial HR.out (by simp [Act.put, hpre])
        · go_simp
          refine (eqVersion_any x.1 x.2 W).mono ?_
          rintro e w5 ⟨rfl, hb5⟩
          exact hK _ _ _ rfl trivial (hB.trans (hb5.mono hB.size)) (by simp [Act.put, hpre])
        · go_simp
          first | exact hK _ _ _ rfl trivial HR.out rfl | exact hK _ _ _ rfl trivial HR.out (by simp [Act.put, hpre]) | exact hK undef _ _ trivial trivial HR.out (by simp [Act.put, hpre]) | exact hK _ _ _ trivial trivial HR.out rfl | exact hK _ _ _ trivial trivial HR.out (by simp [Act.put, hpre])
      · rintro L U W hL hφ hR
        have e9 : U 9 = .bool false := hφ 9 (by decide)
        simp only [e9]
        clear hφ
        have Hbw := Lib.hid (hb.out.trans (hR.mono hb.out.size))
        clear hL hR
        go_wp2_with fail
        go_roundw
        case rel => exact ⟨k + 1, by go_num, by omega, Hbw.out⟩
        case measure => simp [intOf]; omega
    · obtain rfl : k = vs.length := by omega
      go_wp2_with fail
      go_ret
      exact ⟨rfl, hb.out⟩
set_option maxHeartbeats 1000000 in
theorem eqRegistry_any (v1 v2 : Value) (vs : List Ver) (w : World) (h1 : VRow w v1 vs) (h2 : VRow w v2 vs) :
    Calls Tryz.prog 19 #[.agg #[v1], .agg #[v2]] w fun e w' => e = .returned (.bool true) ∧ Below w.heap.size w w' := by
  have H1 := Lib.hid h1
  have H2 := Lib.hid h2
  obtain ⟨A1, c1, rfl, _⟩ := h1
  obtain ⟨A2, c2, rfl, _⟩ := h2
  go_enter Tryz.func19, Tryz.ntmps19
  go_wp2_with fail
  refine (eqVersionS_any _ _ vs _ (H1.out.below (((Below.refl _ _).alloc (Nat.le_refl _) _).alloc (by simp) _)) (H2.out.below (((Below.refl _ _).alloc (Nat.le_refl _) _).alloc (by simp) _))).mono ?_
  rintro e w1 ⟨rfl, hb1⟩
  have Hb1 := Lib.hid ((((Below.refl w.heap.size w).alloc (Nat.le_refl _) _).alloc (by simp) _).trans (hb1.mono (by simp; omega)))
  clear hb1
  go_wp2_with fail
  go_ret
  exact ⟨rfl, Hb1.out⟩

/-! ### valid registries -/
/-- A version reads another one. -/
def rdV (v u : Ver) : Bool := evolveL (bothL v.1 v.2) (bothL u.1 u.2)
def verAt (vs : List Ver) (i : Nat) : Ver := vs.getD i ([], [])
theorem verAt_lt {vs : List Ver} {i : Nat} (h : i < vs.length) : verAt vs i = vs[i] := by simp [verAt, h]
def regOk (vs : List Ver) : Bool := decide (vs.length ≤ 5) && (List.range vs.length).all fun i => (List.range (i + 1)).all fun k => rdV (verAt vs i) (verAt vs k)
theorem regOk_iff {vs : List Ver} : regOk vs = true ↔ vs.length ≤ 5 ∧ ∀ i, i < vs.length → ∀ k, k ≤ i → rdV (verAt vs i) (verAt vs k) = true := by
  unfold regOk
  simp only [Bool.and_eq_true, decide_eq_true_eq, List.all_eq_true, List.mem_range]
  exact ⟨fun ⟨h1, h2⟩ => ⟨h1, fun i hi k hk => h2 i hi k (by omega)⟩, fun ⟨h1, h2⟩ => ⟨h1, fun i hi k hk => h2 i hi k (by omega)⟩⟩
theorem regOk_no {vs : List Ver} {i k : Nat} (hi : i < vs.length) (hk : k ≤ i) (h : rdV (verAt vs i) (verAt vs k) = false) : regOk vs = false := by
  rw [Bool.eq_false_iff]
  intro h2
  rw [(regOk_iff.1 h2).2 i hi k hk] at h
  cases h
theorem rdV_self {v : Ver} (h : (bothL v.1 v.2).isSome = true) : rdV v v = true := by
  unfold rdV
  cases hb : bothL v.1 v.2 with
  | none => rw [hb] at h; cases h
  | some x =>
    obtain ⟨S, k⟩ := x
    obtain ⟨h1, _, _, _, _, h2⟩ := bothL_good hb
    exact readsK_self h1 h2
theorem rdV_no {v : Ver} (u : Ver) (h : (bothL v.1 v.2).isSome = false) : rdV v u = false := by
  unfold rdV
  cases hb : bothL v.1 v.2 with
  | none => rfl
  | some x => rw [hb] at h; cases h

set_option maxHeartbeats 1000000 in
theorem l10Reads_any (v u : Ver) (w : World) (h1 : v.1.length ≤ 4000000) (h2 : v.2.length ≤ 4000000) (h3 : u.1.length ≤ 4000000) (h4 : u.2.length ≤ 4000000) :
    Calls Tryz.prog 80 #[.agg #[.string ⟨v.1.toArray⟩, .string ⟨v.2.toArray⟩], .agg #[.string ⟨u.1.toArray⟩, .string ⟨u.2.toArray⟩]] w fun e w' => e = .returned (.bool (rdV v u)) ∧ Below w.heap.size w w' := by
  have He := Lib.hid (fun W => sEvolve_any v.1 v.2 u.1 u.2 W h1 h2 h3 h4)
  have Hrd : Hid (rdV v u = evolveL (bothL v.1 v.2) (bothL u.1 u.2)) := rfl
  generalize evolveL (bothL v.1 v.2) (bothL u.1 u.2) = r at *
  go_enter Tryz.func80, Tryz.ntmps80
  go_wp2_with fail
  refine (He.out _).mono ?_
  rintro e w1 ⟨rfl, hb1⟩
  go_wp2_with fail
  go_ret
  exact ⟨by rw [Hrd.out]; rfl, (((Below.refl w.heap.size w).alloc (Nat.le_refl _) _).alloc (by simp) _).trans (hb1.mono (by simp; omega))⟩

set_option maxHeartbeats 2000000 in
theorem sRegOk_any (v : Value) (vs : List Ver) (w : World) (h : VRow w v vs) (hn : vs.length ≤ 1048577) (hl : ∀ x ∈ vs, x.1.length ≤ 4000000 ∧ x.2.length ≤ 4000000) :
    Calls Tryz.prog 46 #[.agg #[v]] w fun e w' => e = .returned (.bool (regOk vs)) ∧ Below w.heap.size w w' := by
  obtain ⟨A, c, rfl, hcap, hvm, hr⟩ := h
  have Hr := Lib.hid hr
  have Hl := Lib.hid hl
  clear hr hl
  go_enter Tryz.func46, Tryz.ntmps46
  go_wp2_with fail
  go_loopw [3] (fun i wr => ∃ k : Nat, i = .int .i64 k ∧ k ≤ vs.length ∧ Hid (∀ i', i' < k → ∀ k', k' ≤ i' → rdV (verAt vs i') (verAt vs k') = true) ∧ Hid (Below w.heap.size w wr) ∧ w.heap.size < wr.heap.size ∧ wr.cell? ⟨w.heap.size, 0, none⟩ = some (.slice A vs.length c)) (fun i _ => vs.length - (intOf i).toNat)
  case atStart => exact ⟨0, rfl, Nat.zero_le _, fun i' hi' => by omega, (Below.refl _ _).alloc (Nat.le_refl _) _, by simp, by simp⟩
  case round =>
    obtain ⟨i, rfl, hi, hin, hb, hsz, hc0⟩ := hrel
    have i1 : (0 : Int) ≤ (i : Int) := by omega
    by_cases hlt : i < vs.length
    · have i2 : (i : Int) < (vs.length : Int) := by omega
      obtain ⟨wo, hwo⟩ : ∃ wo : World, wo = wr := ⟨_, rfl⟩
      have Hsz := Lib.hid hsz
      have Hc0 := Lib.hid hc0
      go_wp2_with fail
      subst hwo
      go_loopw [4] (fun q wr => ∃ k : Nat, q = .int .i64 k ∧ k ≤ i + 1 ∧ Hid (∀ k', k' < k → rdV (verAt vs i) (verAt vs k') = true) ∧ Hid (Below w.heap.size w wr) ∧ w.heap.size < wr.heap.size ∧ wr.cell? ⟨w.heap.size, 0, none⟩ = some (.slice A vs.length c)) (fun q _ => i + 1 - (intOf q).toNat)
      case atStart => exact ⟨0, rfl, Nat.zero_le _, fun k' hk' => by omega, hb.out, Hsz.out, Hc0.out⟩
      case round =>
        clear hc0 hsz
        obtain ⟨k, rfl, hk, hkin, hb', hsz', hc0'⟩ := hrel
        have k1 : (0 : Int) ≤ (k : Int) := by omega
        by_cases hkl : k ≤ i
        · have k2 : (k : Int) ≤ (i : Int) := by omega
          have k3 : (k : Int) < (vs.length : Int) := by omega
          obtain ⟨b1, o1, rfl, hbl1, x0, x1⟩ := VRow.at_ (Hr.out.below hb'.out) hlt
          obtain ⟨b1', o1', e1, _, y0, y1⟩ := VRow.at_ (Hr.out.below hb'.out) (show k < vs.length by omega)
          obtain ⟨rfl, rfl⟩ : b1 = b1' ∧ o1 = o1' := by injection e1 with e1; injection e1 with e1 e2; exact ⟨e1, e2⟩
          have hxl := Hl.out _ (List.getElem_mem hlt)
          have hyl := Hl.out _ (List.getElem_mem (show k < vs.length by omega))
          have hrd : rdV (verAt vs i) (verAt vs k) = rdV vs[i] (vs[k]'(by omega)) := by rw [verAt_lt hlt, verAt_lt (by omega)]
          generalize vs[i] = x at x0 x1 hxl hrd
          generalize vs[k]'(show k < vs.length by omega) = y at y0 y1 hyl hrd
          have Hrd := Lib.hid (fun W => l10Reads_any x y W hxl.1 hxl.2 hyl.1 hyl.2)
          have Hrx := Lib.hid hrd
          generalize rdV x y = r at Hrd Hrx
          have C0 := Lib.hid x0
          have C1 := Lib.hid x1
          have D0 := Lib.hid y0
          have D1 := Lib.hid y1
          have L1 := Lib.hid hbl1
          have Lw := Lib.hid hsz'
          have T0 := Lib.hid hc0'
          clear x0 x1 y0 y1 hbl1 hxl hyl hrd e1 hc0'
          go_wp2_with fail
          refine wp_region_slots3 [17, 18, 19, 20, 21, 22, 23, 24, 25, 26, 27, 28] (by kernel_rfl) (by kernel_rfl) (by kernel_rfl) (fun u => by dsimp only [frameOf, setMany, List.set, Nat.zero_add, Nat.reduceAdd])
            (fun ix v W => match ix with | 0 => v = .pointer (some ⟨w.heap.size, 0, none⟩) | 1 => v = .slice (some ⟨b1, o1, none⟩) vs.length c | 2 => v = .int .i64 i | 3 => v = .pointer (some ⟨b1, o1 + i * 2, none⟩) | 4 => v = .agg #[.string ⟨x.1.toArray⟩, .string ⟨x.2.toArray⟩] | 5 => v = .pointer (some ⟨w.heap.size, 0, none⟩) | 6 => v = .slice (some ⟨b1, o1, none⟩) vs.length c | 7 => v = .int .i64 k | 8 => v = .pointer (some ⟨b1, o1 + k * 2, none⟩) | 9 => v = .agg #[.string ⟨y.1.toArray⟩, .string ⟨y.2.toArray⟩] | 10 => v = .bool r | 11 => v = .bool (!r) | _ => True)
            (fun L U W => Below wr.heap.size wr W) (fun _ _ => True) (fun _ _ _ _ _ h => h) ((Below.refl _ _).drew) ?_ ?_
          · repeat (first | exact Steps.nil | (refine Steps.cons ?_ ?_; rotate_left))
            all_goals
              rintro L U W hL hpre hR hun hdep K hK
              have HR := Lib.hid hR
              have hB := HR.out
              have t0 : W.cell? ⟨w.heap.size, 0, none⟩ = some (.slice (some ⟨b1, o1, none⟩) vs.length c) := (hB.cell (p := ⟨w.heap.size, 0, none⟩) Lw.out).trans T0.out
              have a0 : W.cell? ⟨b1, o1 + i * 2, none⟩ = some (.string ⟨x.1.toArray⟩) := (hB.cell (p := ⟨b1, o1 + i * 2, none⟩) L1.out).trans C0.out
              have a1 : W.cell? ⟨b1, o1 + i * 2 + 1, none⟩ = some (.string ⟨x.2.toArray⟩) := (hB.cell (p := ⟨b1, o1 + i * 2 + 1, none⟩) L1.out).trans C1.out
              have d0 : W.cell? ⟨b1, o1 + k * 2, none⟩ = some (.string ⟨y.1.toArray⟩) := (hB.cell (p := ⟨b1, o1 + k * 2, none⟩) L1.out).trans D0.out
              have d1 : W.cell? ⟨b1, o1 + k * 2 + 1, none⟩ = some (.string ⟨y.2.toArray⟩) := (hB.cell (p := ⟨b1, o1 + k * 2 + 1, none⟩) L1.out).trans D1.out
              clear hun hdep hR
              first | (simp [Region.binds] at hpre; done) | simp [Region.binds] at hpre | clear hpre
            iterate 10
              · go_simp
                first | exact hK _ _ _ rfl trivial HR.out rfl | exact hK _ _ _ rfl trivial HR.out (by simp [Act.put, hpre]) | exact hK undef _ _ trivial trivial HR.out (by simp [Act.put, hpre]) | exact hK _ _ _ trivial trivial HR.out rfl | exact hK _ _ _ trivial trivial HR.out (by simp [Act.put, hpre])
            · go_simp
              refine (Hrd.out W).mono ?_
              rintro e w5 ⟨rfl, hb5⟩
              exact hK _ _ _ rfl trivial (hB.trans (hb5.mono hB.size)) (by simp [Act.put, hpre])
            · go_simp
              first | exact hK _ _ _ rfl trivial HR.out rfl | exact hK _ _ _ rfl trivial HR.out (by simp [Act.put, hpre]) | exact hK undef _ _ trivial trivial HR.out (by simp [Act.put, hpre]) | exact hK _ _ _ trivial trivial HR.out rfl | exact hK _ _ _ trivial trivial HR.out (by simp [Act.put, hpre])
          · rintro L U W hL hφ hR
            have e11 : U 11 = .bool (!r) := hφ 11 (by decide)
            simp only [e11]
            clear hφ
            have Hbw := Lib.hid (hb'.out.trans (hR.mono hb'.out.size))
            have hz2 : w.heap.size < W.heap.size := Nat.lt_of_lt_of_le hsz' hR.size
            have T2 := Lib.hid ((hR.cell (p := ⟨w.heap.size, 0, none⟩) Lw.out).trans T0.out)
            clear hL hR
            cases r with
            | false =>
              have Hno := Lib.hid (regOk_no hlt hkl Hrx.out)
              go_wp2_with fail
              go_ret
              exact ⟨by rw [Hno.out]; rfl, Hbw.out⟩
            | true =>
              have Hall := Lib.hid (show ∀ k', k' < k + 1 → rdV (verAt vs i) (verAt vs k') = true from fun k' hk' => by
                rcases Nat.lt_or_ge k' k with h | h
                · exact hkin.out k' h
                · obtain rfl : k' = k := by omega
                  exact Hrx.out)
              go_wp2_with fail
              go_roundw
              case rel => exact ⟨k + 1, by go_num, by omega, Hall.out, Hbw.out, hz2, T2.out⟩
              case measure => simp [intOf]; omega
        · have k2 : ¬ (k : Int) ≤ (i : Int) := by omega
          have Hall := Lib.hid (show ∀ i', i' < i + 1 → ∀ k', k' ≤ i' → rdV (verAt vs i') (verAt vs k') = true from fun i' hi' k' hk' => by
            rcases Nat.lt_or_ge i' i with h | h
            · exact hin.out i' h k' hk'
            · obtain rfl : i' = i := by omega
              exact hkin.out k' (by omega))
          have Hc' := Lib.hid hc0'
          clear hc0'
          go_wp2_with fail
          go_roundw
          case rel => exact ⟨i + 1, by go_num, by omega, Hall.out, hb'.out, hsz', Hc'.out⟩
          case measure => simp [intOf]; omega
    · obtain rfl : i = vs.length := by omega
      have Hfin := Lib.hid (show regOk vs = decide (vs.length ≤ 5) from by
        by_cases h5 : vs.length ≤ 5
        · rw [decide_eq_true h5]; exact regOk_iff.2 ⟨h5, hin.out⟩
        · rw [decide_eq_false h5, Bool.eq_false_iff]; exact fun h => h5 (regOk_iff.1 h).1)
      by_cases h5 : vs.length ≤ 5
      · have h5i : (vs.length : Int) ≤ 5 := by omega
        have Hf2 := Lib.hid (Hfin.out.trans (decide_eq_true h5))
        go_wp2_with fail
        go_ret
        exact ⟨by rw [Hf2.out]; rfl, hb.out⟩
      · have h5i : ¬ (vs.length : Int) ≤ 5 := by omega
        have Hf2 := Lib.hid (Hfin.out.trans (decide_eq_false h5))
        go_wp2_with fail
        go_ret
        exact ⟨by rw [Hf2.out]; rfl, hb.out⟩
end Go.Proofs.YtcjfgbcdlcdeaaaGreatDoor
/- 'append(v, u...)' of a row of the call's own behind a row of the call's own; the operation may be guarded. -/
namespace Go.Proofs.YtcjfgbcdlcdeaaaGreatDoor
open Go.RowKit

section
variable {P : Program}
theorem wpList_want {ops : Array Oper} {rest : List Oper} {o : Oper} {a : Act} {Q : Exit → Act → World → Prop} {w : World} (hw : Region.wanted o (yielded ops a.tmps) = true)
    (h : o.wp P a w (wpList P ops Q rest) Q) : wpList P ops Q (o :: rest) a w := by
  unfold wpList
  rw [if_pos hw]
  exact .inl h

theorem wpList_appN (w : World) {ops : Array Oper} {rest : List Oper} {o : Oper} {a : Act} {Q : Exit → Act → World → Prop} (hwant : Region.wanted o (yielded ops a.tmps) = true) (s x : Operand) (t : TypeId)
    (ho : o.op = .call { callee := .builtin .append, args := #[s, x], argTypes := #[t, t] })
    (base b2 : Nat) (e : TypeId) (z : Value) (bytes : Nat) (ht : P.underlying t = some (.slice e)) (hinfo : (P.info? e).map (fun i => (i.zero, i.size, i.bytes)) = some (some z, 1, bytes))
    (hzs : z.cells.size = 1) (v : Value) (n : Nat) (xs : List Value) (hs : a.eval s = v) (hown : w.ownsRow base e 1 v n xs)
    (u : Value) (m : Nat) (ys : List Value) (hx : a.eval x = u) (hrow : w.ownsRow b2 e 1 u m ys) (h1 : ∀ y ∈ ys, y.oneCell' = true)
    (h63 : n + m ≤ maxLen) (hbytes : (n + m) * bytes ≤ 140737488355328) (hbase : base ≤ w.heap.size)
    (h : ∀ v' w', w'.ownsRow base e 1 v' (n + m) (xs ++ ys) → Below base w w' → w.grownBy w' v.ownBlock → wpList P ops Q rest (a.put o.dst v') w') : wpList P ops Q (o :: rest) a w := by
  obtain ⟨i0, hi, hz0, hz1, hz2⟩ := info_parts hinfo
  refine wpList_want hwant ?_
  rcases hrow.2 with ⟨rfl, rfl⟩ | ⟨g, cap, cur, rfl, hb, hh, hnc, hcm, hcs, htk⟩
  · have hy : ys = [] := List.eq_nil_of_length_eq_zero (by have := hrow.1; simpa using this)
    subst hy
    have hrun := run_append_owned_none (P := P) (w := w) base t o.type e i0 1 ht hi v n xs hown
    unfold Oper.wp
    simp [execOp, ho, resolve, invoke, builtin, hs, hx, hrun, Result.andThen]
    exact h v w (by simpa using hown) (Below.refl _ _) (World.grownBy.refl _ _)
  · refine wp_append_own w s x t ho base e i0 z 1 bytes ht hi hz0 hz1 hz2 hzs (by decide) v n xs hs hown ⟨g, 0, none⟩ m cap ys hx hrow.1 (hrow.cells (g := g) rfl) h1 h63 hbytes hbase ?_
    intro v' w' h2 h3 _
    exact h v' w' h2 ((Below.refl base w).grown h3 hbase (fun k hk => (hown.lt k hk).1)) h3
end

theorem scells_one (ls : List (List UInt8)) : ∀ y ∈ scells ls, y.oneCell' = true := by
  intro y hy
  obtain ⟨l, _, rfl⟩ := List.mem_map.1 hy
  rfl
theorem scells_append (a b : List (List UInt8)) : scells (a ++ b) = scells a ++ scells b := by simp [scells]
end Go.Proofs.YtcjfgbcdlcdeaaaGreatDoor
/- readType of the program: a line with fields. -/
namespace Go.Proofs.YtcjfgbcdlcdeaaaGreatDoor
open Go.RowKit
set_option maxRecDepth 100000
set_option linter.unusedVariables false
set_option linter.unusedSimpArgs false
attribute [local go_sem] ba_get ba_toList ba_extract take_drop_all ByteArray.mk_append_mk

set_option maxHeartbeats 2000000 in
theorem iType_full (c : UInt8) (r nm rest : List UInt8) (w : World) (hs : r.length ≤ 3999999) (hc : sortOk c) (h : cutL 61 r = (nm, rest, true)) (hn : nameOk nm = true) (hr : rest ≠ []) :
    Calls Tryz.prog 110 #[.string ⟨(c :: r).toArray⟩] w (ItPost (typeI (c :: r)) w) := by
  have HF := Lib.hid (typeI_fields hc h hn hr)
  have Hc := Lib.hid (fun W => (show Calls Tryz.prog 145 #[.string ⟨#[82, 85, 69]⟩, .string ⟨#[c]⟩] W fun e w' => e = .returned (.bool true) ∧ W = w' from by
    have := Contains_any [82, 85, 69] c W
    rw [sort_mem, decide_eq_true hc] at this
    exact this))
  have Hcut := Lib.hid (fun W => Cut_any r 61 W (by omega))
  have hcl := cutL_len 61 r
  have Hcut2 := Lib.hid h
  rw [h] at Hcut hcl
  simp only at hcl
  have hcl1 := hcl.1
  have hcl2 := hcl.2
  have Hname := Lib.hid (fun W => isName_any nm W (by omega))
  rw [hn] at Hname
  have Hsp := Lib.hid (fun W => Split_any rest 44 W (by omega))
  have hne := splitL_ne 44 rest
  have Hpl := Lib.hid (splitL_plen 44 rest)
  have Hln := Lib.hid (splitL_len 44 rest)
  generalize splitL 44 rest = ps at HF Hsp hne Hpl Hln
  have Hcs := Lib.hid hc
  have hpsl : ps.length ≤ 4000000 := by have := Hln.out; omega
  have hr1 : rest.isEmpty = false := by simpa using hr
  have hr2 : (rest == []) = false := by simpa using hr
  clear h hn hr hc hcl
  go_enter Tryz.func110, Tryz.ntmps110
  go_wp2_with fail
  refine (Hc.out _).mono ?_
  rintro e w' ⟨rfl, rfl⟩
  go_wp2_with fail
  refine (Hcut.out _).mono ?_
  rintro e w1 ⟨rfl, k1, rfl⟩
  unfold cutV
  go_wp2_with fail
  refine (Hname.out _).mono ?_
  rintro e w2 ⟨rfl, hb2⟩
  have Hb2 := Lib.hid (show Below w.heap.size w w2 from (below_drewN (Below.refl _ _) k1).trans (by simpa using hb2))
  have hz2 := Hb2.out.size
  clear hb2
  go_wp2_with fail
  refine (Hsp.out _).mono ?_
  rintro e w3 ⟨v, rfl, ho, hb3⟩
  obtain ⟨g, cg, rfl, hg1, hg2, hcells⟩ := own_texts ho hne
  have hg1' : w2.heap.size + 1 ≤ g := by simpa using hg1
  have hz3 : w2.heap.size < w3.heap.size := by omega
  have HT0 := Lib.hid (show w3.rangeAt w2.heap.size 0 [.int .u8 (c.toNat : Int), .string ⟨nm.toArray⟩, .slice none 0 0, .string ⟨(c :: r).toArray⟩] from rangeAt_below (rangeAt_new w2 _ _) (by simp) hb3)
  have HK0 := Lib.hid (show w3.there w2.heap.size 0 4 from there_below (there_new w2 [.int .u8 (c.toNat : Int), .string ⟨nm.toArray⟩, .slice none 0 0, .string ⟨(c :: r).toArray⟩] _) (by simp) hb3)
  have HB0 := Lib.hid (show Blk w3 w2.heap.size from (Blk.new w2 _ _).belowAt (by simp) hb3)
  have Hb3 := Lib.hid (show Below w.heap.size w w3 from (Hb2.out.alloc Hb2.out.size _).trans (hb3.mono (by simp; omega)))
  have Hcells := Lib.hid (show ∀ j (hj : j < ps.length), w3.cell? ⟨g, j, none⟩ = some (.string ⟨ps[j].toArray⟩) from hcells)
  have Hown0 := Lib.hid (World.ownsRow_nil w3 w3.heap.size 115 6)
  clear ho hb3 hcells hg1 hne
  go_wp2_with fail
  go_loopw [53] (fun i wr => ∃ (k : Nat) (acc : List Fd) (fv : Value), i = .int .i64 k ∧ k ≤ ps.length ∧ acc.length ≤ 8 ∧ Hid (typeI (c :: r) = finP c nm (fieldsI c (ps.drop k) acc)) ∧
      Hid (wr.ownsRow w3.heap.size 115 6 fv acc.length (acc.flatMap ifc)) ∧ Hid (Below w.heap.size w wr) ∧ w3.heap.size ≤ wr.heap.size ∧
      Hid (∀ j (hj : j < ps.length), wr.cell? ⟨g, j, none⟩ = some (.string ⟨ps[j].toArray⟩)) ∧
      Hid (wr.rangeAt w2.heap.size 0 [.int .u8 (c.toNat : Int), .string ⟨nm.toArray⟩, fv, .string ⟨(c :: r).toArray⟩]) ∧ Hid (wr.there w2.heap.size 0 4) ∧ Hid (Blk wr w2.heap.size)) (fun i _ => ps.length - (intOf i).toNat)
  case atStart => exact ⟨0, [], .slice none 0 0, rfl, Nat.zero_le _, by simp, HF.out, Hown0.out, Hb3.out, Nat.le_refl _, Hcells.out, HT0.out, HK0.out, HB0.out⟩
  case round =>
    obtain ⟨wo, rfl⟩ : ∃ wo : World, wo = wr := ⟨_, rfl⟩
    obtain ⟨k, acc, fv, rfl, hk, ha8, hft, hown, hbr, hzr, hpr, hT, hK, hB⟩ := hrel
    have i1 : (0 : Int) ≤ (k : Int) := by omega
    obtain ⟨A, cA, rfl, hrow⟩ := RowAt.ownK hown.out (by unfold maxLen; omega)
    have Hrow := Lib.hid hrow
    have t0 : wo.cell? ⟨w2.heap.size, 0, none⟩ = some (.int .u8 (c.toNat : Int)) := by simpa using rangeAt_cell hT.out 0 rfl
    have t2 : wo.cell? ⟨w2.heap.size, 2, none⟩ = some (.slice A acc.length cA) := by simpa using rangeAt_cell hT.out 2 rfl
    clear hrow
    by_cases hlt : k < ps.length
    · have i2 : (k : Int) < (ps.length : Int) := by omega
      have cell := hpr.out k hlt
      have hft2 := Lib.hid ((fieldsI_step (c := c) (acc := acc) hlt) ▸ hft.out)
      have hplk := Hpl.out _ (List.getElem_mem hlt)
      generalize ps[k] = p at cell hft2 hplk
      have Hread := Lib.hid (fun W => readField_any c Hcs.out p W (by omega))
      generalize fieldI c p = o at hft2 Hread
      go_wp2_with fail
      refine (Hread.out _).mono ?_
      rintro e w4 ⟨hcase, hb4⟩
      have Hb4 := Lib.hid (hbr.out.trans (hb4.mono hbr.out.size))
      cases o with
      | none =>
        obtain ⟨n, a1, a2, a3, a4, a5, rfl⟩ := hcase
        have Hend := Lib.hid (show typeI (c :: r) = none from hft2.out)
        go_wp2_with fail
        go_ret2
        exact ItPost.no Hend.out rfl (Hb4.out.alloc Hb4.out.size _)
      | some f =>
        have hcase' : e = .returned (.tuple #[.agg #[.int .i64 (f.tag : Int), .string ⟨f.name.toArray⟩, .string ⟨f.kind.signs.toArray⟩, .string ⟨f.kind.base.toArray⟩, .string ⟨f.kind.name.toArray⟩, .string ⟨f.given.toArray⟩], .bool true]) := hcase
        subst hcase'
        clear hcase
        have s0 := (hb4.cell (p := ⟨w2.heap.size, 0, none⟩) (show w2.heap.size < wo.heap.size by omega)).trans t0
        have s2 := (hb4.cell (p := ⟨w2.heap.size, 2, none⟩) (show w2.heap.size < wo.heap.size by omega)).trans t2
        have hz4 : wo.heap.size ≤ w4.heap.size := hb4.size
        have hn4 : ¬ (w2.heap.size = w4.heap.size) := by omega
        have hn5 : w2.heap.size < w4.heap.size := by omega
        have Hb4r := Lib.hid hb4
        clear t0 t2 hb4
        have hft3 := Lib.hid (show typeI (c :: r) = finP c nm (if acc.length = 8 ∨ fitsIn acc f = false then none else fieldsI c (ps.drop (k + 1)) (acc ++ [f])) from hft2.out)
        clear hft2
        rcases Nat.eq_or_lt_of_le ha8 with h8 | h8
        · have q1 : ((acc.length : Int) == 8) = true := by simp [h8]
          have Hend := Lib.hid (hft3.out.trans (by rw [if_pos (.inl h8)]))
          clear h8
          go_wp2_with fail
          go_ret2
          exact ItPost.no Hend.out rfl (Hb4.out.alloc Hb4.out.size _)
        · have q1 : ((acc.length : Int) == 8) = false := by rw [beq_eq_false_iff_ne]; omega
          go_wp2_with fail
          have f0 : (w4.alloc (.cells #[.int .i64 (f.tag : Int), .string ⟨f.name.toArray⟩, .string ⟨f.kind.signs.toArray⟩, .string ⟨f.kind.base.toArray⟩, .string ⟨f.kind.name.toArray⟩, .string ⟨f.given.toArray⟩] 115)).cell? ⟨w4.heap.size, 0, none⟩ = some (.int .i64 (f.tag : Int)) := by simp
          have f1 : (w4.alloc (.cells #[.int .i64 (f.tag : Int), .string ⟨f.name.toArray⟩, .string ⟨f.kind.signs.toArray⟩, .string ⟨f.kind.base.toArray⟩, .string ⟨f.kind.name.toArray⟩, .string ⟨f.given.toArray⟩] 115)).cell? ⟨w4.heap.size, 1, none⟩ = some (.string ⟨f.name.toArray⟩) := by simp
          have HR0 := Lib.hid (rangeAt_new w4 [.int .i64 (f.tag : Int), .string ⟨f.name.toArray⟩, .string ⟨f.kind.signs.toArray⟩, .string ⟨f.kind.base.toArray⟩, .string ⟨f.kind.name.toArray⟩, .string ⟨f.given.toArray⟩] 115)
          go_loopw [81] (fun jj wq => ∃ j : Nat, jj = .int .i64 j ∧ j ≤ acc.length ∧ Hid (∀ x ∈ acc.take j, x.name ≠ f.name ∧ x.tag < f.tag) ∧ Hid (Below w4.heap.size w4 wq) ∧ w4.heap.size < wq.heap.size ∧ Hid (wq.rangeAt w4.heap.size 0 [.int .i64 (f.tag : Int), .string ⟨f.name.toArray⟩, .string ⟨f.kind.signs.toArray⟩, .string ⟨f.kind.base.toArray⟩, .string ⟨f.kind.name.toArray⟩, .string ⟨f.given.toArray⟩])) (fun jj _ => acc.length - (intOf jj).toNat)
          case atStart => exact ⟨0, rfl, Nat.zero_le _, by intro x hx; simp at hx, (Below.refl _ _).alloc (Nat.le_refl _) _, by simp, HR0.out⟩
          case round =>
            clear f0 f1
            obtain ⟨j, rfl, hj, hin, hbq, hzq, hfr⟩ := hrel
            have j1 : (0 : Int) ≤ (j : Int) := by omega
            have f0 : wr.cell? ⟨w4.heap.size, 0, none⟩ = some (.int .i64 (f.tag : Int)) := by simpa using rangeAt_cell hfr.out 0 rfl
            have f1 : wr.cell? ⟨w4.heap.size, 1, none⟩ = some (.string ⟨f.name.toArray⟩) := by simpa using rangeAt_cell hfr.out 1 rfl
            have hnq : ¬ (w4.heap.size = wr.heap.size) := by omega
            have Hbq := Lib.hid (Hb4.out.trans (hbq.out.mono Hb4.out.size))
            by_cases hjl : j < acc.length
            · have j2 : (j : Int) < (acc.length : Int) := by omega
              obtain ⟨bA, oA, rfl, hbA, hrg⟩ := IFds.range ((Hrow.out.below Hb4r.out).below hbq.out) hjl
              have Hts := Lib.hid (take_snoc acc j hjl)
              have Hmem := Lib.hid (List.getElem_mem hjl)
              have Hrg := Lib.hid (show wr.rangeAt bA (oA + j * 6) [.int .i64 (acc[j].tag : Int), .string ⟨acc[j].name.toArray⟩, .string ⟨acc[j].kind.signs.toArray⟩, .string ⟨acc[j].kind.base.toArray⟩, .string ⟨acc[j].kind.name.toArray⟩, .string ⟨acc[j].given.toArray⟩] from hrg)
              clear hrg
              generalize acc[j] = x at Hts Hmem Hrg
              rcases Decidable.em (x.name = f.name) with hnm | hnm
              · have q2 : (x.name == f.name) = true := by simp [hnm]
                have Hend := Lib.hid (hft3.out.trans (by rw [if_pos (.inr (fits_no' Hmem.out (.inr hnm)))]))
                clear hnm
                go_wp2_with ((with_reducible refine wpList_load_mid (op := ⟨_, .load 115 _, _, _, _, none⟩) rfl 115 _ rfl bA (oA + j * 6) ?_ _ _ Hrg.out Tryz.underlying115 ?_ ?_ ?_); rfl; rfl; kernel_rfl)
                go_ret2
                exact ItPost.no Hend.out rfl (Hbq.out.alloc Hbq.out.size _)
              · have q2 : (x.name == f.name) = false := by simp [hnm]
                rcases Nat.lt_or_ge x.tag f.tag with ht | ht
                · have q3 : decide ((f.tag : Int) ≤ (x.tag : Int)) = false := by rw [decide_eq_false_iff_not]; omega
                  have Hin := Lib.hid (show ∀ y ∈ acc.take (j + 1), y.name ≠ f.name ∧ y.tag < f.tag from by
                    intro y hy
                    rw [Hts.out] at hy
                    rcases List.mem_append.1 hy with hy | hy
                    · exact hin.out y hy
                    · simp at hy; subst hy; exact ⟨hnm, ht⟩)
                  clear hnm
                  go_wp2_with ((with_reducible refine wpList_load_mid (op := ⟨_, .load 115 _, _, _, _, none⟩) rfl 115 _ rfl bA (oA + j * 6) ?_ _ _ Hrg.out Tryz.underlying115 ?_ ?_ ?_); rfl; rfl; kernel_rfl)
                  go_roundw
                  case rel => exact ⟨j + 1, by go_num, by omega, Hin.out, hbq.out.alloc (Nat.le_of_lt hzq) _, by simp; omega, rangeAt_below hfr.out hzq ((Below.refl wr.heap.size wr).alloc (Nat.le_refl _) _)⟩
                  case measure => simp [intOf]; omega
                · have q3 : decide ((f.tag : Int) ≤ (x.tag : Int)) = true := by rw [decide_eq_true_iff]; omega
                  have Hend := Lib.hid (hft3.out.trans (by rw [if_pos (.inr (fits_no' Hmem.out (.inl ht)))]))
                  clear hnm
                  go_wp2_with ((with_reducible refine wpList_load_mid (op := ⟨_, .load 115 _, _, _, _, none⟩) rfl 115 _ rfl bA (oA + j * 6) ?_ _ _ Hrg.out Tryz.underlying115 ?_ ?_ ?_); rfl; rfl; kernel_rfl)
                  go_ret2
                  exact ItPost.no Hend.out rfl (Hbq.out.alloc Hbq.out.size _)
            · have j2 : ¬ (j : Int) < (acc.length : Int) := by omega
              have Hft4 := Lib.hid (show typeI (c :: r) = finP c nm (fieldsI c (ps.drop (k + 1)) (acc ++ [f])) from by
                rw [hft3.out, if_neg]
                rintro (h | h)
                · omega
                · rw [fitsIn_all (fun y hy => hin.out y (by rw [List.take_of_length_le (by omega)]; exact hy))] at h; cases h)
              have hb1 : Below wo.heap.size wo wr := Hb4r.out.trans (hbq.out.mono hz4)
              have Hown := Lib.hid (ownsRow_below hown.out hb1)
              have Hpr := Lib.hid (show ∀ j (hj : j < ps.length), wr.cell? ⟨g, j, none⟩ = some (.string ⟨ps[j].toArray⟩) from fun j hj => (hb1.cell (p := ⟨g, j, none⟩) (show g < wo.heap.size by omega)).trans (hpr.out j hj))
              have HT1 := Lib.hid (rangeAt_below hT.out (show w2.heap.size < wo.heap.size by omega) hb1)
              have HB1 := Lib.hid (hB.out.belowAt (show w2.heap.size < wo.heap.size by omega) hb1)
              have HK1 := Lib.hid (there_below hK.out (show w2.heap.size < wo.heap.size by omega) hb1)
              have hz5 : w3.heap.size ≤ wr.heap.size := by omega
              have hz6 : w.heap.size ≤ w3.heap.size := by omega
              clear hb1 f0 f1
              go_wp2_with fail
              refine wp_region_slots3 [98, 99, 100, 101, 102, 103, 104, 105, 106, 107, 999] (by kernel_rfl) (by kernel_rfl) (by kernel_rfl) (fun u => by dsimp only [frameOf, setMany, List.set, Nat.zero_add, Nat.reduceAdd])
                (fun i v W => match i with | 0 => v = .pointer (some ⟨w2.heap.size, 0, none⟩) | 1 => v = .pointer (some ⟨w2.heap.size, 0, none⟩) | 2 => v = .pointer (some ⟨w2.heap.size, 0, none⟩) | 3 => v = .pointer (some ⟨w2.heap.size, 2, none⟩) | 4 => v = .slice A acc.length cA | 5 => v = .agg #[.int .i64 (f.tag : Int), .string ⟨f.name.toArray⟩, .string ⟨f.kind.signs.toArray⟩, .string ⟨f.kind.base.toArray⟩, .string ⟨f.kind.name.toArray⟩, .string ⟨f.given.toArray⟩] | 8 => v = .pointer (some ⟨w2.heap.size, 0, none⟩) | 9 => v = .pointer (some ⟨w2.heap.size, 2, none⟩) | _ => True)
                (fun L U W => Below w.heap.size w W ∧ w3.heap.size ≤ W.heap.size ∧ (∀ j (hj : j < ps.length), W.cell? ⟨g, j, none⟩ = some (.string ⟨ps[j].toArray⟩)) ∧ (W.there w2.heap.size 0 4 ∧ Blk W w2.heap.size) ∧
                  (L 10 = false → W.rangeAt w2.heap.size 0 [.int .u8 (c.toNat : Int), .string ⟨nm.toArray⟩, .slice A acc.length cA, .string ⟨(c :: r).toArray⟩]) ∧ (L 10 = true → W.rangeAt w2.heap.size 0 [.int .u8 (c.toNat : Int), .string ⟨nm.toArray⟩, U 7, .string ⟨(c :: r).toArray⟩]) ∧
                  (L 5 = false → W.rangeAt w4.heap.size 0 [.int .i64 (f.tag : Int), .string ⟨f.name.toArray⟩, .string ⟨f.kind.signs.toArray⟩, .string ⟨f.kind.base.toArray⟩, .string ⟨f.kind.name.toArray⟩, .string ⟨f.given.toArray⟩]) ∧ (L 7 = false → W.ownsRow w3.heap.size 115 6 (.slice A acc.length cA) acc.length (acc.flatMap ifc)) ∧ (L 7 = true → W.ownsRow w3.heap.size 115 6 (U 7) (acc.length + 1) (acc.flatMap ifc ++ ifc f)) ∧
                  (L 6 = true → L 7 = false → ∃ q, U 6 = .slice (some ⟨q, 0, none⟩) 1 1 ∧ W.rangeAt q 0 [.int .i64 (f.tag : Int), .string ⟨f.name.toArray⟩, .string ⟨f.kind.signs.toArray⟩, .string ⟨f.kind.base.toArray⟩, .string ⟨f.kind.name.toArray⟩, .string ⟨f.given.toArray⟩]))
                (fun _ _ => True) (fun w w' _ i v h => by revert h; exact fun h => h) ⟨Hbq.out.drew, hz5, Hpr.out, ⟨HK1.out, HB1.out⟩, fun _ => HT1.out, by simp, fun _ => hfr.out, fun _ => Hown.out, by simp, by simp⟩ ?_ ?_
              · repeat (first | exact Steps.nil | (refine Steps.cons ?_ ?_; rotate_left))
                all_goals
                  rintro L U W hL hpre hR hun hdep K hK
                  have Hdep := Lib.hid hdep
                  have HR := Lib.hid hR
                  clear hun hdep hR
                  first | (simp [Region.binds] at hpre; done) | simp [Region.binds] at hpre | clear hpre
                · go_simp
                  exact hK _ _ _ rfl trivial HR.out rfl
                · go_simp
                  exact hK _ _ _ rfl trivial HR.out rfl
                · have u1 := hpre.2
                  go_simp
                  exact hK (.pointer (some ⟨w2.heap.size, 0, none⟩)) _ _ rfl trivial HR.out (by simp [Act.put, u1])
                · have u2 := hpre.2
                  go_simp
                  exact hK (.pointer (some ⟨w2.heap.size, 2, none⟩)) _ _ rfl trivial HR.out (by simp [Act.put, u2])
                · have h10 := (Hdep.out 10 _ rfl { on := 7, ground := Ground.data } (by simp) (by rfl) (Hdep.out 7 _ rfl { on := 4, ground := Ground.data } (by simp) (by rfl) hL))
                  obtain ⟨r1, r2, r3, r4, r5, r6, r7, r8, r9, r0⟩ := HR.out
                  have u3 := hpre.2
                  have c2 : W.cell? ⟨w2.heap.size, 2, none⟩ = some (.slice A acc.length cA) := by simpa using rangeAt_cell (r5 h10) 2 rfl
                  clear r1 r2 r3 r4 r5 r6 r7 r8 r9 r0
                  go_simp
                  exact hK (.slice A acc.length cA) _ _ rfl trivial HR.out (by simp [Act.put, u3])
                · obtain ⟨r1, r2, r3, r4, r5, r6, r7, r8, r9, r0⟩ := HR.out
                  rw [if_pos (by rfl)]
                  refine wp_load_mid 115 _ rfl w4.heap.size 0 rfl [.int .i64 (f.tag : Int), .string ⟨f.name.toArray⟩, .string ⟨f.kind.signs.toArray⟩, .string ⟨f.kind.base.toArray⟩, .string ⟨f.kind.name.toArray⟩, .string ⟨f.given.toArray⟩] _ (r7 hL) Tryz.underlying115 rfl (by kernel_rfl) ?_
                  exact hK (.agg ([.int .i64 (f.tag : Int), .string ⟨f.name.toArray⟩, .string ⟨f.kind.signs.toArray⟩, .string ⟨f.kind.base.toArray⟩, .string ⟨f.kind.name.toArray⟩, .string ⟨f.given.toArray⟩] : List Value).toArray) _ _ rfl trivial ⟨r1, r2, r3, r4, r5, r6, fun h => by simp at h, r8, r9, r0⟩ rfl
                · obtain ⟨r1, r2, r3, r4, r5, r6, r7, r8, r9, r0⟩ := HR.out
                  have R1 := Lib.hid r1
                  have u5 := hpre.2
                  have HF5 := Lib.hid (rangeAt_new W [.int .i64 (f.tag : Int), .string ⟨f.name.toArray⟩, .string ⟨f.kind.signs.toArray⟩, .string ⟨f.kind.base.toArray⟩, .string ⟨f.kind.name.toArray⟩, .string ⟨f.given.toArray⟩] 115)
                  have HRR := Lib.hid (show (∀ j (hj : j < ps.length), (W.alloc (.cells #[.int .i64 (f.tag : Int), .string ⟨f.name.toArray⟩, .string ⟨f.kind.signs.toArray⟩, .string ⟨f.kind.base.toArray⟩, .string ⟨f.kind.name.toArray⟩, .string ⟨f.given.toArray⟩] 115)).cell? ⟨g, j, none⟩ = some (.string ⟨ps[j].toArray⟩)) ∧ ((W.alloc (.cells #[.int .i64 (f.tag : Int), .string ⟨f.name.toArray⟩, .string ⟨f.kind.signs.toArray⟩, .string ⟨f.kind.base.toArray⟩, .string ⟨f.kind.name.toArray⟩, .string ⟨f.given.toArray⟩] 115)).there w2.heap.size 0 4 ∧ Blk (W.alloc (.cells #[.int .i64 (f.tag : Int), .string ⟨f.name.toArray⟩, .string ⟨f.kind.signs.toArray⟩, .string ⟨f.kind.base.toArray⟩, .string ⟨f.kind.name.toArray⟩, .string ⟨f.given.toArray⟩] 115)) w2.heap.size) ∧
                    (L 10 = false → (W.alloc (.cells #[.int .i64 (f.tag : Int), .string ⟨f.name.toArray⟩, .string ⟨f.kind.signs.toArray⟩, .string ⟨f.kind.base.toArray⟩, .string ⟨f.kind.name.toArray⟩, .string ⟨f.given.toArray⟩] 115)).rangeAt w2.heap.size 0 [.int .u8 (c.toNat : Int), .string ⟨nm.toArray⟩, .slice A acc.length cA, .string ⟨(c :: r).toArray⟩]) ∧ (L 10 = true → (W.alloc (.cells #[.int .i64 (f.tag : Int), .string ⟨f.name.toArray⟩, .string ⟨f.kind.signs.toArray⟩, .string ⟨f.kind.base.toArray⟩, .string ⟨f.kind.name.toArray⟩, .string ⟨f.given.toArray⟩] 115)).rangeAt w2.heap.size 0 [.int .u8 (c.toNat : Int), .string ⟨nm.toArray⟩, U 7, .string ⟨(c :: r).toArray⟩]) ∧
                    (L 5 = false → (W.alloc (.cells #[.int .i64 (f.tag : Int), .string ⟨f.name.toArray⟩, .string ⟨f.kind.signs.toArray⟩, .string ⟨f.kind.base.toArray⟩, .string ⟨f.kind.name.toArray⟩, .string ⟨f.given.toArray⟩] 115)).rangeAt w4.heap.size 0 [.int .i64 (f.tag : Int), .string ⟨f.name.toArray⟩, .string ⟨f.kind.signs.toArray⟩, .string ⟨f.kind.base.toArray⟩, .string ⟨f.kind.name.toArray⟩, .string ⟨f.given.toArray⟩]) ∧ (L 7 = false → (W.alloc (.cells #[.int .i64 (f.tag : Int), .string ⟨f.name.toArray⟩, .string ⟨f.kind.signs.toArray⟩, .string ⟨f.kind.base.toArray⟩, .string ⟨f.kind.name.toArray⟩, .string ⟨f.given.toArray⟩] 115)).ownsRow w3.heap.size 115 6 (.slice A acc.length cA) acc.length (acc.flatMap ifc)) ∧ (L 7 = true → (W.alloc (.cells #[.int .i64 (f.tag : Int), .string ⟨f.name.toArray⟩, .string ⟨f.kind.signs.toArray⟩, .string ⟨f.kind.base.toArray⟩, .string ⟨f.kind.name.toArray⟩, .string ⟨f.given.toArray⟩] 115)).ownsRow w3.heap.size 115 6 (U 7) (acc.length + 1) (acc.flatMap ifc ++ ifc f))
                    from ⟨fun j hj => by rw [World.cell?_alloc_old _ _ _ (show g ≠ W.heap.size by omega)]; exact r3 j hj, ⟨World.there_alloc r4.1 _, r4.2.belowAt (show w2.heap.size < W.heap.size by omega) ((Below.refl _ _).alloc (Nat.le_refl _) _)⟩, fun h => World.rangeAt_alloc (r5 h) _, fun h => World.rangeAt_alloc (r6 h) _, fun h => World.rangeAt_alloc (r7 h) _, fun h => (r8 h).alloc _, fun h => (r9 h).alloc _⟩)
                  clear r1 r3 r4 r5 r6 r7 r8 r9 r0
                  go_simp
                  refine hK (.slice (some ⟨W.heap.size, 0, none⟩) 1 1) _ _ trivial trivial ⟨R1.out.alloc R1.out.size _, by simp; omega, HRR.out.1, HRR.out.2.1, HRR.out.2.2.1, HRR.out.2.2.2.1, HRR.out.2.2.2.2.1, HRR.out.2.2.2.2.2.1, HRR.out.2.2.2.2.2.2, fun _ _ => ⟨W.heap.size, rfl, HF5.out⟩⟩ (by simp [Act.put, u5])
                · obtain ⟨r1, r2, r3, r4, r5, r6, r7, r8, r9, r0⟩ := HR.out
                  have h10 := (Hdep.out 10 _ rfl { on := 7, ground := Ground.data } (by simp) (by rfl) hL)
                  have h7 := r8 hL
                  obtain ⟨q, e1, e2⟩ := r0 hpre.2 hL
                  obtain ⟨i0, hi, hz0, hz1, hz2'⟩ := info_parts Tryz.infoIf
                  rw [if_pos (by rfl)]
                  refine wp_append_own W (.tmp 102) (.tmp 104) 111 rfl w3.heap.size 115 i0 (.agg #[.int .i64 0, .string ⟨#[]⟩, .string ⟨#[]⟩, .string ⟨#[]⟩, .string ⟨#[]⟩, .string ⟨#[]⟩]) 6 88 Tryz.underlying111 hi hz0 hz1 hz2' rfl (by decide) (.slice A acc.length cA) acc.length (acc.flatMap ifc) hpre.1.2 h7 ⟨q, 0, none⟩ 1 1 (ifc f) e1 (by simp [ifc]) ?_ (fun y hy => ifc_one [f] y (by simpa using hy)) (by unfold maxLen; omega) (by omega) r2 ?_
                  · intro i x hx
                    rw [addr0]
                    have := e2 i x hx
                    simpa using this
                  · intro v' w' hown' hgr _
                    have hbw : Below w3.heap.size W w' := (Below.refl _ _).grown hgr r2 (fun k hk => (h7.lt k hk).1)
                    refine hK v' w' _ trivial trivial ⟨r1.trans (hbw.mono hz6), Nat.le_trans r2 hbw.size, fun j hj => (hbw.cell (p := ⟨g, j, none⟩) (show g < w3.heap.size by omega)).trans (r3 j hj), ⟨there_below r4.1 hz3 hbw, r4.2.belowAt hz3 hbw⟩, fun h => rangeAt_below (r5 h) hz3 hbw, fun h => absurd h10 (by rw [show L 10 = true from h]; decide), fun h => absurd hpre.2 (by rw [Hdep.out 6 _ rfl { on := 5, ground := Ground.data } (by simp) (by rfl) h]; decide), fun h => by simp at h, fun _ => hown', fun _ h => by simp at h⟩ rfl
                · have u0 := hpre.1.2
                  go_simp
                  exact hK (.pointer (some ⟨w2.heap.size, 0, none⟩)) _ _ rfl trivial HR.out (by simp [Act.put, hpre])
                · have u8 := hpre.2
                  go_simp
                  exact hK (.pointer (some ⟨w2.heap.size, 2, none⟩)) _ _ rfl trivial HR.out (by simp [Act.put, hpre])
                · obtain ⟨r1, r2, r3, r4, r5, r6, r7, r8, r9, r0⟩ := HR.out
                  have R1 := Lib.hid r1
                  have l7 : L 7 = true := by first | exact hpre.2.1 | exact hpre.2.1.1
                  have h5 := r5 hL
                  have h9 := r9 l7
                  obtain ⟨A7, n7, c7, e7⟩ := own_slice h9
                  rw [e7] at h9
                  obtain ⟨y2, c2⟩ := Option.isSome_iff_exists.1 (r4.1 2 (by decide)).1
                  rw [Nat.zero_add] at c2
                  have z2 : W.frozen? ⟨w2.heap.size, 2, none⟩ = false := by simpa using (r4.1 2 (by decide)).2
                  have hT10 := Lib.hid (show (W.setCell ⟨w2.heap.size, 2, none⟩ (.slice A7 n7 c7)).rangeAt w2.heap.size 0 [.int .u8 (c.toNat : Int), .string ⟨nm.toArray⟩, (.slice A7 n7 c7), .string ⟨(c :: r).toArray⟩] from rangeAt_setCells_in [.int .u8 (c.toNat : Int), .string ⟨nm.toArray⟩] [.slice A acc.length cA] [.string ⟨(c :: r).toArray⟩] [.slice A7 n7 c7] h5 rfl)
                  have hK10 := Lib.hid (show (W.setCell ⟨w2.heap.size, 2, none⟩ (.slice A7 n7 c7)).there w2.heap.size 0 4 from World.there_setCells r4.1 w2.heap.size 2 [.slice A7 n7 c7])
                  have hBk10 := Lib.hid (r4.2.set (o := 2) (.slice A7 n7 c7))
                  have hP10 := Lib.hid (show ∀ j (hj : j < ps.length), (W.setCell ⟨w2.heap.size, 2, none⟩ (.slice A7 n7 c7)).cell? ⟨g, j, none⟩ = some (.string ⟨ps[j].toArray⟩) from fun j hj => by
                    rw [World.cell?_setCell_other _ _ _ _ (by intro e; injection e with e; omega)]; exact r3 j hj)
                  have hO10 := Lib.hid (show (W.setCell ⟨w2.heap.size, 2, none⟩ (.slice A7 n7 c7)).ownsRow w3.heap.size 115 6 (.slice A7 n7 c7) (acc.length + 1) (acc.flatMap ifc ++ ifc f) from h9.kept (grown_set W _ (.slice A7 n7 c7)) (.inr (fun e => by have := (h9.lt _ e).1; simp at this; omega)))
                  have hz10 : w3.heap.size ≤ (W.setCell ⟨w2.heap.size, 2, none⟩ (.slice A7 n7 c7)).heap.size := by simpa using r2
                  have hB10 := Lib.hid (show Below w.heap.size w (W.setCell ⟨w2.heap.size, 2, none⟩ (.slice A7 n7 c7)) from r1.setCell hz2 _)
                  clear r1 r3 r4 r5 r6 r7 r8 r9 r0 h5 h9
                  go_simp
                  exact hK undef _ _ trivial trivial ⟨hB10.out, hz10, hP10.out, ⟨hK10.out, hBk10.out⟩, fun h => by simp at h, fun _ => by show World.rangeAt _ _ _ [_, _, U 7, _]; rw [e7]; exact hT10.out, fun h => absurd l7 (by rw [(Hdep.out 7 _ rfl { on := 6, ground := Ground.data } (by simp) (by rfl) (Hdep.out 6 _ rfl { on := 5, ground := Ground.data } (by simp) (by rfl) h))]; decide), fun h => absurd l7 (by rw [show L 7 = false from h]; decide), fun _ => by show World.ownsRow _ _ _ _ (U 7) _ _; rw [e7]; exact hO10.out, fun _ h => absurd l7 (by rw [show L 7 = false from h]; decide)⟩ (by simp [Act.put, hpre, e7])
              · rintro L U W hL hφ hR
                obtain ⟨hbW, hzW, hprW, hKW, _, hTW, _, _, hoW, _⟩ := hR
                have hTW' := hTW (hL 10 (by decide))
                have hoW' := hoW (hL 7 (by decide))
                generalize U 7 = V at hTW' hoW'
                have HbW := Lib.hid hbW
                have HprW := Lib.hid hprW
                have HKW := Lib.hid hKW.1
                have HBW := Lib.hid hKW.2
                have HTW := Lib.hid hTW'
                have HoW := Lib.hid hoW'
                clear hL hφ hbW hprW hKW hTW hoW hTW' hoW'
                go_wp2_with fail
                go_roundw
                case rel => exact ⟨k + 1, acc ++ [f], V, by go_num, by omega, by simp; omega, Hft4.out, by rw [List.length_append, List.flatMap_append, show [f].flatMap ifc = ifc f from by simp]; exact HoW.out, HbW.out, hzW, HprW.out, HTW.out, HKW.out, HBW.out⟩
                case measure => simp [intOf]; omega
    · have i2 : ¬ (k : Int) < (ps.length : Int) := by omega
      have Hfin := Lib.hid (show typeI (c :: r) = some ⟨c, nm, acc⟩ by rw [hft.out, List.drop_of_length_le (by omega)]; rfl)
      go_wp2_with fail
      go_ret2
      refine ItPost.yes Hfin.out (b := w2.heap.size) (fv := .slice A acc.length cA) rfl hz2 ?_ (fun k hk => by have := (hown.out.lt k hk).1; omega) hbr.out
      refine ⟨show w2.heap.size < wo.heap.size by omega, hB.out, by simpa using rangeAt_cell hT.out 0 rfl, by simpa using rangeAt_cell hT.out 1 rfl, by simpa using rangeAt_cell hT.out 2 rfl, ?_, A, cA, rfl, ha8, Hrow.out⟩
      have hB := (typeI_some.1 Hfin.out).2
      show _ = some (Value.string ⟨(tyB ⟨c, nm, acc⟩).toArray⟩)
      rw [hB]
      simpa using rangeAt_cell hT.out 3 rfl

theorem readType_any (s : List UInt8) (w : World) (hs : s.length ≤ 4000000) :
    Calls Tryz.prog 110 #[.string ⟨s.toArray⟩] w (ItPost (typeI s) w) := by
  cases s with
  | nil => exact iType_nil w
  | cons c r =>
    simp at hs
    by_cases hc : sortOk c
    · by_cases h : (cutL 61 r).2.2 = false ∨ nameOk (cutL 61 r).1 = false ∨ (cutL 61 r).2.1 = []
      · exact iType_head c r w (by omega) hc h
      · simp only [not_or] at h
        exact iType_full c r (cutL 61 r).1 (cutL 61 r).2.1 w (by omega) hc (Prod.ext rfl (Prod.ext rfl (by simpa using h.1))) (by simpa using h.2.1) h.2.2
    · exact iType_sort c r w (by omega) hc
end Go.Proofs.YtcjfgbcdlcdeaaaGreatDoor
/- has, ends and both of the program. -/
namespace Go.Proofs.YtcjfgbcdlcdeaaaGreatDoor
open Go.RowKit
set_option maxRecDepth 100000
set_option linter.unusedVariables false
set_option linter.unusedSimpArgs false
attribute [local go_sem] ba_get ba_toList ba_extract take_drop_all ByteArray.mk_append_mk

/-- What the program's map knows while a schema is read: some block that reads as a map of names. -/
def IMap (w : World) (p : Value) (xs : List PT) : Prop :=
  ∃ b mb, p = .pointer (some ⟨b, 0, none⟩) ∧ b < w.heap.size ∧ w.cell? ⟨b, 1, none⟩ = some (.map (some mb)) ∧ INamed w mb xs
theorem ISc.map {w : World} {p : Value} {xs : List PT} (h : ISc w p xs) : IMap w p xs := by
  obtain ⟨b, A, c, mb, e, h0, h1, h2, h3, h4, _⟩ := h
  exact ⟨b, mb, e, h0, h2, h4⟩
theorem named_look {w : World} {mb : Nat} {xs : List PT} (h : INamed w mb xs) (n : Name) (hn : n.length ≤ 9223372036854775807) :
    (Instr.lookup 174 (.map (some mb)) (.string ⟨n.toArray⟩) false).run Tryz.prog w = .ok (ptrP (findP xs n)) w :=
  FMap.lookup h Tryz.keyStr Tryz.underlying174 (Tryz.zeroPtr w) (keyName hn)
theorem name_short {k : Kd} (h : kdOk k) : k.name.length ≤ 3 := by
  rcases h.2.1 with ⟨_, hn⟩ | ⟨_, hn⟩
  · exact (nameOk_iff.1 hn).2.1
  · rw [hn]; simp

set_option maxHeartbeats 1000000 in
theorem iHas_any (p : Value) (xs : List PT) (k : Kd) (w : World) (h : IMap w p xs) (hk : k.name.length ≤ 100) :
    Calls Tryz.prog 89 #[p, kdV k] w fun e w' => e = .returned (.bool (decide (refOk (ptysOf xs) k))) ∧ Below w.heap.size w w' := by
  obtain ⟨b, mb, rfl, hb, hm, hn⟩ := h
  have Hn := Lib.hid hn
  clear hn
  unfold kdV
  generalize hd : (.cells #[.string ⟨k.signs.toArray⟩, .string ⟨k.base.toArray⟩, .string ⟨k.name.toArray⟩] 83 : Obj) = ob
  have hl0 : w.heap.size < (w.alloc ob).heap.size := by simp
  have x1 : (w.alloc ob).cell? ⟨w.heap.size, 1, none⟩ = some (.string ⟨k.base.toArray⟩) := by rw [← hd]; simp
  have x2 : (w.alloc ob).cell? ⟨w.heap.size, 2, none⟩ = some (.string ⟨k.name.toArray⟩) := by rw [← hd]; simp
  have x3 : (w.alloc ob).cell? ⟨b, 1, none⟩ = some (.map (some mb)) := by rw [World.cell?_alloc_old _ _ _ (show b ≠ w.heap.size by omega)]; exact hm
  have hlook : ∀ q, (Instr.lookup 174 (.map (some mb)) (.string ⟨k.name.toArray⟩) false).run Tryz.prog ((w.alloc ob).drewN q) = .ok (ptrP (findP xs k.name)) ((w.alloc ob).drewN q) := fun q => named_look (FMap.below (Hn.out.alloc _) (below_drewN (Below.refl _ _) q)) k.name (by omega)
  have Hd := Lib.hid hd
  have Hr := Lib.hid (show decide (refOk (ptysOf xs) k) = (decide (k.base ≠ [64]) || (findP xs k.name).isSome) by
    have e : refOk (ptysOf xs) k ↔ (k.base = [64] → (findP xs k.name).isSome = true) := by unfold refOk; rw [findP_ty]; simp
    by_cases h : k.base = [64]
    · cases hf : findP xs k.name with
      | none => rw [decide_eq_false (fun h2 => by have := e.1 h2 h; rw [hf] at this; cases this)]; simp [h]
      | some x => rw [decide_eq_true (e.2 (fun _ => by rw [hf]; rfl))]; simp
    · rw [decide_eq_true (e.2 (fun h2 => absurd h2 h))]; simp [h])
  have Hb := Lib.hid (show Below w.heap.size w (w.alloc ob) from (Below.refl _ _).alloc (Nat.le_refl _) _)
  go_enter Tryz.func89, Tryz.ntmps89
  rcases Decidable.em (k.base = [64]) with h64 | h64
  · have t1 : (k.base != [64]) = false := by simp [h64]
    have H64 := Lib.hid h64
    clear h64 hd hl0
    go_wp2_with fail
    rw [Hd.out]
    cases hf : findP xs k.name with
    | none =>
      rw [hf] at hlook
      have Hf := Lib.hid hf
      clear hf
      unfold ptrP at hlook
      refine wp_region_slots3 [5, 6, 7, 8, 9, 10, 11, 12, 13, 14, 15, 16, 17, 4] (by kernel_rfl) (by kernel_rfl) (by kernel_rfl) (fun u => by dsimp only [frameOf, setMany, List.set, Nat.zero_add, Nat.reduceAdd])
        (fun i v W => match i with | 0 => v = .pointer (some ⟨w.heap.size, 1, none⟩) | 1 => v = .string ⟨k.base.toArray⟩ | 2 => v = .bool false | 3 => v = .bool false | 4 => v = .pointer (some ⟨b, 0, none⟩) | 5 => v = .pointer (some ⟨b, 0, none⟩) | 6 => v = .pointer (some ⟨b, 1, none⟩) | 7 => v = .map (some mb) | 8 => v = .pointer (some ⟨w.heap.size, 2, none⟩) | 9 => v = .string ⟨k.name.toArray⟩ | 10 => v = .pointer none | 11 => v = .bool false | 12 => v = .bool false | 13 => v = .bool false | _ => True) (fun L U W => ∃ q, W = (w.alloc ob).drewN q) (fun _ _ => True) (fun _ _ _ _ _ h => h) ⟨1, rfl⟩ ?_ ?_
      · repeat (first | exact Steps.nil | (refine Steps.cons ?_ ?_; rotate_left))
        all_goals
          rintro L U W hL hpre ⟨q, rfl⟩ hun hdep K hK
          have hlq := hlook q
          clear hun hdep
          first | (simp [Region.binds] at hpre; done) | simp [Region.binds] at hpre | clear hpre
          go_simp
          first | exact hK _ _ _ rfl trivial ⟨q, rfl⟩ rfl | exact hK _ _ _ rfl trivial ⟨q, rfl⟩ (by simp [Act.put, hpre, H64.out]) | exact hK undef _ _ trivial trivial ⟨q, rfl⟩ (by simp [Act.put, hpre, H64.out]) | exact hK _ _ _ trivial trivial ⟨q, rfl⟩ rfl | exact hK _ _ _ trivial trivial ⟨q, rfl⟩ (by simp [Act.put, hpre, H64.out])
      · rintro L U W hL hφ ⟨q, rfl⟩
        have e13 : U 13 = .bool false := hφ 13 (by decide)
        simp only [e13]
        go_wp2_with fail
        go_ret
        exact ⟨ret1 (vbool (by rw [Hr.out, Hf.out]; simp [H64.out])), below_drewN Hb.out _⟩
    | some x =>
      rw [hf] at hlook
      have Hf := Lib.hid hf
      clear hf
      unfold ptrP PT.ptr at hlook
      refine wp_region_slots3 [5, 6, 7, 8, 9, 10, 11, 12, 13, 14, 15, 16, 17, 4] (by kernel_rfl) (by kernel_rfl) (by kernel_rfl) (fun u => by dsimp only [frameOf, setMany, List.set, Nat.zero_add, Nat.reduceAdd])
        (fun i v W => match i with | 0 => v = .pointer (some ⟨w.heap.size, 1, none⟩) | 1 => v = .string ⟨k.base.toArray⟩ | 2 => v = .bool false | 3 => v = .bool false | 4 => v = .pointer (some ⟨b, 0, none⟩) | 5 => v = .pointer (some ⟨b, 0, none⟩) | 6 => v = .pointer (some ⟨b, 1, none⟩) | 7 => v = .map (some mb) | 8 => v = .pointer (some ⟨w.heap.size, 2, none⟩) | 9 => v = .string ⟨k.name.toArray⟩ | 10 => v = .pointer (some ⟨x.blk, 0, none⟩) | 11 => v = .bool true | 12 => v = .bool true | 13 => v = .bool true | _ => True) (fun L U W => ∃ q, W = (w.alloc ob).drewN q) (fun _ _ => True) (fun _ _ _ _ _ h => h) ⟨1, rfl⟩ ?_ ?_
      · repeat (first | exact Steps.nil | (refine Steps.cons ?_ ?_; rotate_left))
        all_goals
          rintro L U W hL hpre ⟨q, rfl⟩ hun hdep K hK
          have hlq := hlook q
          clear hun hdep
          first | (simp [Region.binds] at hpre; done) | simp [Region.binds] at hpre | clear hpre
          go_simp
          first | exact hK _ _ _ rfl trivial ⟨q, rfl⟩ rfl | exact hK _ _ _ rfl trivial ⟨q, rfl⟩ (by simp [Act.put, hpre, H64.out]) | exact hK undef _ _ trivial trivial ⟨q, rfl⟩ (by simp [Act.put, hpre, H64.out]) | exact hK _ _ _ trivial trivial ⟨q, rfl⟩ rfl | exact hK _ _ _ trivial trivial ⟨q, rfl⟩ (by simp [Act.put, hpre, H64.out])
      · rintro L U W hL hφ ⟨q, rfl⟩
        have e13 : U 13 = .bool true := hφ 13 (by decide)
        simp only [e13]
        go_wp2_with fail
        go_ret
        exact ⟨ret1 (vbool (by rw [Hr.out, Hf.out]; simp)), below_drewN Hb.out _⟩
  · have t1 : (k.base != [64]) = true := by simp [h64]
    have H64 := Lib.hid h64
    clear h64 hd hl0
    go_wp2_with fail
    rw [Hd.out]
    refine wp_region_slots3 [5, 6, 7, 8, 9, 10, 11, 12, 13, 14, 15, 16, 17, 4] (by kernel_rfl) (by kernel_rfl) (by kernel_rfl) (fun u => by dsimp only [frameOf, setMany, List.set, Nat.zero_add, Nat.reduceAdd])
      (fun i v W => match i with | 0 => v = .pointer (some ⟨w.heap.size, 1, none⟩) | 1 => v = .string ⟨k.base.toArray⟩ | 2 => v = .bool true | 3 => v = .bool true | 12 => v = .bool true | 13 => v = .bool true | _ => True) (fun L U W => ∃ q, W = (w.alloc ob).drewN q) (fun _ _ => True) (fun _ _ _ _ _ h => h) ⟨1, rfl⟩ ?_ ?_
    · repeat (first | exact Steps.nil | (refine Steps.cons ?_ ?_; rotate_left))
      all_goals
        rintro L U W hL hpre ⟨q, rfl⟩ hun hdep K hK
        have hlq := hlook q
        clear hun hdep
        first | (simp [Region.binds] at hpre; done) | simp [Region.binds] at hpre | clear hpre
        go_simp
        first | exact hK _ _ _ rfl trivial ⟨q, rfl⟩ rfl | exact hK _ _ _ rfl trivial ⟨q, rfl⟩ (by simp [Act.put, hpre, H64.out]) | exact hK undef _ _ trivial trivial ⟨q, rfl⟩ (by simp [Act.put, hpre, H64.out]) | exact hK _ _ _ trivial trivial ⟨q, rfl⟩ rfl | exact hK _ _ _ trivial trivial ⟨q, rfl⟩ (by simp [Act.put, hpre, H64.out])
    · rintro L U W hL hφ ⟨q, rfl⟩
      have e13 : U 13 = .bool true := hφ 13 (by decide)
      simp only [e13]
      go_wp2_with fail
      go_ret
      exact ⟨ret1 (vbool (by rw [Hr.out]; simp [H64.out])), below_drewN Hb.out _⟩
end Go.Proofs.YtcjfgbcdlcdeaaaGreatDoor
/- ends of the program. -/
namespace Go.Proofs.YtcjfgbcdlcdeaaaGreatDoor
open Go.RowKit
set_option maxRecDepth 100000
set_option linter.unusedVariables false
set_option linter.unusedSimpArgs false
attribute [local go_sem] ba_get ba_toList ba_extract take_drop_all ByteArray.mk_append_mk

theorem ends_stop {S : List Ty} {n : Nat} {t : Ty} (h : nextTy S t = none) : endsN S (n + 1) t = true := by rw [endsN, h]
theorem ends_go {S : List Ty} {n : Nat} {t u : Ty} (h : nextTy S t = some u) : endsN S (n + 1) t = endsN S n u := by rw [endsN, h]
theorem next_sort {S : List Ty} {t : Ty} (h : t.sort ≠ 85) : nextTy S t = none := if_neg h
theorem next_kind {S : List Ty} {t : Ty} {f : Fd} {fs : List Fd} (h : t.sort = 85) (hf : t.fields = f :: fs) : nextTy S t = if f.kind.signs = [] ∧ f.kind.base = [64] then findTy S f.kind.name else none := by
  unfold nextTy; rw [if_pos h, hf]
theorem first_field {t : Ty} (h : tyOk t) (hs : t.sort = 85) : ∃ f fs, t.fields = f :: fs ∧ kdOk f.kind := by
  obtain ⟨_, _, h3, _, h5⟩ := h
  cases hf : t.fields with
  | nil => have := h5 hf; rw [hs] at this; exact absurd this (by decide)
  | cons f fs => exact ⟨f, fs, rfl, ((h3.1 f (by rw [hf]; simp)).2.2.2.2 (by rw [hs]; decide)).1⟩

set_option maxHeartbeats 1000000 in
theorem iEnds_any (p : Value) (xs : List PT) (x : PT) (w : World) (h : IMap w p xs) (hT : ∀ y ∈ xs, ITy w y) (hok : ∀ y ∈ xs, tyOk y.ty) (hS : kindsOk (ptysOf xs)) (hx : x ∈ xs) :
    Calls Tryz.prog 111 #[p, x.ptr] w fun e w' => e = .returned (.bool (endsN (ptysOf xs) 9 x.ty)) ∧ Below w.heap.size w w' := by
  have Hmap := Lib.hid h
  obtain ⟨b, mb, rfl, hb, hm, hn⟩ := h
  have HT := Lib.hid hT
  have Hok := Lib.hid hok
  have HS := Lib.hid hS
  have Hx := Lib.hid hx
  have Hn := Lib.hid hn
  have Hm := Lib.hid hm
  clear hT hok hS hx hn hm
  unfold PT.ptr
  go_enter Tryz.func111, Tryz.ntmps111
  go_wp2_with fail
  go_loopw [1, 6] (fun t i wr => ∃ (n : Nat) (y : PT), i = .int .i64 n ∧ n ≤ 9 ∧ t = .pointer (some ⟨y.blk, 0, none⟩) ∧ Hid (y ∈ xs) ∧ Hid (endsN (ptysOf xs) 9 x.ty = endsN (ptysOf xs) (9 - n) y.ty) ∧ Hid (Below w.heap.size w wr)) (fun _ i _ => 9 - (intOf i).toNat)
  case atStart => exact ⟨0, x, rfl, by omega, rfl, Hx.out, rfl, Below.refl _ _⟩
  case round =>
    obtain ⟨n, y, rfl, hn9, rfl, hy, he, hbr⟩ := hrel
    have n1 : (0 : Int) ≤ (n : Int) := by omega
    obtain ⟨hyb, _, y0, y1, y2, y3, A, cA, hyf, hl8, hrow⟩ := (HT.out y hy.out).below hbr.out
    have Hrow := Lib.hid hrow
    have hzw := hbr.out.size
    rw [hyf] at y2
    clear hrow hyf y1 y3
    by_cases hlt : n < 9
    · have n2 : (n : Int) < 9 := by omega
      have he2 := Lib.hid (show endsN (ptysOf xs) 9 x.ty = endsN (ptysOf xs) (8 - n + 1) y.ty by rw [he.out, show 9 - n = 8 - n + 1 by omega])
      by_cases h85 : y.ty.sort = 85
      · have t1 : ((y.ty.sort.toNat : Int) != 85) = false := bne_byte_no (d := 85) h85
        obtain ⟨f, fs, hf, hkd⟩ := first_field (Hok.out y hy.out) h85
        have Hnext := Lib.hid (next_kind (S := ptysOf xs) h85 hf)
        have hpos : 0 < y.ty.fields.length := by rw [hf]; simp
        obtain ⟨bA, oA, rfl, hbA, hrg⟩ := IFds.range Hrow.out hpos
        have hf0 : y.ty.fields[0] = f := by simp [hf]
        rw [hf0, Nat.zero_mul, Nat.add_zero] at hrg
        have Hrg := Lib.hid (show wr.rangeAt bA (oA + 2) [.string ⟨f.kind.signs.toArray⟩, .string ⟨f.kind.base.toArray⟩, .string ⟨f.kind.name.toArray⟩] from rangeAt_part [.int .i64 (f.tag : Int), .string ⟨f.name.toArray⟩] _ [.string ⟨f.given.toArray⟩] hrg)
        have hp1 : (0 : Int) < (y.ty.fields.length : Int) := by omega
        have Href := Lib.hid (HS.out y.ty (List.mem_map_of_mem (f := (·.ty)) hy.out) (by rw [h85]; decide) f (by rw [hf]; simp))
        have Hkd := Lib.hid hkd
        have hnl := name_short hkd
        clear h85 hf hf0 hrg hkd
        have hbb := Lib.hid ((Hm.out))
        by_cases hsg : f.kind.signs = []
        · have s1 : (f.kind.signs != []) = false := by simp [hsg]
          have s2 : f.kind.signs.isEmpty = true := by simp [hsg]
          have s4 : (!f.kind.signs.isEmpty) = false := by simp [hsg]
          by_cases h64 : f.kind.base = [64]
          · have s3 : (f.kind.base == [64]) = true := by simp [h64]
            have s5 : (f.kind.base != [64]) = false := by simp [h64]
            have hsome := Href.out h64
            rw [findP_ty] at hsome
            cases hz : findP xs f.kind.name with
            | none => rw [hz] at hsome; cases hsome
            | some z =>
              have Hz := Lib.hid (show endsN (ptysOf xs) 9 x.ty = endsN (ptysOf xs) (8 - n) z.ty from by
                rw [he2.out]
                exact ends_go (by rw [Hnext.out, if_pos ⟨hsg, h64⟩, findP_ty, hz]; rfl))
              have Hzm := Lib.hid (findP_mem hz).1
              generalize hd : (.cells #[.string ⟨f.kind.signs.toArray⟩, .string ⟨f.kind.base.toArray⟩, .string ⟨f.kind.name.toArray⟩] 83 : Obj) = ob
              have x2 : (wr.alloc ob).cell? ⟨wr.heap.size, 2, none⟩ = some (.string ⟨f.kind.name.toArray⟩) := by rw [← hd]; simp
              have x3 : (wr.alloc ob).cell? ⟨b, 1, none⟩ = some (.map (some mb)) := by
                rw [World.cell?_alloc_old _ _ _ (show b ≠ wr.heap.size by omega)]
                exact (hbr.out.cell (p := ⟨b, 1, none⟩) hb).trans Hm.out
              have hlook : ∀ q, (Instr.lookup 174 (.map (some mb)) (.string ⟨f.kind.name.toArray⟩) false).run Tryz.prog ((wr.alloc ob).drewN q) = .ok (.pointer (some ⟨z.blk, 0, none⟩)) ((wr.alloc ob).drewN q) := fun q => by
                have := named_look (FMap.below (FMap.alloc (FMap.below Hn.out hbr.out) ob) (below_drewN (Below.refl _ _) q)) f.kind.name (by omega)
                rw [hz] at this
                exact this
              have Hbb := Lib.hid (show Below w.heap.size w (wr.alloc ob) from hbr.out.alloc hzw _)
              have Hd := Lib.hid hd
              clear hd hsg h64 hz hsome
              go_wp2_with ((with_reducible refine wpList_load_mid (op := ⟨_, .load 83 _, _, _, _, none⟩) rfl 83 _ rfl bA (oA + 2) ?_ _ _ Hrg.out Tryz.underlying83 ?_ ?_ ?_); rfl; rfl; kernel_rfl)
              rw [Hd.out]
              refine wp_region_slots3 [28, 29, 30, 31, 32, 33, 34, 1] (by kernel_rfl) (by kernel_rfl) (by kernel_rfl) (fun u => by dsimp only [frameOf, setMany, List.set, Nat.zero_add, Nat.reduceAdd])
                (fun i v W => match i with | 0 => v = .pointer (some ⟨b, 0, none⟩) | 1 => v = .pointer (some ⟨b, 0, none⟩) | 2 => v = .pointer (some ⟨b, 1, none⟩) | 3 => v = .map (some mb) | 4 => v = .pointer (some ⟨wr.heap.size, 2, none⟩) | 5 => v = .string ⟨f.kind.name.toArray⟩ | 6 => v = .pointer (some ⟨z.blk, 0, none⟩) | 7 => v = .pointer (some ⟨z.blk, 0, none⟩) | _ => True) (fun L U W => ∃ q, W = (wr.alloc ob).drewN q) (fun _ _ => True) (fun _ _ _ _ _ h => h) ⟨1, rfl⟩ ?_ ?_
              · repeat (first | exact Steps.nil | (refine Steps.cons ?_ ?_; rotate_left))
                all_goals
                  rintro L U W hL hpre ⟨q, rfl⟩ hun hdep K hK
                  have hlq := hlook q
                  clear hun hdep
                  first | (simp [Region.binds] at hpre; done) | simp [Region.binds] at hpre | clear hpre
                  go_simp
                  first | exact hK _ _ _ rfl trivial ⟨q, rfl⟩ rfl | exact hK _ _ _ rfl trivial ⟨q, rfl⟩ (by simp [Act.put, hpre])
              · rintro L U W hL hφ ⟨q, rfl⟩
                have e7 : U 7 = .pointer (some ⟨z.blk, 0, none⟩) := hφ 7 (by decide)
                simp only [e7]
                clear hφ hL hlook x2 x3
                go_wp2_with fail
                go_roundw
                case rel => exact ⟨n + 1, z, by go_num, by omega, rfl, Hzm.out, by show _ = endsN (ptysOf xs) (9 - (n + 1)) z.ty; rw [Hz.out, show 9 - (n + 1) = 8 - n by omega], below_drewN Hbb.out _⟩
                case measure => simp [intOf]; omega
          · have s3 : (f.kind.base == [64]) = false := by simp [h64]
            have s5 : (f.kind.base != [64]) = true := by simp [h64]
            have Hend := Lib.hid (he2.out.trans (ends_stop (by rw [Hnext.out, if_neg (fun h => h64 h.2)])))
            clear hsg h64
            go_wp2_with ((with_reducible refine wpList_load_mid (op := ⟨_, .load 83 _, _, _, _, none⟩) rfl 83 _ rfl bA (oA + 2) ?_ _ _ Hrg.out Tryz.underlying83 ?_ ?_ ?_); rfl; rfl; kernel_rfl)
            go_ret
            exact ⟨ret1 (vbool Hend.out.symm), hbr.out.alloc hzw _⟩
        · have s1 : (f.kind.signs != []) = true := by simp [hsg]
          have s2 : f.kind.signs.isEmpty = false := by simp [hsg]
          have s4 : (!f.kind.signs.isEmpty) = true := by simp [hsg]
          have Hend := Lib.hid (he2.out.trans (ends_stop (by rw [Hnext.out, if_neg (fun h => hsg h.1)])))
          clear hsg
          go_wp2_with ((with_reducible refine wpList_load_mid (op := ⟨_, .load 83 _, _, _, _, none⟩) rfl 83 _ rfl bA (oA + 2) ?_ _ _ Hrg.out Tryz.underlying83 ?_ ?_ ?_); rfl; rfl; kernel_rfl)
          go_ret
          exact ⟨ret1 (vbool Hend.out.symm), hbr.out.alloc hzw _⟩
      · have t1 : ((y.ty.sort.toNat : Int) != 85) = true := bne_byte (d := 85) h85
        have Hend := Lib.hid (he2.out.trans (ends_stop (next_sort h85)))
        clear h85
        go_wp2_with fail
        go_ret
        exact ⟨ret1 (vbool Hend.out.symm), hbr.out⟩
    · obtain rfl : n = 9 := by omega
      have Hend := Lib.hid (show endsN (ptysOf xs) 9 x.ty = false from he.out)
      go_wp2_with fail
      go_ret
      exact ⟨ret1 (vbool Hend.out.symm), hbr.out⟩
end Go.Proofs.YtcjfgbcdlcdeaaaGreatDoor
/- readSchema of the program. -/
namespace Go.Proofs.YtcjfgbcdlcdeaaaGreatDoor
open Go.RowKit
set_option maxRecDepth 100000
set_option linter.unusedVariables false
set_option linter.unusedSimpArgs false
attribute [local go_sem] ba_get ba_toList ba_extract take_drop_all ByteArray.mk_append_mk

/-- A type that stays as it is while one row is written. -/
theorem ITy.kept {w w' : World} {x : PT} {row : Option Nat} (h : ITy w x) (hg : w.grownBy w' row) (h1 : row ≠ some x.blk) (h2 : ∀ k, 0 < x.ty.fields.length → x.fv.ownBlock = some k → row ≠ some k) : ITy w' x := by
  obtain ⟨h0, hk, a0, a1, a2, a3, A, c, e, hl, hr⟩ := h
  have hne : some x.blk ≠ row := fun e => h1 e.symm
  refine ⟨Nat.lt_of_lt_of_le h0 hg.size, hk.grown h0 hg hne, hg.cell a0 hne, hg.cell a1 hne, hg.cell a2 hne, hg.cell a3 hne, A, c, e, hl, hr.1, hr.2.1, fun hn => ?_⟩
  obtain ⟨b, off, eA, hb, hc⟩ := hr.2.2 hn
  have hne2 : some b ≠ row := fun e2 => h2 b (by omega) (by rw [e, eA]; rfl) e2.symm
  exact ⟨b, off, eA, Nat.lt_of_lt_of_le hb hg.size, fun j u hu => hg.cell (hc j u hu) hne2⟩
theorem ITy.fvlt {w : World} {x : PT} (h : ITy w x) {k : Nat} (hn : 0 < x.ty.fields.length) (hk : x.fv.ownBlock = some k) : k < w.heap.size := by
  obtain ⟨_, _, _, _, _, _, A, c, e, _, hr⟩ := h
  obtain ⟨b, off, eA, hb, _⟩ := hr.2.2 (by omega)
  rw [e, eA] at hk
  simp only [Value.ownBlock, Option.some.injEq] at hk
  omega
/-- A type that lies in blocks from lo on. -/
def TyFrom (lo : Nat) (x : PT) : Prop := lo ≤ x.blk ∧ ∀ k, 0 < x.ty.fields.length → x.fv.ownBlock = some k → lo ≤ k
/-- .. that lies beside a row. -/
def TyOff (v : Value) (x : PT) : Prop := v.ownBlock ≠ some x.blk ∧ ∀ k, 0 < x.ty.fields.length → x.fv.ownBlock = some k → v.ownBlock ≠ some k

/-- The types that were read. -/
def ITys (w : World) (lo : Nat) (v : Value) (xs : List PT) : Prop := (∀ x ∈ xs, ITy w x ∧ TyFrom lo x ∧ TyOff v x) ∧ xs.Pairwise fun x y => x.blk ≠ y.blk
theorem ITys.far {w w' : World} {lo b : Nat} {v : Value} {xs : List PT} (h : ITys w lo v xs) (hg : w.grownBy w' (some b)) (hb : b < lo) : ITys w' lo v xs :=
  ⟨fun x hx => by
    obtain ⟨h1, h2, h3⟩ := h.1 x hx
    refine ⟨h1.kept hg (fun e => ?_) (fun k hn hk e => ?_), h2, h3⟩
    · injection e with e; have := h2.1; omega
    · injection e with e; have := h2.2 k hn hk; omega, h.2⟩
theorem ITys.below {w w' : World} {lo : Nat} {v : Value} {xs : List PT} (h : ITys w lo v xs) (hb : Below w.heap.size w w') : ITys w' lo v xs :=
  ⟨fun x hx => ⟨(h.1 x hx).1.below hb, (h.1 x hx).2⟩, h.2⟩
theorem ITys.push {wo w3 w5 : World} {lo base n k1 : Nat} {e : TypeId} {v v5 : Value} {cs : List Value} {xs : List PT} {x : PT} (h : ITys wo lo v xs) (hb : Below wo.heap.size wo w3) (hown : wo.ownsRow base e k1 v n cs) (hx : ITy w3 x) (hxb : wo.heap.size ≤ x.blk)
    (hxf : ∀ k, x.fv.ownBlock = some k → wo.heap.size ≤ k) (hlo : lo ≤ wo.heap.size) (hg : w3.grownBy w5 v.ownBlock) (hwh : v5.ownBlock = v.ownBlock ∨ ∃ k, v5.ownBlock = some k ∧ w3.heap.size ≤ k) : ITys w5 lo v5 (xs ++ [x]) := by
  have hall : ∀ y ∈ xs ++ [x], ITy w3 y ∧ TyFrom lo y ∧ TyOff v y := by
    intro y hy
    rcases List.mem_append.1 hy with hy | hy
    · obtain ⟨h1, h2⟩ := h.1 y hy
      exact ⟨h1.below hb, h2⟩
    · simp at hy; subst hy
      refine ⟨hx, ⟨by omega, fun k _ hk => by have := hxf k hk; omega⟩, fun e => ?_, fun k _ hk e => ?_⟩
      · have := (hown.lt _ e).2; omega
      · have := (hown.lt _ e).2; have := hxf k hk; omega
  refine ⟨fun y hy => ?_, ?_⟩
  · obtain ⟨h1, h2, h3⟩ := hall y hy
    refine ⟨h1.kept hg h3.1 h3.2, h2, ?_⟩
    rcases hwh with hwh | ⟨k, hwh, hk⟩
    · unfold TyOff; rw [hwh]; exact h3
    · refine ⟨fun e => ?_, fun k2 hn hk2 e => ?_⟩
      · rw [hwh] at e; injection e with e; have := h1.1; omega
      · rw [hwh] at e; injection e with e; have := h1.fvlt hn hk2; omega
  · rw [List.pairwise_append]
    refine ⟨h.2, by simp, fun y hy z hz => ?_⟩
    simp at hz; subst hz
    have := (h.1 y hy).1.1
    omega
/-- A schema that lies in blocks from lo on. -/
def ISL (lo : Nat) (w : World) (p : Value) (xs : List PT) : Prop :=
  ∃ b A c mb, p = .pointer (some ⟨b, 0, none⟩) ∧ b < w.heap.size ∧ w.cell? ⟨b, 0, none⟩ = some (.slice A xs.length c) ∧ w.cell? ⟨b, 1, none⟩ = some (.map (some mb)) ∧ RowAt w A xs.length (xs.map (·.ptr)) ∧ INamed w mb xs ∧ (∀ x ∈ xs, ITy w x) ∧ (xs.Pairwise fun x y => x.blk ≠ y.blk) ∧
    lo ≤ b ∧ lo ≤ mb ∧ (∀ g o, 0 < xs.length → A = some ⟨g, o, none⟩ → lo ≤ g) ∧ ∀ x ∈ xs, TyFrom lo x
theorem ISL.isc {lo : Nat} {w : World} {p : Value} {xs : List PT} (h : ISL lo w p xs) : ISc w p xs := by
  obtain ⟨b, A, c, mb, h0, h1, h2, h3, h4, h5, h6, h7, _⟩ := h
  exact ⟨b, A, c, mb, h0, h1, h2, h3, h4, h5, h6, h7⟩
theorem ISL.below {lo : Nat} {w w' : World} {p : Value} {xs : List PT} (h : ISL lo w p xs) (hb : Below w.heap.size w w') : ISL lo w' p xs := by
  obtain ⟨b, A, c, mb, e, h0, h1, h2, h3, h4, h5, h6, h7⟩ := h
  obtain ⟨hc, _, hz⟩ := bcell hb
  exact ⟨b, A, c, mb, e, hz _ h0, (hc _ _ h0).trans h1, (hc _ _ h0).trans h2, h3.below hb, FMap.below h4 hb, fun x hx => (h5 x hx).below hb, h6, h7⟩
theorem ISL.far {lo b0 : Nat} {w w' : World} {p : Value} {xs : List PT} (h : ISL lo w p xs) (hg : w.grownBy w' (some b0)) (hb0 : b0 < lo) : ISL lo w' p xs := by
  obtain ⟨b, A, c, mb, e, h0, h1, h2, h3, h4, h5, h6, l1, l2, l3, l4⟩ := h
  have hne : some b ≠ some b0 := by intro e; injection e with e; omega
  refine ⟨b, A, c, mb, e, Nat.lt_of_lt_of_le h0 hg.size, hg.cell h1 hne, hg.cell h2 hne, ⟨h3.1, h3.2.1, fun hn => ?_⟩, FMap.kept h4 hg (by intro e; injection e with e; omega), fun x hx => (h5 x hx).kept hg (fun e => ?_) (fun k hn hk e => ?_), h6, l1, l2, l3, l4⟩
  · obtain ⟨g, o, eA, hgl, hc⟩ := h3.2.2 hn
    have := l3 g o hn eA
    exact ⟨g, o, eA, Nat.lt_of_lt_of_le hgl hg.size, fun j u hu => hg.cell (hc j u hu) (by intro e; injection e with e; simp at e; omega)⟩
  · injection e with e; have := (l4 x hx).1; omega
  · injection e with e; have := (l4 x hx).2 k hn hk; omega
/-- What reading a schema leaves. -/
def IsPost (o : Option (List Ty)) (w : World) (e : Ending) (w' : World) : Prop :=
  (match o with
    | some S => ∃ p xs, ptysOf xs = S ∧ e = .returned (.tuple #[p, .bool true]) ∧ ISL w.heap.size w' p xs
    | none => ∃ p : Option Addr, e = .returned (.tuple #[.pointer p, .bool false])) ∧ Below w.heap.size w w'
theorem IsPost.no {w w' : World} {e : Ending} {o : Option (List Ty)} (ho : o = none) {p : Option Addr} (he : e = .returned (.tuple #[.pointer p, .bool false])) (hb : Below w.heap.size w w') : IsPost o w e w' := by
  rw [ho]; exact ⟨⟨p, he⟩, hb⟩
theorem IsPost.yes {w w' : World} {e : Ending} {o : Option (List Ty)} {p : Value} {xs : List PT} (ho : o = some (ptysOf xs)) (he : e = .returned (.tuple #[p, .bool true])) (hs : ISL w.heap.size w' p xs) (hb : Below w.heap.size w w') : IsPost o w e w' := by
  rw [ho]; exact ⟨⟨p, xs, rfl, he, hs⟩, hb⟩

theorem namedF_snoc {xs : List PT} {x : PT} (h : findP xs x.ty.name = none) (l : Lit) (hl : WideAt.IsKeyLit l) : (if l.sameKey (.string x.ty.name) = true then x.ptr else namedF xs l) = namedF (xs ++ [x]) l := by
  by_cases e : l = .string x.ty.name
  · subst e
    rw [if_pos (WideAt.sameKey_self hl)]
    unfold findP at h
    show x.ptr = ptrP ((xs ++ [x]).find? fun y => decide (y.ty.name = x.ty.name))
    rw [List.find?_append, h]
    simp [ptrP]
  · rw [if_neg (fun hh => e ((WideAt.sameKey_iff (show WideAt.IsKeyLit (.string x.ty.name) from trivial)).1 hh))]
    cases l with
    | string s =>
      have hne : ¬ x.ty.name = s := fun h2 => e (by rw [h2])
      unfold namedF findP
      simp only
      rw [List.find?_append]
      simp [hne]
    | _ => rfl
theorem findP_none {xs : List PT} {n : Name} : findP xs n = none ↔ (ptysOf xs).any (fun u => decide (u.name = n)) = false := by
  unfold findP ptysOf
  rw [List.find?_eq_none, List.any_map]
  simp
theorem Tryz.infoPt : (Tryz.prog.info? 108).map (fun i => (i.zero, i.size, i.bytes)) = some (some (.pointer none), 1, 8) := by kernel_rfl

set_option maxHeartbeats 1000000 in
theorem iSchema_long (s : List UInt8) (w : World) (hs : s.length ≤ 4000000) (h : 400 < s.length) :
    Calls Tryz.prog 79 #[.string ⟨s.toArray⟩] w (IsPost (schemaL s) w) := by
  have HF := Lib.hid (show schemaL s = none from if_pos h)
  have t1 : (400 : Int) < (s.length : Int) := by omega
  go_enter Tryz.func79, Tryz.ntmps79
  go_wp2_with fail
  go_ret2
  exact IsPost.no HF.out rfl (Below.refl _ _)
end Go.Proofs.YtcjfgbcdlcdeaaaGreatDoor
