/- Texts joined: ISchema2, IBoth, IStand, IStand2, IStand3, IAsk. Conditions: as each theorem names them. -/
import Derived.Maps.AppendAt
import Derived.DeepKeys4
import Derived.Test.YtcjfgbcdlcdeaaaGreatDoorK15
import Derived.Test.YtcjfgbcdlcdeaaaGreatDoorK17
/- readSchema of the program: the lines. -/
namespace Go.Proofs.YtcjfgbcdlcdeaaaGreatDoor
open Go.RowKit
set_option maxRecDepth 100000
set_option linter.unusedVariables false
set_option linter.unusedSimpArgs false
attribute [local go_sem] ba_get ba_toList ba_extract take_drop_all ByteArray.mk_append_mk

theorem ISc.tys {w : World} {p : Value} {xs : List PT} (h : ISc w p xs) : ∀ x ∈ xs, ITy w x := by
  obtain ⟨_, _, _, _, _, _, _, _, _, _, h, _⟩ := h
  exact h
set_option maxHeartbeats 4000000 in
theorem iSchema_go (s : List UInt8) (w : World) (hs : s.length ≤ 400) :
    Calls Tryz.prog 79 #[.string ⟨s.toArray⟩] w (IsPost (schemaL s) w) := by
  have HF := Lib.hid (show schemaL s = (match linesI (s.length + 1) s [] with | none => none | some S => if kindsOk S ∧ (∀ t ∈ S, endsN S 9 t = true) then some S else none) from if_neg (by omega))
  have t1 : ¬ (400 : Int) < (s.length : Int) := by omega
  have hmm := @run_makeMap Tryz.prog
  go_enter Tryz.func79, Tryz.ntmps79
  go_wp2_with fail
  clear hmm
  have HM0 := Lib.hid (show FMap Tryz.prog 9 (.pointer none) ((w.alloc (.map #[] 0)).alloc (.cells #[.slice none 0 0, .map (some w.heap.size)] 176)) w.heap.size 0 (namedF []) from ((FMap.made w Tryz.prog 9 (.pointer none)).alloc _).of_eq (fun l hl => by cases l <;> rfl))
  have HR0 := Lib.hid (show ((w.alloc (.map #[] 0)).alloc (.cells #[.slice none 0 0, .map (some w.heap.size)] 176)).rangeAt (w.heap.size + 1) 0 [.slice none 0 0, .map (some w.heap.size)] from by
    have := rangeAt_new (w.alloc (.map #[] 0)) [.slice none 0 0, .map (some w.heap.size)] 176
    simpa using this)
  have HK0 := Lib.hid (show ((w.alloc (.map #[] 0)).alloc (.cells #[.slice none 0 0, .map (some w.heap.size)] 176)).there (w.heap.size + 1) 0 2 from by
    have := there_new (w.alloc (.map #[] 0)) [.slice none 0 0, .map (some w.heap.size)] 176
    simpa using this)
  have HB0 := Lib.hid (show Below w.heap.size w ((w.alloc (.map #[] 0)).alloc (.cells #[.slice none 0 0, .map (some w.heap.size)] 176)) from ((Below.refl _ _).alloc (Nat.le_refl _) _).alloc (by simp) _)
  have HO0 := Lib.hid (World.ownsRow_nil ((w.alloc (.map #[] 0)).alloc (.cells #[.slice none 0 0, .map (some w.heap.size)] 176)) (w.heap.size + 2) 108 1)
  go_loopw [0] (fun l wr => ∃ (u : List UInt8) (fuel : Nat) (xs : List PT) (tv : Value), l = .string ⟨u.toArray⟩ ∧ u.length ≤ s.length ∧ u.length < fuel ∧ Hid (linesI (s.length + 1) s [] = linesI fuel u (ptysOf xs)) ∧ xs.length ≤ 8 ∧
      Hid (wr.rangeAt (w.heap.size + 1) 0 [tv, .map (some w.heap.size)]) ∧ Hid (wr.there (w.heap.size + 1) 0 2) ∧ Hid (wr.ownsRow (w.heap.size + 2) 108 1 tv xs.length (xs.map (·.ptr))) ∧
      Hid (INamed wr w.heap.size xs) ∧ Hid (ITys wr (w.heap.size + 2) tv xs) ∧ Hid (Below w.heap.size w wr) ∧ w.heap.size + 2 ≤ wr.heap.size) (fun l _ => strLen l)
  case atStart => exact ⟨s, s.length + 1, [], .slice none 0 0, rfl, Nat.le_refl _, by omega, rfl, by simp, HR0.out, HK0.out, HO0.out, HM0.out, ⟨by simp, List.Pairwise.nil⟩, HB0.out, by simp⟩
  case round =>
    clear HM0 HR0 HK0 HB0 HO0
    obtain ⟨wo, rfl⟩ : ∃ wo : World, wo = wr := ⟨_, rfl⟩
    obtain ⟨u, fuel, xs, tv, rfl, hul, hfu, hlin, hx8, hT, hK, hown, hnm, hty, hbr, hzr⟩ := hrel
    obtain ⟨A, cA, rfl, hrow⟩ := RowAt.own hown.out
    have Hrow := Lib.hid hrow
    have s0 : wo.cell? ⟨w.heap.size + 1, 0, none⟩ = some (.slice A xs.length cA) := by simpa using rangeAt_cell hT.out 0 rfl
    have s1 : wo.cell? ⟨w.heap.size + 1, 1, none⟩ = some (.map (some w.heap.size)) := by simpa using rangeAt_cell hT.out 1 rfl
    obtain ⟨fuel, rfl⟩ : ∃ f, fuel = f + 1 := ⟨fuel - 1, by omega⟩
    clear hrow
    by_cases hu : u = []
    · subst hu
      have Hlin := Lib.hid (show linesI (s.length + 1) s [] = some (ptysOf xs) by rw [hlin.out]; simp [linesI])
      have hgood := linesI_eq.1 Hlin.out
      have Htok := Lib.hid (show ∀ x ∈ xs, tyOk x.ty from fun x hx => hgood.1.1 x.ty (List.mem_map_of_mem (f := (·.ty)) hx))
      have HF2 := Lib.hid (show schemaL s = if kindsOk (ptysOf xs) ∧ (∀ t ∈ ptysOf xs, endsN (ptysOf xs) 9 t = true) then some (ptysOf xs) else none from by rw [HF.out, Hlin.out])
      have HSC := Lib.hid (show ISc wo (.pointer (some ⟨w.heap.size + 1, 0, none⟩)) xs from ⟨w.heap.size + 1, A, cA, w.heap.size, rfl, by omega, s0, s1, by have := Hrow.out; simpa using this, hnm.out, fun x hx => (hty.out.1 x hx).1, hty.out.2⟩)
      have Hrow2 := Lib.hid (show RowAt wo A xs.length (xs.map (·.ptr)) from Hrow.out)
      have HSL := Lib.hid (show ISL w.heap.size wo (.pointer (some ⟨w.heap.size + 1, 0, none⟩)) xs from ⟨w.heap.size + 1, A, cA, w.heap.size, rfl, by omega, s0, s1, Hrow2.out, hnm.out, fun x hx => (hty.out.1 x hx).1, hty.out.2, by omega, Nat.le_refl _, fun g o _ eA => by
        have := (hown.out.lt g (by rw [eA]; rfl)).1
        omega, fun x hx => ⟨by have := (hty.out.1 x hx).2.1.1; omega, fun k hn hk => by have := (hty.out.1 x hx).2.1.2 k hn hk; omega⟩⟩)
      clear hgood hlin hT hK hown hnm hty Hrow HF Hlin
      have S0 := Lib.hid s0
      go_wp2_with fail
      clear s0 s1
      go_loopw [84] (fun i wr => ∃ k : Nat, i = .int .i64 k ∧ k ≤ xs.length ∧ Hid (∀ x ∈ xs.take k, x.ty.sort ≠ 69 → ∀ f ∈ x.ty.fields, refOk (ptysOf xs) f.kind) ∧ Hid (Below wo.heap.size wo wr)) (fun i _ => xs.length - (intOf i).toNat)
      case atStart => exact ⟨0, rfl, Nat.zero_le _, by intro x hx; simp at hx, Below.refl _ _⟩
      case round =>
        obtain ⟨wp, rfl⟩ : ∃ wp : World, wp = wr := ⟨_, rfl⟩
        obtain ⟨k, rfl, hk, hin, hbp⟩ := hrel
        have k1 : (0 : Int) ≤ (k : Int) := by omega
        have hzp := hbp.out.size
        by_cases hkl : k < xs.length
        · have k2 : (k : Int) < (xs.length : Int) := by omega
          obtain ⟨bA, oA, rfl, hbA, cl⟩ := (Hrow2.out.below hbp.out).at_ hkl
          rw [List.getElem_map] at cl
          have Hts := Lib.hid (take_snoc xs k hkl)
          have Hmem := Lib.hid (List.getElem_mem hkl)
          generalize xs[k] = x at cl Hts Hmem
          unfold PT.ptr at cl
          have Hxt := Lib.hid (Htok.out x Hmem.out)
          obtain ⟨hyb, _, y0, y1, y2, y3, A7, c7, hyf, hl8, hrow7⟩ := (HSC.out.tys x Hmem.out).below hbp.out
          rw [hyf] at y2
          have Hrow7 := Lib.hid hrow7
          clear hrow7 hyf y1 y3
          go_wp2_with fail
          go_loopw [93] (fun i wr => ∃ j : Nat, i = .int .i64 j ∧ j ≤ x.ty.fields.length ∧ Hid (x.ty.sort ≠ 69 → ∀ f ∈ x.ty.fields.take j, refOk (ptysOf xs) f.kind) ∧ Hid (Below wp.heap.size wp wr)) (fun i _ => x.ty.fields.length - (intOf i).toNat)
          case atStart => exact ⟨0, rfl, Nat.zero_le _, by intro _ f hf; simp at hf, Below.refl _ _⟩
          case round =>
            obtain ⟨j, rfl, hj, hin2, hbq⟩ := hrel
            have j1 : (0 : Int) ≤ (j : Int) := by omega
            have hzq := hbq.out.size
            have x0 := (hbq.out.cell (p := ⟨x.blk, 0, none⟩) hyb).trans y0
            have hxw : x.blk < wr.heap.size := by omega
            have hxn : ¬ (x.blk = wr.heap.size) := by omega
            have Hbw := Lib.hid (show Below w.heap.size w wr from (hbr.out.trans (hbp.out.mono (by omega))).trans (hbq.out.mono (by omega)))
            have Hbo2 := Lib.hid (show Below wo.heap.size wo wr from hbp.out.trans (hbq.out.mono hzp))
            by_cases hjl : j < x.ty.fields.length
            · have j2 : (j : Int) < (x.ty.fields.length : Int) := by omega
              obtain ⟨b8, o8, rfl, hb8, hrg⟩ := IFds.range (Hrow7.out.below hbq.out) hjl
              have Hts2 := Lib.hid (take_snoc x.ty.fields j hjl)
              have Hfm := Lib.hid (List.getElem_mem hjl)
              have Hrg := Lib.hid (show wr.rangeAt b8 (o8 + j * 6) [.int .i64 (x.ty.fields[j].tag : Int), .string ⟨x.ty.fields[j].name.toArray⟩, .string ⟨x.ty.fields[j].kind.signs.toArray⟩, .string ⟨x.ty.fields[j].kind.base.toArray⟩, .string ⟨x.ty.fields[j].kind.name.toArray⟩, .string ⟨x.ty.fields[j].given.toArray⟩] from hrg)
              clear hrg
              generalize x.ty.fields[j] = f at Hts2 Hfm Hrg
              by_cases h69 : x.ty.sort = 69
              · have t69 : ((x.ty.sort.toNat : Int) != 69) = false := bne_byte_no (d := 69) h69
                have Hin2 := Lib.hid (show x.ty.sort ≠ 69 → ∀ f ∈ x.ty.fields.take (j + 1), refOk (ptysOf xs) f.kind from fun h => absurd h69 h)
                clear h69
                go_wp2_with ((with_reducible refine wpList_load_mid (op := ⟨_, .load 115 _, _, _, _, none⟩) rfl 115 _ rfl b8 (o8 + j * 6) ?_ _ _ Hrg.out Tryz.underlying115 ?_ ?_ ?_); rfl; rfl; kernel_rfl)
                go_roundw
                case rel => exact ⟨j + 1, by go_num, by omega, Hin2.out, hbq.out.alloc hzq _⟩
                case measure => simp [intOf]; omega
              · have t69 : ((x.ty.sort.toNat : Int) != 69) = true := bne_byte (d := 69) h69
                have Hkd := Lib.hid ((Hxt.out.2.2.1.1 f Hfm.out).2.2.2.2 h69).1
                have Hhas := Lib.hid (fun W (h : Below wo.heap.size wo W) => iHas_any _ xs f.kind W (HSC.out.below h).map (Nat.le_trans (name_short Hkd.out) (by decide)))
                unfold kdV at Hhas
                by_cases hrf : refOk (ptysOf xs) f.kind
                · have Hin2 := Lib.hid (show x.ty.sort ≠ 69 → ∀ f ∈ x.ty.fields.take (j + 1), refOk (ptysOf xs) f.kind from fun h g hg => by
                    rw [Hts2.out] at hg
                    rcases List.mem_append.1 hg with hg | hg
                    · exact hin2.out h g hg
                    · simp at hg; subst hg; exact hrf)
                  rw [decide_eq_true hrf] at Hhas
                  clear h69 hrf
                  go_wp2_with ((with_reducible refine wpList_load_mid (op := ⟨_, .load 115 _, _, _, _, none⟩) rfl 115 _ rfl b8 (o8 + j * 6) ?_ _ _ Hrg.out Tryz.underlying115 ?_ ?_ ?_); rfl; rfl; kernel_rfl)
                  refine (Hhas.out _ (Hbo2.out.alloc (by omega) _)).mono ?_
                  rintro e w9 ⟨rfl, hb9⟩
                  have Hb9 := Lib.hid (show Below wp.heap.size wp w9 from (hbq.out.alloc hzq _).trans (hb9.mono (by simp; omega)))
                  clear hb9
                  go_wp2_with fail
                  go_roundw
                  case rel => exact ⟨j + 1, by go_num, by omega, Hin2.out, Hb9.out⟩
                  case measure => simp [intOf]; omega
                · have Hend := Lib.hid (show schemaL s = none by
                    rw [HF2.out, if_neg]
                    rintro ⟨h, _⟩
                    exact hrf (h x.ty (List.mem_map_of_mem (f := (·.ty)) Hmem.out) h69 f Hfm.out))
                  rw [decide_eq_false hrf] at Hhas
                  clear h69 hrf
                  go_wp2_with ((with_reducible refine wpList_load_mid (op := ⟨_, .load 115 _, _, _, _, none⟩) rfl 115 _ rfl b8 (o8 + j * 6) ?_ _ _ Hrg.out Tryz.underlying115 ?_ ?_ ?_); rfl; rfl; kernel_rfl)
                  refine (Hhas.out _ (Hbo2.out.alloc (by omega) _)).mono ?_
                  rintro e w9 ⟨rfl, hb9⟩
                  have Hb9 := Lib.hid (show Below w.heap.size w w9 from (Hbw.out.alloc Hbw.out.size _).trans (hb9.mono (by simp; omega)))
                  clear hb9
                  go_wp2_with fail
                  go_ret2
                  exact IsPost.no Hend.out rfl Hb9.out
            · have j2 : ¬ (j : Int) < (x.ty.fields.length : Int) := by omega
              have Hin3 := Lib.hid (show ∀ y ∈ xs.take (k + 1), y.ty.sort ≠ 69 → ∀ f ∈ y.ty.fields, refOk (ptysOf xs) f.kind from fun y hy => by
                rw [Hts.out] at hy
                rcases List.mem_append.1 hy with hy | hy
                · exact hin.out y hy
                · simp at hy; subst hy
                  intro h f hf
                  exact hin2.out h f (by rw [List.take_of_length_le (by omega)]; exact hf))
              go_wp2_with fail
              go_roundw
              case rel => exact ⟨k + 1, by go_num, by omega, Hin3.out, Hbo2.out⟩
              case measure => simp [intOf]; omega
        · have k2 : ¬ (k : Int) < (xs.length : Int) := by omega
          have Hkinds := Lib.hid (show kindsOk (ptysOf xs) from fun t ht h f hf => by
            obtain ⟨x, hx, rfl⟩ := List.mem_map.1 ht
            exact hin.out x (by rw [List.take_of_length_le (by omega)]; exact hx) h f hf)
          have s9 := (hbp.out.cell (p := ⟨w.heap.size + 1, 0, none⟩) (show w.heap.size + 1 < wo.heap.size by omega)).trans S0.out
          have HSP := Lib.hid (HSC.out.below hbp.out)
          have HrowP := Lib.hid (Hrow2.out.below hbp.out)
          have HbP := Lib.hid (show Below w.heap.size w wp from hbr.out.trans (hbp.out.mono (by omega)))
          go_wp2_with fail
          clear s9
          go_loopw [116] (fun i wr => ∃ m : Nat, i = .int .i64 m ∧ m ≤ xs.length ∧ Hid (∀ x ∈ xs.take m, endsN (ptysOf xs) 9 x.ty = true) ∧ Hid (Below wp.heap.size wp wr)) (fun i _ => xs.length - (intOf i).toNat)
          case atStart => exact ⟨0, rfl, Nat.zero_le _, by intro x hx; simp at hx, Below.refl _ _⟩
          case round =>
            obtain ⟨m, rfl, hm, hin4, hbm⟩ := hrel
            have m1 : (0 : Int) ≤ (m : Int) := by omega
            have HbM := Lib.hid (show Below w.heap.size w wr from HbP.out.trans (hbm.out.mono HbP.out.size))
            by_cases hml : m < xs.length
            · have m2 : (m : Int) < (xs.length : Int) := by omega
              obtain ⟨bA, oA, rfl, hbA, cl⟩ := (HrowP.out.below hbm.out).at_ hml
              rw [List.getElem_map] at cl
              have Hts := Lib.hid (take_snoc xs m hml)
              have Hmem := Lib.hid (List.getElem_mem hml)
              generalize xs[m] = x at cl Hts Hmem
              have Hends := Lib.hid (iEnds_any _ xs x wr (HSP.out.below hbm.out).map (HSP.out.below hbm.out).tys Htok.out Hkinds.out Hmem.out)
              unfold PT.ptr at cl Hends
              cases hee : endsN (ptysOf xs) 9 x.ty with
              | true =>
                rw [hee] at Hends
                have Hin5 := Lib.hid (show ∀ y ∈ xs.take (m + 1), endsN (ptysOf xs) 9 y.ty = true from fun y hy => by
                  rw [Hts.out] at hy
                  rcases List.mem_append.1 hy with hy | hy
                  · exact hin4.out y hy
                  · simp at hy; subst hy; exact hee)
                clear hee
                go_wp2_with fail
                refine Hends.out.mono ?_
                rintro e w9 ⟨rfl, hb9⟩
                have Hb9 := Lib.hid (hbm.out.trans (hb9.mono hbm.out.size))
                clear hb9
                go_wp2_with fail
                go_roundw
                case rel => exact ⟨m + 1, by go_num, by omega, Hin5.out, Hb9.out⟩
                case measure => simp [intOf]; omega
              | false =>
                rw [hee] at Hends
                have Hend := Lib.hid (show schemaL s = none by
                  rw [HF2.out, if_neg]
                  rintro ⟨_, h⟩
                  have := h x.ty (List.mem_map_of_mem (f := (·.ty)) Hmem.out)
                  rw [hee] at this; cases this)
                clear hee
                go_wp2_with fail
                refine Hends.out.mono ?_
                rintro e w9 ⟨rfl, hb9⟩
                have Hb9 := Lib.hid (HbM.out.trans (hb9.mono HbM.out.size))
                clear hb9
                go_wp2_with fail
                go_ret2
                exact IsPost.no Hend.out rfl Hb9.out
            · have m2 : ¬ (m : Int) < (xs.length : Int) := by omega
              have Hfin := Lib.hid (show schemaL s = some (ptysOf xs) by
                rw [HF2.out, if_pos]
                refine ⟨Hkinds.out, fun t ht => ?_⟩
                obtain ⟨x, hx, rfl⟩ := List.mem_map.1 ht
                exact hin4.out x (by rw [List.take_of_length_le (by omega)]; exact hx))
              go_wp2_with fail
              go_ret2
              exact IsPost.yes Hfin.out rfl ((HSL.out.below hbp.out).below hbm.out) HbM.out
    · have hu1 : u.isEmpty = false := by simpa using hu
      have hu2 : (!u.isEmpty) = true := by simpa using hu
      have hu3 : (u == []) = false := by simpa using hu
      have hu4 : (u != []) = true := by simpa using hu
      have Hlin := Lib.hid (show linesI (s.length + 1) s [] = (if (cutL 10 u).2.2 = false ∨ (ptysOf xs).length = 8 then none else match typeI (cutL 10 u).1 with
        | none => none
        | some t => if (ptysOf xs).any (fun v => decide (v.name = t.name)) = true then none else linesI fuel (cutL 10 u).2.1 (ptysOf xs ++ [t])) by rw [hlin.out, linesI, if_neg hu]; rfl)
      have Hcut := Lib.hid (fun W => Cut_any u 10 W (by omega))
      have hcl := cutL_len 10 u
      have hsh : (cutL 10 u).2.2 = true → (cutL 10 u).2.1.length < u.length := fun h => by
        rcases cutL_cases 10 u with ⟨_, e⟩ | ⟨p, t, e1, _, e⟩
        · rw [e] at h; cases h
        · rw [e]; show t.length < u.length; rw [e1]; simp; omega
      have Hsh := Lib.hid hsh
      generalize cutL 10 u = q at *
      obtain ⟨ln, rest, told⟩ := q
      simp only at hcl Hlin Hsh
      have hcl1 := hcl.1
      have hcl2 := hcl.2
      clear hcl hu hlin hsh
      go_wp2_with fail
      refine (Hcut.out _).mono ?_
      rintro e w1 ⟨rfl, k1, rfl⟩
      unfold cutV
      cases told with
      | false =>
        have Hend := Lib.hid (show schemaL s = none by rw [HF.out, Hlin.out]; simp)
        go_wp2_with fail
        go_ret2
        exact IsPost.no Hend.out rfl (below_drewN hbr.out _)
      | true =>
        have hrl := Hsh.out (by simp)
        rcases Nat.eq_or_lt_of_le hx8 with h8 | h8
        · have q1 : ((xs.length : Int) == 8) = true := by simp [h8]
          have Hend := Lib.hid (show schemaL s = none by rw [HF.out, Hlin.out]; simp [ptysOf, h8])
          clear h8
          go_wp2_with fail
          go_ret2
          exact IsPost.no Hend.out rfl (below_drewN hbr.out _)
        · have q1 : ((xs.length : Int) == 8) = false := by rw [beq_eq_false_iff_ne]; omega
          have Hlin2 := Lib.hid (show linesI (s.length + 1) s [] = (match typeI ln with
            | none => none
            | some t => if (ptysOf xs).any (fun v => decide (v.name = t.name)) = true then none else linesI fuel rest (ptysOf xs ++ [t])) by rw [Hlin.out, if_neg (by simp [ptysOf]; omega)])
          have Htype := Lib.hid (fun W => readType_any ln W (by omega))
          have Htok := Lib.hid (fun t (h : typeI ln = some t) => (typeI_some.1 h).1)
          clear Hlin
          generalize typeI ln = ot at Hlin2 Htype Htok
          go_wp2_with fail
          refine (Htype.out _).mono ?_
          rintro e w2 ⟨hcase, hb2⟩
          have hbo : Below wo.heap.size wo w2 := (below_drewN (Below.refl _ _) k1).trans (by simpa using hb2)
          have Hbo := Lib.hid hbo
          cases ot with
          | none =>
            obtain ⟨pp, rfl⟩ := hcase
            have Hend := Lib.hid (show schemaL s = none by rw [HF.out, Hlin2.out])
            go_wp2_with fail
            refine wp_region_slots3 [45, 46, 47, 48, 49, 50, 51, 52, 53, 54, 55, 56, 57, 58] (by kernel_rfl) (by kernel_rfl) (by kernel_rfl) (fun u => by dsimp only [frameOf, setMany, List.set, Nat.zero_add, Nat.reduceAdd])
              (fun i v W => match i with | 0 => v = .bool false | 1 => v = .bool true | 2 => v = .bool true | 13 => v = .bool true | _ => True) (fun L U W => ∃ q, W = (w2).drewN q) (fun _ _ => True) (fun _ _ _ _ _ h => h) ⟨1, rfl⟩ ?_ ?_
            · repeat (first | exact Steps.nil | (refine Steps.cons ?_ ?_; rotate_left))
              all_goals
                rintro L U W hL hpre ⟨q, rfl⟩ hun hdep K hK
                clear hun hdep
                first | (simp [Region.binds] at hpre; done) | simp [Region.binds] at hpre | clear hpre
                go_simp
                first | exact hK _ _ _ rfl trivial ⟨q, rfl⟩ rfl | exact hK _ _ _ rfl trivial ⟨q, rfl⟩ (by simp [Act.put, hpre]) | exact hK undef _ _ trivial trivial ⟨q, rfl⟩ (by simp [Act.put, hpre]) | exact hK _ _ _ trivial trivial ⟨q, rfl⟩ rfl | exact hK _ _ _ trivial trivial ⟨q, rfl⟩ (by simp [Act.put, hpre])
            · rintro L U W hL hφ ⟨q, rfl⟩
              have e13 : U 13 = .bool true := hφ 13 (by decide)
              simp only [e13]
              clear hφ hL
              go_wp2_with fail
              go_ret2
              exact IsPost.no Hend.out rfl (below_drewN (hbr.out.trans (Hbo.out.mono (by omega))) _)
          | some t =>
            obtain ⟨x, hxt, rfl, hxb, hxty, hxf⟩ := hcase
            subst hxt
            have hxb2 : wo.heap.size ≤ x.blk := by simpa using hxb
            have hxz : x.blk < w2.heap.size := hxty.1
            have y1 : w2.cell? ⟨x.blk, 1, none⟩ = some (.string ⟨x.ty.name.toArray⟩) := hxty.2.2.2.1
            have u0 := (hbo.cell (p := ⟨w.heap.size + 1, 0, none⟩) (show w.heap.size + 1 < wo.heap.size by omega)).trans s0
            have u1 := (hbo.cell (p := ⟨w.heap.size + 1, 1, none⟩) (show w.heap.size + 1 < wo.heap.size by omega)).trans s1
            have Hnm2 := Lib.hid (FMap.below hnm.out hbo)
            have Hxty := Lib.hid hxty
            have Hxf := Lib.hid hxf
            have Htk := Lib.hid (Htok.out x.ty rfl)
            have hnl : x.ty.name.length ≤ 3 := (nameOk_iff.1 Htk.out.2.1).2.1
            have hlook : ∀ q, (Instr.lookup 174 (.map (some w.heap.size)) (.string ⟨x.ty.name.toArray⟩) false).run Tryz.prog (w2.drewN q) = .ok (ptrP (findP xs x.ty.name)) (w2.drewN q) := fun q => named_look (FMap.below Hnm2.out (below_drewN (Below.refl _ _) q)) x.ty.name (by omega)
            have hz2 : wo.heap.size ≤ w2.heap.size := hbo.size
            clear hbo s0 s1 hxty hxf
            unfold PT.ptr
            cases hfp : findP xs x.ty.name with
            | some z =>
              have Hend := Lib.hid (show schemaL s = none by
                rw [HF.out, Hlin2.out]
                have : (ptysOf xs).any (fun v => decide (v.name = x.ty.name)) = true := by
                  cases hh : (ptysOf xs).any (fun v => decide (v.name = x.ty.name)) with
                  | true => rfl
                  | false => rw [findP_none.2 hh] at hfp; cases hfp
                simp [this])
              rw [hfp] at hlook
              unfold ptrP PT.ptr at hlook
              clear hfp
              go_wp2_with fail
              refine wp_region_slots3 [45, 46, 47, 48, 49, 50, 51, 52, 53, 54, 55, 56, 57, 58] (by kernel_rfl) (by kernel_rfl) (by kernel_rfl) (fun u => by dsimp only [frameOf, setMany, List.set, Nat.zero_add, Nat.reduceAdd])
                (fun i v W => match i with | 0 => v = .bool true | 1 => v = .bool false | 2 => v = .bool false | 3 => v = .pointer (some ⟨w.heap.size + 1, 0, none⟩) | 4 => v = .pointer (some ⟨w.heap.size + 1, 0, none⟩) | 5 => v = .pointer (some ⟨w.heap.size + 1, 1, none⟩) | 6 => v = .map (some w.heap.size) | 7 => v = .pointer (some ⟨x.blk, 0, none⟩) | 8 => v = .pointer (some ⟨x.blk, 0, none⟩) | 9 => v = .pointer (some ⟨x.blk, 1, none⟩) | 10 => v = .string ⟨x.ty.name.toArray⟩ | 11 => v = .pointer (some ⟨z.blk, 0, none⟩) | 12 => v = .bool true | 13 => v = .bool true | _ => True) (fun L U W => ∃ q, W = (w2).drewN q) (fun _ _ => True) (fun _ _ _ _ _ h => h) ⟨1, rfl⟩ ?_ ?_
              · repeat (first | exact Steps.nil | (refine Steps.cons ?_ ?_; rotate_left))
                all_goals
                  rintro L U W hL hpre ⟨q, rfl⟩ hun hdep K hK
                  have hlq := hlook q
                  clear hun hdep
                  first | (simp [Region.binds] at hpre; done) | simp [Region.binds] at hpre | clear hpre
                  go_simp
                  first | exact hK _ _ _ rfl trivial ⟨q, rfl⟩ rfl | exact hK _ _ _ rfl trivial ⟨q, rfl⟩ (by simp [Act.put, hpre]) | exact hK undef _ _ trivial trivial ⟨q, rfl⟩ (by simp [Act.put, hpre]) | exact hK _ _ _ trivial trivial ⟨q, rfl⟩ rfl | exact hK _ _ _ trivial trivial ⟨q, rfl⟩ (by simp [Act.put, hpre])
              · rintro L U W hL hφ ⟨q, rfl⟩
                have e13 : U 13 = .bool true := hφ 13 (by decide)
                simp only [e13]
                clear hφ hL
                go_wp2_with fail
                go_ret2
                exact IsPost.no Hend.out rfl (below_drewN (hbr.out.trans (Hbo.out.mono (by omega))) _)
            | none =>
              have Hany := Lib.hid (findP_none.1 hfp)
              have Hfp := Lib.hid hfp
              rw [hfp] at hlook
              unfold ptrP at hlook
              clear hfp
              have Hlin3 := Lib.hid (show linesI (s.length + 1) s [] = linesI fuel rest (ptysOf (xs ++ [x])) by
                rw [Hlin2.out]
                show (if _ then _ else _) = _
                rw [if_neg (by rw [Hany.out]; decide)]; simp [ptysOf])
              go_wp2_with fail
              refine wp_region_slots3 [45, 46, 47, 48, 49, 50, 51, 52, 53, 54, 55, 56, 57, 58] (by kernel_rfl) (by kernel_rfl) (by kernel_rfl) (fun u => by dsimp only [frameOf, setMany, List.set, Nat.zero_add, Nat.reduceAdd])
                (fun i v W => match i with | 0 => v = .bool true | 1 => v = .bool false | 2 => v = .bool false | 3 => v = .pointer (some ⟨w.heap.size + 1, 0, none⟩) | 4 => v = .pointer (some ⟨w.heap.size + 1, 0, none⟩) | 5 => v = .pointer (some ⟨w.heap.size + 1, 1, none⟩) | 6 => v = .map (some w.heap.size) | 7 => v = .pointer (some ⟨x.blk, 0, none⟩) | 8 => v = .pointer (some ⟨x.blk, 0, none⟩) | 9 => v = .pointer (some ⟨x.blk, 1, none⟩) | 10 => v = .string ⟨x.ty.name.toArray⟩ | 11 => v = .pointer none | 12 => v = .bool false | 13 => v = .bool false | _ => True) (fun L U W => ∃ q, W = (w2).drewN q) (fun _ _ => True) (fun _ _ _ _ _ h => h) ⟨1, rfl⟩ ?_ ?_
              · repeat (first | exact Steps.nil | (refine Steps.cons ?_ ?_; rotate_left))
                all_goals
                  rintro L U W hL hpre ⟨q, rfl⟩ hun hdep K hK
                  have hlq := hlook q
                  clear hun hdep
                  first | (simp [Region.binds] at hpre; done) | simp [Region.binds] at hpre | clear hpre
                  go_simp
                  first | exact hK _ _ _ rfl trivial ⟨q, rfl⟩ rfl | exact hK _ _ _ rfl trivial ⟨q, rfl⟩ (by simp [Act.put, hpre]) | exact hK undef _ _ trivial trivial ⟨q, rfl⟩ (by simp [Act.put, hpre]) | exact hK _ _ _ trivial trivial ⟨q, rfl⟩ rfl | exact hK _ _ _ trivial trivial ⟨q, rfl⟩ (by simp [Act.put, hpre])
              · rintro L U W hL hφ ⟨q, rfl⟩
                have e13 : U 13 = .bool false := hφ 13 (by decide)
                simp only [e13]
                clear hφ hL
                obtain ⟨w3, hw3⟩ : ∃ w3, w3 = w2.drewN q := ⟨_, rfl⟩
                rw [← hw3]
                have hb3 : Below wo.heap.size wo w3 := by rw [hw3]; exact below_drewN Hbo.out _
                have hb23 : Below w2.heap.size w2 w3 := by rw [hw3]; exact below_drewN (Below.refl _ _) _
                have Hx3 := Lib.hid (Hxty.out.below hb23)
                have hown3 := ownsRow_below hown.out hb3
                have hT3 := rangeAt_below hT.out (show w.heap.size + 1 < wo.heap.size by omega) hb3
                have hK3 := there_below hK.out (show w.heap.size + 1 < wo.heap.size by omega) hb3
                have hz3 : wo.heap.size ≤ w3.heap.size := hb3.size
                have v0 : w3.cell? ⟨w.heap.size + 1, 0, none⟩ = some (.slice A xs.length cA) := by simpa using rangeAt_cell hT3 0 rfl
                have Hb3 := Lib.hid hb3
                have Hown3 := Lib.hid hown3
                have HT3 := Lib.hid hT3
                have HK3 := Lib.hid hK3
                have Hnm3 := Lib.hid (FMap.below Hnm2.out hb23)
                have Hb23 := Lib.hid hb23
                clear hlook hb3 hown3 hT3 hK3 hw3 hb23 u0 u1 y1
                go_wp2_with (at_builtin; refine wpList_app1W _ rfl _ _ 173 rfl (w.heap.size + 2) 108 (.pointer none) 8 Tryz.underlying173 Tryz.infoPt rfl w3 (.pointer (some ⟨x.blk, 0, none⟩)) rfl rfl (.slice A xs.length cA) xs.length (xs.map (·.ptr)) rfl rfl Hown3.out (by unfold maxLen; omega) (by omega) (by omega) ?_; intro v5 w5 hown5 hg5 hwh; have hb5 : Below (w.heap.size + 2) w3 w5 := (Below.refl _ _).grown hg5 (by omega) (fun k hk => (Hown3.out.lt k hk).1); have HT5 := Lib.hid (rangeAt_below HT3.out (show w.heap.size + 1 < w.heap.size + 2 by omega) hb5); have HK5 := Lib.hid (there_below HK3.out (show w.heap.size + 1 < w.heap.size + 2 by omega) hb5); have Hnm5 := Lib.hid (FMap.belowAt Hnm3.out (show w.heap.size < w.heap.size + 2 by omega) hb5); have Hty5 := Lib.hid (ITys.push hty.out Hb3.out hown.out Hx3.out hxb2 (fun k hk => (by have := Hxf.out k hk; simpa using this)) (by omega) hg5 hwh); obtain ⟨A5, n5, c5, e5⟩ := own_slice hown5; subst e5; have Hown5 := Lib.hid hown5; have Hb5 := Lib.hid hb5; have p0 : w5.cell? ⟨w.heap.size + 1, 0, none⟩ = some (.slice A xs.length cA) := (by simpa using rangeAt_cell HT5.out 0 rfl); have f0 : w5.frozen? ⟨w.heap.size + 1, 0, none⟩ = false := (by simpa using (HK5.out 0 (by decide)).2); have hz5 : w3.heap.size ≤ w5.heap.size := hg5.size; clear hown5 hg5 hwh hb5 v0)
                obtain ⟨w6, hw6⟩ : ∃ w6, w6 = w5.setCell ⟨w.heap.size + 1, 0, none⟩ (.slice A5 n5 c5) := ⟨_, rfl⟩
                rw [← hw6]
                have hg6 : w5.grownBy w6 (some (w.heap.size + 1)) := by rw [hw6]; exact grown_set _ _ _
                have hT6 : w6.rangeAt (w.heap.size + 1) 0 [.slice A5 n5 c5, .map (some w.heap.size)] := by rw [hw6]; exact rangeAt_setCells_in [] [.slice A xs.length cA] [.map (some w.heap.size)] [.slice A5 n5 c5] HT5.out rfl
                have hK6 : w6.there (w.heap.size + 1) 0 2 := by rw [hw6]; exact World.there_setCells HK5.out (w.heap.size + 1) 0 [.slice A5 n5 c5]
                have Hown6 := Lib.hid (Hown5.out.kept hg6 (.inr (fun e => by have := (Hown5.out.lt _ e).1; omega)))
                have Hnm6 := Lib.hid (FMap.kept Hnm5.out hg6 (by simp))
                have Hty6 := Lib.hid (Hty5.out.far hg6 (by omega))
                have Hb6 := Lib.hid (show Below w.heap.size w w6 from ((hbr.out.trans (Hb3.out.mono (by omega))).trans (Hb5.out.mono (by omega))).trans (by rw [hw6]; exact (Below.refl _ _).setCell (by simp) _))
                have hz6 : w.heap.size + 2 ≤ w6.heap.size := Nat.le_trans (by omega) hg6.size
                have m1 : w6.cell? ⟨w.heap.size + 1, 1, none⟩ = some (.map (some w.heap.size)) := by simpa using rangeAt_cell hT6 1 rfl
                have n1 : w6.cell? ⟨x.blk, 1, none⟩ = some (.string ⟨x.ty.name.toArray⟩) := (Hty6.out.1 x (by simp)).1.2.2.2.1
                have HT6 := Lib.hid hT6
                have HK6 := Lib.hid hK6
                clear hw6 hg6 hT6 hK6 p0 f0
                refine wp_region_slots3 [69, 70, 71, 72, 73, 74, 75, 76, 77, 999] (by kernel_rfl) (by kernel_rfl) (by kernel_rfl) (fun u => by dsimp only [frameOf, setMany, List.set, Nat.zero_add, Nat.reduceAdd])
                  (fun i v W => match i with | 0 => v = .pointer (some ⟨w.heap.size + 1, 0, none⟩) | 1 => v = .pointer (some ⟨w.heap.size + 1, 0, none⟩) | 2 => v = .pointer (some ⟨w.heap.size + 1, 1, none⟩) | 3 => v = .map (some w.heap.size) | 4 => v = .pointer (some ⟨x.blk, 0, none⟩) | 5 => v = .pointer (some ⟨x.blk, 0, none⟩) | 6 => v = .pointer (some ⟨x.blk, 1, none⟩) | 7 => v = .string ⟨x.ty.name.toArray⟩ | 8 => v = .pointer (some ⟨x.blk, 0, none⟩) | _ => True) (fun L U W => ∃ q, (L 9 = false → W = w6.drewN q) ∧ (L 9 = true → (w6.drewN q).grownBy W (some w.heap.size) ∧ INamed W w.heap.size (xs ++ [x]))) (fun _ _ => True) (fun _ _ _ _ _ h => h) ⟨1, fun _ => rfl, by simp⟩ ?_ ?_
                · repeat (first | exact Steps.nil | (refine Steps.cons ?_ ?_; rotate_left))
                  all_goals
                    rintro L U W hL hpre ⟨q, hq1, hq2⟩ hun hdep K hK
                    have Hdep := Lib.hid hdep
                    have Hq2 := Lib.hid hq2
                    clear hun hdep hq2
                    first | (simp [Region.binds] at hpre; done) | simp [Region.binds] at hpre | clear hpre
                  · obtain rfl := hq1 (Hdep.out 9 _ rfl { on := 3, ground := Ground.data } (by simp) (by rfl) (Hdep.out 3 _ rfl { on := 2, ground := Ground.data } (by simp) (by rfl) (Hdep.out 2 _ rfl { on := 1, ground := Ground.data } (by simp) (by rfl) (Hdep.out 1 _ rfl { on := 0, ground := Ground.data } (by simp) (by rfl) hL))))
                    go_simp
                    first | exact hK _ _ _ rfl trivial ⟨q, fun _ => rfl, Hq2.out⟩ rfl | exact hK _ _ _ rfl trivial ⟨q, fun _ => rfl, Hq2.out⟩ (by simp [Act.put, hpre])
                  · obtain rfl := hq1 (Hdep.out 9 _ rfl { on := 3, ground := Ground.data } (by simp) (by rfl) (Hdep.out 3 _ rfl { on := 2, ground := Ground.data } (by simp) (by rfl) (Hdep.out 2 _ rfl { on := 1, ground := Ground.data } (by simp) (by rfl) hL)))
                    go_simp
                    first | exact hK _ _ _ rfl trivial ⟨q, fun _ => rfl, Hq2.out⟩ rfl | exact hK _ _ _ rfl trivial ⟨q, fun _ => rfl, Hq2.out⟩ (by simp [Act.put, hpre])
                  · obtain rfl := hq1 (Hdep.out 9 _ rfl { on := 3, ground := Ground.data } (by simp) (by rfl) (Hdep.out 3 _ rfl { on := 2, ground := Ground.data } (by simp) (by rfl) hL))
                    go_simp
                    first | exact hK _ _ _ rfl trivial ⟨q, fun _ => rfl, Hq2.out⟩ rfl | exact hK _ _ _ rfl trivial ⟨q, fun _ => rfl, Hq2.out⟩ (by simp [Act.put, hpre])
                  · obtain rfl := hq1 (Hdep.out 9 _ rfl { on := 3, ground := Ground.data } (by simp) (by rfl) hL)
                    go_simp
                    first | exact hK _ _ _ rfl trivial ⟨q, fun _ => rfl, Hq2.out⟩ rfl | exact hK _ _ _ rfl trivial ⟨q, fun _ => rfl, Hq2.out⟩ (by simp [Act.put, hpre])
                  · obtain rfl := hq1 (Hdep.out 9 _ rfl { on := 7, ground := Ground.data } (by simp) (by rfl) (Hdep.out 7 _ rfl { on := 6, ground := Ground.data } (by simp) (by rfl) (Hdep.out 6 _ rfl { on := 5, ground := Ground.data } (by simp) (by rfl) (Hdep.out 5 _ rfl { on := 4, ground := Ground.data } (by simp) (by rfl) hL))))
                    go_simp
                    first | exact hK _ _ _ rfl trivial ⟨q, fun _ => rfl, Hq2.out⟩ rfl | exact hK _ _ _ rfl trivial ⟨q, fun _ => rfl, Hq2.out⟩ (by simp [Act.put, hpre])
                  · obtain rfl := hq1 (Hdep.out 9 _ rfl { on := 7, ground := Ground.data } (by simp) (by rfl) (Hdep.out 7 _ rfl { on := 6, ground := Ground.data } (by simp) (by rfl) (Hdep.out 6 _ rfl { on := 5, ground := Ground.data } (by simp) (by rfl) hL)))
                    go_simp
                    first | exact hK _ _ _ rfl trivial ⟨q, fun _ => rfl, Hq2.out⟩ rfl | exact hK _ _ _ rfl trivial ⟨q, fun _ => rfl, Hq2.out⟩ (by simp [Act.put, hpre])
                  · obtain rfl := hq1 (Hdep.out 9 _ rfl { on := 7, ground := Ground.data } (by simp) (by rfl) (Hdep.out 7 _ rfl { on := 6, ground := Ground.data } (by simp) (by rfl) hL))
                    go_simp
                    first | exact hK _ _ _ rfl trivial ⟨q, fun _ => rfl, Hq2.out⟩ rfl | exact hK _ _ _ rfl trivial ⟨q, fun _ => rfl, Hq2.out⟩ (by simp [Act.put, hpre])
                  · obtain rfl := hq1 (Hdep.out 9 _ rfl { on := 7, ground := Ground.data } (by simp) (by rfl) hL)
                    go_simp
                    first | exact hK _ _ _ rfl trivial ⟨q, fun _ => rfl, Hq2.out⟩ rfl | exact hK _ _ _ rfl trivial ⟨q, fun _ => rfl, Hq2.out⟩ (by simp [Act.put, hpre])
                  · obtain rfl := hq1 (Hdep.out 9 _ rfl { on := 8, ground := Ground.data } (by simp) (by rfl) hL)
                    go_simp
                    first | exact hK _ _ _ rfl trivial ⟨q, fun _ => rfl, Hq2.out⟩ rfl | exact hK _ _ _ rfl trivial ⟨q, fun _ => rfl, Hq2.out⟩ (by simp [Act.put, hpre])
                  · obtain rfl := hq1 hL
                    obtain ⟨w7, hrun, r1, r2⟩ := FMap.store (FMap.below Hnm6.out (below_drewN (Below.refl _ _) q)) Tryz.keyStr Tryz.underlying174 (by unfold maxLen; omega) (.pointer (some ⟨x.blk, 0, none⟩)) (keyName (n := x.ty.name) (by omega))
                    have hn7 : INamed w7 w.heap.size (xs ++ [x]) := by
                      unfold INamed
                      rw [List.length_append]
                      exact r1.of_eq (fun l hl => namedF_snoc Hfp.out l hl)
                    have R2 := Lib.hid r2
                    have Hn7 := Lib.hid hn7
                    clear r1 r2 hn7
                    go_simp
                    exact hK undef _ _ trivial trivial ⟨q, fun h => by simp at h, fun _ => ⟨R2.out, Hn7.out⟩⟩ (by simp [Act.put, hpre])
                · rintro L U W hL hφ ⟨q, _, hq2⟩
                  obtain ⟨hg7, hn7⟩ := hq2 (hL 9 (by decide))
                  have hzq : w6.heap.size ≤ W.heap.size := by have := hg7.size; simpa using this
                  have hb7 : Below w.heap.size w W := (below_drewN Hb6.out q).grown hg7 (by simp; omega) (fun k hk => by injection hk with hk; omega)
                  have HT7 := Lib.hid (rangeAt_grown (rangeAt_below HT6.out (show w.heap.size + 1 < w6.heap.size by omega) (below_drewN (Below.refl _ _) q)) hg7 (by simp))
                  have HK7 := Lib.hid (there_grown (there_below HK6.out (show w.heap.size + 1 < w6.heap.size by omega) (below_drewN (Below.refl _ _) q)) hg7 (by simp; omega) (by simp))
                  have Hown7 := Lib.hid ((ownsRow_below Hown6.out (below_drewN (Below.refl _ _) q)).kept hg7 (.inr (fun e => by have := (Hown6.out.lt _ e).1; omega)))
                  have Hty7 := Lib.hid ((Hty6.out.below (below_drewN (Below.refl _ _) q)).far hg7 (by omega))
                  have Hn7 := Lib.hid hn7
                  have Hb7 := Lib.hid hb7
                  clear hL hφ hq2 hg7 hn7 hb7 m1 n1
                  go_wp2_with fail
                  go_roundw
                  case rel => exact ⟨rest, fuel, xs ++ [x], .slice A5 n5 c5, rfl, by omega, by omega, Hlin3.out, by simp; omega, HT7.out, HK7.out, by rw [List.length_append, List.map_append]; exact Hown7.out, Hn7.out, Hty7.out, Hb7.out, by omega⟩
                  case measure => rw [strLen_mk, strLen_mk]; omega

theorem readSchema_any (s : List UInt8) (w : World) (hs : s.length ≤ 4000000) :
    Calls Tryz.prog 79 #[.string ⟨s.toArray⟩] w (IsPost (schemaL s) w) := by
  by_cases h : 400 < s.length
  · exact iSchema_long s w hs h
  · exact iSchema_go s w (by omega)
end Go.Proofs.YtcjfgbcdlcdeaaaGreatDoor
/- both of the program: a schema and a kind of it. -/
namespace Go.Proofs.YtcjfgbcdlcdeaaaGreatDoor
open Go.RowKit
set_option maxRecDepth 100000
set_option linter.unusedVariables false
set_option linter.unusedSimpArgs false
attribute [local go_sem] ba_get ba_toList ba_extract take_drop_all ByteArray.mk_append_mk

theorem grown_setCells (b : Nat) : ∀ (vs : List Value) (o : Nat) (w : World), w.grownBy (w.setCells b o vs) (some b)
  | [], _, w => World.grownBy.refl _ _
  | v :: r, o, w => (grown_set w ⟨b, o, none⟩ v).trans (grown_setCells b r (o + 1) _)
/-- What reading a schema and a kind leaves. -/
def IbPost (o : Option (List Ty × Kd)) (w : World) (e : Ending) (w' : World) : Prop :=
  (match o with
    | some x => ∃ p xs, ptysOf xs = x.1 ∧ e = .returned (.tuple #[p, kdV x.2, .bool true]) ∧ ISL w.heap.size w' p xs
    | none => ∃ (p : Option Addr) (a b c : ByteArray), e = .returned (.tuple #[.pointer p, .agg #[.string a, .string b, .string c], .bool false])) ∧ Below w.heap.size w w'
theorem IbPost.no {w w' : World} {e : Ending} {o : Option (List Ty × Kd)} (ho : o = none) {p : Option Addr} {a b c : ByteArray} (he : e = .returned (.tuple #[.pointer p, .agg #[.string a, .string b, .string c], .bool false])) (hb : Below w.heap.size w w') : IbPost o w e w' := by
  rw [ho]; exact ⟨⟨p, a, b, c, he⟩, hb⟩

set_option maxHeartbeats 2000000 in
theorem iBoth_any (s d : List UInt8) (w : World) (hs : s.length ≤ 4000000) (hd : d.length ≤ 4000000) :
    Calls Tryz.prog 56 #[.string ⟨s.toArray⟩, .string ⟨d.toArray⟩] w (IbPost (bothL s d) w) := by
  have Hrs := Lib.hid (fun W => readSchema_any s W hs)
  have Hrk := Lib.hid (fun W => readKind_any d W hd)
  have HF := Lib.hid (show bothL s d = (match schemaL s with | none => none | some S => match kindL d with | none => none | some k => if refOk S k then some (S, k) else none) from rfl)
  have Hkok := Lib.hid (fun k (h : kindL d = some k) => (kindL_some.1 h).1)
  generalize schemaL s = oS at HF Hrs
  generalize kindL d = oK at HF Hrk Hkok
  go_enter Tryz.func56, Tryz.ntmps56
  go_wp2_with fail
  refine (Hrs.out _).mono ?_
  rintro e w1 ⟨hcase, hb1⟩
  have hz1 : w.heap.size < w1.heap.size := by have := hb1.size; simp at this; omega
  have HT1 := Lib.hid (show w1.there w.heap.size 0 3 from there_below (there_new w [.string ⟨#[]⟩, .string ⟨#[]⟩, .string ⟨#[]⟩] 83) (by simp) hb1)
  have Hb1 := Lib.hid (show Below w.heap.size w w1 from ((Below.refl _ _).alloc (Nat.le_refl _) _).trans (hb1.mono (by simp)))
  clear hb1
  cases oS with
  | none =>
    obtain ⟨p, rfl⟩ := hcase
    go_wp2_with ((with_reducible refine wpList_store_hid (op := ⟨none, .store 83 _ _, _, _, _, none⟩) rfl 83 _ _ rfl w.heap.size 0 [.string ⟨#[]⟩, .string ⟨#[]⟩, .string ⟨#[]⟩] ?_ ?_ ?_ ?_ ?_ ?_); rfl; rfl; (exact HT1.out); kernel_rfl; (simp [Value.oneCell']); intro w9 HS9)
    have HZ := Lib.hid (show w9.rangeAt w.heap.size 0 [.string ⟨#[]⟩, .string ⟨#[]⟩, .string ⟨#[]⟩] from by rw [HS9.out]; exact World.rangeAt_setCells_same _ _ _ _ HT1.out)
    refine bodyPost_ret (v := .tuple #[.pointer none, .agg ([.string ⟨#[]⟩, .string ⟨#[]⟩, .string ⟨#[]⟩] : List Value).toArray, .bool false]) ?_ rfl ?_
    · exact results_tmp_cell_tmp Tryz.results56 _ _ w.heap.size [.string ⟨#[]⟩, .string ⟨#[]⟩, .string ⟨#[]⟩] _ _ _ rfl rfl rfl HZ.out Tryz.underlying83 rfl (by kernel_rfl)
    · exact IbPost.no HF.out rfl (by rw [HS9.out]; exact below_setCells _ (Nat.le_refl _) _ _ _ Hb1.out)
  | some S =>
    obtain ⟨p, xs, hxs, rfl, hsl⟩ := hcase
    subst hxs
    have Hsl := Lib.hid (show ISL (w.heap.size + 1) w1 p xs from by simpa using hsl)
    obtain ⟨pb, _, _, _, hp, _⟩ := hsl
    subst hp
    go_wp2_with fail
    refine (Hrk.out _).mono ?_
    rintro e w2 ⟨hcase, hb2⟩
    cases oK with
    | none =>
      obtain ⟨a1, a2, a3, rfl⟩ := hcase
      have hz4 : w2.heap.size < (w2.alloc (.cells #[.string a1, .string a2, .string a3] 83)).heap.size := by simp
      have hz2 : w.heap.size < w2.heap.size := by have := hb2.size; omega
      have HT4 := Lib.hid (show (w2.alloc (.cells #[.string a1, .string a2, .string a3] 83)).there w.heap.size 0 3 from World.there_alloc (there_below HT1.out hz1 hb2) _)
      have HX4 := Lib.hid (show (w2.alloc (.cells #[.string a1, .string a2, .string a3] 83)).rangeAt w2.heap.size 0 [.string a1, .string a2, .string a3] from rangeAt_new w2 [.string a1, .string a2, .string a3] _)
      have Hsl4 := Lib.hid (show ISL (w.heap.size + 1) (w2.alloc (.cells #[.string a1, .string a2, .string a3] 83)) (.pointer (some ⟨pb, 0, none⟩)) xs from (Hsl.out.below hb2).below ((Below.refl _ _).alloc (Nat.le_refl _) _))
      have Hb4 := Lib.hid (show Below w.heap.size w (w2.alloc (.cells #[.string a1, .string a2, .string a3] 83)) from (Hb1.out.trans (hb2.mono Hb1.out.size)).alloc (by omega) _)
      clear hb2
      go_wp2_with fail
      refine wp_region_slots3 [23, 24, 25, 26, 27, 28, 29, 30, 4, 999, 6] (by kernel_rfl) (by kernel_rfl) (by kernel_rfl) (fun u => by dsimp only [frameOf, setMany, List.set, Nat.zero_add, Nat.reduceAdd])
        (fun i v W => match i with | 0 => v = .pointer (some ⟨pb, 0, none⟩) | 1 => v = .agg ([.string a1, .string a2, .string a3] : List Value).toArray | 2 => v = .bool false | 3 => v = .bool false | 7 => v = .bool false | 8 => v = .pointer (some ⟨pb, 0, none⟩) | 10 => v = .bool false | _ => True) (fun L U W => Below w.heap.size w W ∧ w2.heap.size < W.heap.size ∧ W.there w.heap.size 0 3 ∧ W.rangeAt w2.heap.size 0 [.string a1, .string a2, .string a3] ∧ ISL (w.heap.size + 1) W (.pointer (some ⟨pb, 0, none⟩)) xs ∧ (L 9 = true → W.rangeAt w.heap.size 0 [.string a1, .string a2, .string a3])) (fun _ _ => True) (fun _ _ _ _ _ h => h) ⟨Hb4.out.drew, by simp, by simpa using HT4.out, by simpa using HX4.out, Hsl4.out.below ((Below.refl _ _).drew), by simp⟩ ?_ ?_
      · repeat (first | exact Steps.nil | (refine Steps.cons ?_ ?_; rotate_left))
        all_goals
          rintro L U W hL hpre hR hun hdep K hK
          have HR := Lib.hid hR
          obtain ⟨_, _, _, hxr, _, _⟩ := hR
          have c0 : W.cell? ⟨w2.heap.size, 0, none⟩ = some (.string a1) := by simpa using rangeAt_cell hxr 0 rfl
          have c1 : W.cell? ⟨w2.heap.size, 1, none⟩ = some (.string a2) := by simpa using rangeAt_cell hxr 1 rfl
          have c2 : W.cell? ⟨w2.heap.size, 2, none⟩ = some (.string a3) := by simpa using rangeAt_cell hxr 2 rfl
          clear hun hdep hxr
          first | (simp [Region.binds] at hpre; done) | simp [Region.binds] at hpre | clear hpre
        · go_simp
          first | exact hK _ _ _ rfl trivial HR.out rfl | exact hK _ _ _ rfl trivial HR.out (by simp [Act.put, hpre]) | exact hK undef _ _ trivial trivial HR.out (by simp [Act.put, hpre])
        · go_simp
          first | exact hK _ _ _ rfl trivial HR.out rfl | exact hK _ _ _ rfl trivial HR.out (by simp [Act.put, hpre]) | exact hK undef _ _ trivial trivial HR.out (by simp [Act.put, hpre])
        · go_simp
          first | exact hK _ _ _ rfl trivial HR.out rfl | exact hK _ _ _ rfl trivial HR.out (by simp [Act.put, hpre]) | exact hK undef _ _ trivial trivial HR.out (by simp [Act.put, hpre])
        · go_simp
          first | exact hK _ _ _ rfl trivial HR.out rfl | exact hK _ _ _ rfl trivial HR.out (by simp [Act.put, hpre]) | exact hK undef _ _ trivial trivial HR.out (by simp [Act.put, hpre])
        · go_simp
          first | exact hK _ _ _ rfl trivial HR.out rfl | exact hK _ _ _ rfl trivial HR.out (by simp [Act.put, hpre]) | exact hK undef _ _ trivial trivial HR.out (by simp [Act.put, hpre])
        · go_simp
          first | exact hK _ _ _ rfl trivial HR.out rfl | exact hK _ _ _ rfl trivial HR.out (by simp [Act.put, hpre]) | exact hK undef _ _ trivial trivial HR.out (by simp [Act.put, hpre])
        · go_simp
          first | exact hK _ _ _ rfl trivial HR.out rfl | exact hK _ _ _ rfl trivial HR.out (by simp [Act.put, hpre]) | exact hK undef _ _ trivial trivial HR.out (by simp [Act.put, hpre])
        · go_simp
          first | exact hK _ _ _ rfl trivial HR.out rfl | exact hK _ _ _ rfl trivial HR.out (by simp [Act.put, hpre]) | exact hK undef _ _ trivial trivial HR.out (by simp [Act.put, hpre])
        · go_simp
          first | exact hK _ _ _ rfl trivial HR.out rfl | exact hK _ _ _ rfl trivial HR.out (by simp [Act.put, hpre]) | exact hK undef _ _ trivial trivial HR.out (by simp [Act.put, hpre])
        · obtain ⟨r1, r2, r3, r4, r5, r6⟩ := HR.out
          rw [if_pos (by rfl)]
          refine wp_store_mid 83 _ _ rfl w.heap.size 0 ([.string a1, .string a2, .string a3] : List Value).toArray rfl hpre.1.2 r3 (by kernel_rfl) (by simp [Value.oneCell']) ?_
          exact hK undef _ _ trivial trivial ⟨below_setCells _ (Nat.le_refl _) _ _ _ r1, by rw [setCells_size]; exact r2, World.there_setCells r3 _ _ _, World.rangeAt_setCells_apart r4 _ _ _ (.inl (show w2.heap.size ≠ w.heap.size by omega)), r5.far (grown_setCells _ _ _ W) (by omega), fun _ => World.rangeAt_setCells_same _ _ _ _ r3⟩ rfl
        · go_simp
          first | exact hK _ _ _ rfl trivial HR.out rfl | exact hK _ _ _ rfl trivial HR.out (by simp [Act.put, hpre]) | exact hK undef _ _ trivial trivial HR.out (by simp [Act.put, hpre])
      · rintro L U W hL hφ ⟨r1, r2, r3, r4, r5, r6⟩
        have e8 : U 8 = .pointer (some ⟨pb, 0, none⟩) := hφ 8 (by decide)
        have e10 : U 10 = .bool false := hφ 10 (by decide)
        have hr0 := r6 (hL 9 (by decide))
        simp only [e8, e10]
        have R1 := Lib.hid r1
        have R5 := Lib.hid r5
        have R0 := Lib.hid hr0
        clear hL hφ r1 r2 r3 r4 r5 r6 hr0
        go_wp2_with fail
        refine bodyPost_ret (v := .tuple #[.pointer (some ⟨pb, 0, none⟩), .agg ([.string a1, .string a2, .string a3] : List Value).toArray, .bool false]) ?_ rfl ?_
        · exact results_tmp_cell_tmp Tryz.results56 _ _ w.heap.size [.string a1, .string a2, .string a3] _ _ _ rfl rfl rfl R0.out Tryz.underlying83 rfl (by kernel_rfl)
        · exact IbPost.no HF.out rfl R1.out
    | some k =>
      have hcase' : e = .returned (.tuple #[.agg #[.string ⟨k.signs.toArray⟩, .string ⟨k.base.toArray⟩, .string ⟨k.name.toArray⟩], .bool true]) := hcase
      subst hcase'
      clear hcase
      have hkn : k.name.length ≤ 100 := Nat.le_trans (name_short (Hkok.out k rfl)) (by decide)
      have hz4 : w2.heap.size < (w2.alloc (.cells #[.string ⟨k.signs.toArray⟩, .string ⟨k.base.toArray⟩, .string ⟨k.name.toArray⟩] 83)).heap.size := by simp
      have hz2 : w.heap.size < w2.heap.size := by have := hb2.size; omega
      have HT4 := Lib.hid (show (w2.alloc (.cells #[.string ⟨k.signs.toArray⟩, .string ⟨k.base.toArray⟩, .string ⟨k.name.toArray⟩] 83)).there w.heap.size 0 3 from World.there_alloc (there_below HT1.out hz1 hb2) _)
      have HX4 := Lib.hid (show (w2.alloc (.cells #[.string ⟨k.signs.toArray⟩, .string ⟨k.base.toArray⟩, .string ⟨k.name.toArray⟩] 83)).rangeAt w2.heap.size 0 [.string ⟨k.signs.toArray⟩, .string ⟨k.base.toArray⟩, .string ⟨k.name.toArray⟩] from rangeAt_new w2 [.string ⟨k.signs.toArray⟩, .string ⟨k.base.toArray⟩, .string ⟨k.name.toArray⟩] _)
      have Hsl4 := Lib.hid (show ISL (w.heap.size + 1) (w2.alloc (.cells #[.string ⟨k.signs.toArray⟩, .string ⟨k.base.toArray⟩, .string ⟨k.name.toArray⟩] 83)) (.pointer (some ⟨pb, 0, none⟩)) xs from (Hsl.out.below hb2).below ((Below.refl _ _).alloc (Nat.le_refl _) _))
      have Hb4 := Lib.hid (show Below w.heap.size w (w2.alloc (.cells #[.string ⟨k.signs.toArray⟩, .string ⟨k.base.toArray⟩, .string ⟨k.name.toArray⟩] 83)) from (Hb1.out.trans (hb2.mono Hb1.out.size)).alloc (by omega) _)
      clear hb2
      go_wp2_with fail
      have HF3 := Lib.hid (show bothL s d = if refOk (ptysOf xs) k then some (ptysOf xs, k) else none from HF.out)
      refine wp_region_slots3 [23, 24, 25, 26, 27, 28, 29, 30, 4, 999, 6] (by kernel_rfl) (by kernel_rfl) (by kernel_rfl) (fun u => by dsimp only [frameOf, setMany, List.set, Nat.zero_add, Nat.reduceAdd])
        (fun i v W => match i with | 0 => v = .pointer (some ⟨pb, 0, none⟩) | 1 => v = .agg ([.string ⟨k.signs.toArray⟩, .string ⟨k.base.toArray⟩, .string ⟨k.name.toArray⟩] : List Value).toArray | 2 => v = .bool true | 3 => v = .bool true | 4 => v = .pointer (some ⟨pb, 0, none⟩) | 5 => v = .agg ([.string ⟨k.signs.toArray⟩, .string ⟨k.base.toArray⟩, .string ⟨k.name.toArray⟩] : List Value).toArray | 6 => v = .bool (decide (refOk (ptysOf xs) k)) | 7 => v = .bool (decide (refOk (ptysOf xs) k)) | 8 => v = .pointer (some ⟨pb, 0, none⟩) | 10 => v = .bool (decide (refOk (ptysOf xs) k)) | _ => True) (fun L U W => Below w.heap.size w W ∧ w2.heap.size < W.heap.size ∧ W.there w.heap.size 0 3 ∧ W.rangeAt w2.heap.size 0 [.string ⟨k.signs.toArray⟩, .string ⟨k.base.toArray⟩, .string ⟨k.name.toArray⟩] ∧ ISL (w.heap.size + 1) W (.pointer (some ⟨pb, 0, none⟩)) xs ∧ (L 9 = true → W.rangeAt w.heap.size 0 [.string ⟨k.signs.toArray⟩, .string ⟨k.base.toArray⟩, .string ⟨k.name.toArray⟩])) (fun _ _ => True) (fun _ _ _ _ _ h => h) ⟨Hb4.out.drew, by simp, by simpa using HT4.out, by simpa using HX4.out, Hsl4.out.below ((Below.refl _ _).drew), by simp⟩ ?_ ?_
      · repeat (first | exact Steps.nil | (refine Steps.cons ?_ ?_; rotate_left))
        all_goals
          rintro L U W hL hpre hR hun hdep K hK
          have HR := Lib.hid hR
          obtain ⟨_, _, _, hxr, _, _⟩ := hR
          have c0 : W.cell? ⟨w2.heap.size, 0, none⟩ = some (.string ⟨k.signs.toArray⟩) := by simpa using rangeAt_cell hxr 0 rfl
          have c1 : W.cell? ⟨w2.heap.size, 1, none⟩ = some (.string ⟨k.base.toArray⟩) := by simpa using rangeAt_cell hxr 1 rfl
          have c2 : W.cell? ⟨w2.heap.size, 2, none⟩ = some (.string ⟨k.name.toArray⟩) := by simpa using rangeAt_cell hxr 2 rfl
          clear hun hdep hxr
          first | (simp [Region.binds] at hpre; done) | simp [Region.binds] at hpre | clear hpre
        · go_simp
          first | exact hK _ _ _ rfl trivial HR.out rfl | exact hK _ _ _ rfl trivial HR.out (by simp [Act.put, hpre]) | exact hK undef _ _ trivial trivial HR.out (by simp [Act.put, hpre])
        · go_simp
          first | exact hK _ _ _ rfl trivial HR.out rfl | exact hK _ _ _ rfl trivial HR.out (by simp [Act.put, hpre]) | exact hK undef _ _ trivial trivial HR.out (by simp [Act.put, hpre])
        · go_simp
          first | exact hK _ _ _ rfl trivial HR.out rfl | exact hK _ _ _ rfl trivial HR.out (by simp [Act.put, hpre]) | exact hK undef _ _ trivial trivial HR.out (by simp [Act.put, hpre])
        · go_simp
          first | exact hK _ _ _ rfl trivial HR.out rfl | exact hK _ _ _ rfl trivial HR.out (by simp [Act.put, hpre]) | exact hK undef _ _ trivial trivial HR.out (by simp [Act.put, hpre])
        · go_simp
          first | exact hK _ _ _ rfl trivial HR.out rfl | exact hK _ _ _ rfl trivial HR.out (by simp [Act.put, hpre]) | exact hK undef _ _ trivial trivial HR.out (by simp [Act.put, hpre])
        · go_simp
          first | exact hK _ _ _ rfl trivial HR.out rfl | exact hK _ _ _ rfl trivial HR.out (by simp [Act.put, hpre]) | exact hK undef _ _ trivial trivial HR.out (by simp [Act.put, hpre])
        · go_simp
          obtain ⟨r1, r2, r3, r4, r5, r6⟩ := HR.out
          refine (iHas_any _ xs k W r5.isc.map hkn).mono ?_
          rintro e w5 ⟨rfl, hb5⟩
          exact hK (.bool (decide (refOk (ptysOf xs) k))) _ _ rfl trivial ⟨r1.trans (hb5.mono r1.size), Nat.lt_of_lt_of_le r2 hb5.size, there_below r3 (show w.heap.size < W.heap.size by omega) hb5, rangeAt_below r4 r2 hb5, r5.below hb5, fun h => rangeAt_below (r6 h) (show w.heap.size < W.heap.size by omega) hb5⟩ (by simp [Act.put, hpre])
        · go_simp
          first | exact hK _ _ _ rfl trivial HR.out rfl | exact hK _ _ _ rfl trivial HR.out (by simp [Act.put, hpre]) | exact hK undef _ _ trivial trivial HR.out (by simp [Act.put, hpre])
        · go_simp
          first | exact hK _ _ _ rfl trivial HR.out rfl | exact hK _ _ _ rfl trivial HR.out (by simp [Act.put, hpre]) | exact hK undef _ _ trivial trivial HR.out (by simp [Act.put, hpre])
        · obtain ⟨r1, r2, r3, r4, r5, r6⟩ := HR.out
          rw [if_pos (by rfl)]
          refine wp_store_mid 83 _ _ rfl w.heap.size 0 ([.string ⟨k.signs.toArray⟩, .string ⟨k.base.toArray⟩, .string ⟨k.name.toArray⟩] : List Value).toArray rfl hpre.1.2 r3 (by kernel_rfl) (by simp [Value.oneCell']) ?_
          exact hK undef _ _ trivial trivial ⟨below_setCells _ (Nat.le_refl _) _ _ _ r1, by rw [setCells_size]; exact r2, World.there_setCells r3 _ _ _, World.rangeAt_setCells_apart r4 _ _ _ (.inl (show w2.heap.size ≠ w.heap.size by omega)), r5.far (grown_setCells _ _ _ W) (by omega), fun _ => World.rangeAt_setCells_same _ _ _ _ r3⟩ rfl
        · go_simp
          first | exact hK _ _ _ rfl trivial HR.out rfl | exact hK _ _ _ rfl trivial HR.out (by simp [Act.put, hpre]) | exact hK undef _ _ trivial trivial HR.out (by simp [Act.put, hpre])
      · rintro L U W hL hφ ⟨r1, r2, r3, r4, r5, r6⟩
        have e8 : U 8 = .pointer (some ⟨pb, 0, none⟩) := hφ 8 (by decide)
        have e10 : U 10 = .bool (decide (refOk (ptysOf xs) k)) := hφ 10 (by decide)
        have hr0 := r6 (hL 9 (by decide))
        simp only [e8, e10]
        have R1 := Lib.hid r1
        have R5 := Lib.hid r5
        have R0 := Lib.hid hr0
        clear hL hφ r1 r2 r3 r4 r5 r6 hr0
        go_wp2_with fail
        refine bodyPost_ret (v := .tuple #[.pointer (some ⟨pb, 0, none⟩), .agg ([.string ⟨k.signs.toArray⟩, .string ⟨k.base.toArray⟩, .string ⟨k.name.toArray⟩] : List Value).toArray, .bool (decide (refOk (ptysOf xs) k))]) ?_ rfl ?_
        · exact results_tmp_cell_tmp Tryz.results56 _ _ w.heap.size [.string ⟨k.signs.toArray⟩, .string ⟨k.base.toArray⟩, .string ⟨k.name.toArray⟩] _ _ _ rfl rfl rfl R0.out Tryz.underlying83 rfl (by kernel_rfl)
        · by_cases hr : refOk (ptysOf xs) k
          · rw [decide_eq_true hr]
            unfold IbPost
            rw [HF3.out, if_pos hr]
            exact ⟨⟨_, xs, rfl, rfl, by
              obtain ⟨b, A, c, mb, q0, q1, q2, q3, q4, q5, q6, q7, l1, l2, l3, l4⟩ := R5.out
              exact ⟨b, A, c, mb, q0, q1, q2, q3, q4, q5, q6, q7, by omega, by omega, fun g o h1 h2 => by have := l3 g o h1 h2; omega, fun x hx => ⟨by have := (l4 x hx).1; omega, fun k h1 h2 => by have := (l4 x hx).2 k h1 h2; omega⟩⟩⟩, R1.out⟩
          · rw [decide_eq_false hr]
            exact IbPost.no (HF3.out.trans (if_neg hr)) rfl R1.out
end Go.Proofs.YtcjfgbcdlcdeaaaGreatDoor
/- The program's standing values; the field of a tag. -/
namespace Go.Proofs.YtcjfgbcdlcdeaaaGreatDoor
open Go.RowKit
set_option maxRecDepth 100000
set_option linter.unusedVariables false
set_option linter.unusedSimpArgs false
attribute [local go_sem] ba_get ba_toList ba_extract take_drop_all ByteArray.mk_append_mk

/-- What looking for a field gives: a pointer to its cells. -/
def FldPtr (B : Nat) (w : World) (v : Value) : Option Fd → Prop
  | none => v = .pointer none
  | some f => ∃ b o, v = .pointer (some ⟨b, o, none⟩) ∧ b < B ∧ w.rangeAt b o (ifc f)
theorem FldPtr.below {B : Nat} {w w' : World} {v : Value} {o : Option Fd} (h : FldPtr B w v o) (hb : Below B w w') : FldPtr B w' v o := by
  cases o with
  | none => exact h
  | some f => obtain ⟨b, o, e, h1, h2⟩ := h; exact ⟨b, o, e, h1, rangeAt_below h2 h1 hb⟩
def IfpPost (B : Nat) (o : Option Fd) (w : World) (e : Ending) (w' : World) : Prop := ∃ v, e = .returned v ∧ FldPtr B w v o ∧ w = w'

set_option maxHeartbeats 1000000 in
theorem iField_any (w0 : World) (x : PT) (hx : ITy w0 x) (n : Nat) (w : World) (hb : Below w0.heap.size w0 w) (hn : n ≤ 1000000000) :
    Calls Tryz.prog 75 #[.pointer (some ⟨x.blk, 0, none⟩), .int .i64 n] w (IfpPost w0.heap.size (fieldT x.ty.fields n) w) := by
  obtain ⟨z0, _, _, _, z3, _, A, c, hfv, hl, hr⟩ := hx
  rw [hfv] at z3
  have c2 : w.cell? ⟨x.blk, 2, none⟩ = some (.slice A x.ty.fields.length c) := (hb.cell (p := ⟨x.blk, 2, none⟩) z0).trans z3
  have Hr := Lib.hid hr
  have Hb := Lib.hid hb
  clear hr hfv z3 hb
  go_enter Tryz.func75, Tryz.ntmps75
  go_wp2_with fail
  go_loop [11] (fun i => ∃ k : Nat, i = .int .i64 k ∧ k ≤ x.ty.fields.length ∧ Hid (∀ f ∈ x.ty.fields.take k, decide (f.tag = n) = false)) (fun i => x.ty.fields.length - (intOf i).toNat)
  case atStart => exact ⟨0, rfl, Nat.zero_le _, by intro f hf; simp at hf⟩
  case round =>
    obtain ⟨k, rfl, hk, hin⟩ := hrel
    by_cases hlt : k < x.ty.fields.length
    · obtain ⟨b, off, rfl, hbl, hrg⟩ := IFds.range Hr.out hlt
      have hrw := rangeAt_below hrg hbl Hb.out
      have Hts := Lib.hid (take_snoc x.ty.fields k hlt)
      have Hft := Lib.hid (find_take (p := fun f => decide (f.tag = n)) hlt hin.out)
      generalize x.ty.fields[k] = f at hrg hrw Hts Hft
      have c0 : w.cell? ⟨b, off + k * 6, none⟩ = some (.int .i64 (f.tag : Int)) := by simpa using rangeAt_cell hrw 0 rfl
      have Hrw := Lib.hid hrw
      clear hrw hrg
      have k1 : (0 : Int) ≤ (k : Int) := by omega
      have k2 : (k : Int) < (x.ty.fields.length : Int) := by omega
      by_cases he : f.tag = n
      · have t1 : ((f.tag : Int) == (n : Int)) = true := by simp [he]
        have Hfin := Lib.hid (show fieldT x.ty.fields n = some f by unfold fieldT; rw [Hft.out, if_pos (by simpa using he)])
        clear he
        go_wp2_with fail
        go_ret
        exact ⟨_, rfl, by rw [Hfin.out]; exact ⟨b, off + k * 6, rfl, hbl, Hrw.out⟩, rfl⟩
      · have t1 : ((f.tag : Int) == (n : Int)) = false := by rw [beq_eq_false_iff_ne]; omega
        have Hin := Lib.hid (show ∀ g ∈ x.ty.fields.take (k + 1), decide (g.tag = n) = false by
          intro g hg
          rw [Hts.out] at hg
          rcases List.mem_append.1 hg with hg | hg
          · exact hin.out g hg
          · simp at hg; subst hg; simpa using he)
        clear he
        go_wp2_with fail
        go_round
        case rel => exact ⟨k + 1, by go_num, by omega, Hin.out⟩
        case measure => simp [intOf]; omega
    · have Hfin := Lib.hid (show fieldT x.ty.fields n = none from find_all_none (fun f hf => hin.out f (by rw [List.take_of_length_le (by omega)]; exact hf)))
      go_wp2_with fail
      go_ret
      exact ⟨_, rfl, by rw [Hfin.out]; rfl, rfl⟩

theorem iSign_nil (b nm : ByteArray) (w : World) : Calls Tryz.prog 143 #[.agg #[.string ⟨#[]⟩, .string b, .string nm]] w fun e w' => e = .returned (.int .u8 0) ∧ Below w.heap.size w w' := by
  go_enter Tryz.func143, Tryz.ntmps143
  go_wp2_with fail
  go_ret
  exact ⟨rfl, (Below.refl _ _).alloc (Nat.le_refl _) _⟩
theorem iSign_cons (c : UInt8) (t : List UInt8) (hl : t.length ≤ 1000) (b nm : ByteArray) (w : World) : Calls Tryz.prog 143 #[.agg #[.string ⟨(c :: t).toArray⟩, .string b, .string nm]] w fun e w' => e = .returned (.int .u8 (c.toNat : Int)) ∧ Below w.heap.size w w' := by
  go_enter Tryz.func143, Tryz.ntmps143
  go_wp2_with fail
  go_ret
  exact ⟨rfl, (Below.refl _ _).alloc (Nat.le_refl _) _⟩

theorem iStands_sign (p : Value) (c : UInt8) (t : List UInt8) (b nm : ByteArray) (w : World) (hc : c = 91 ∨ c = 63) (hl : t.length ≤ 1000) :
    Calls Tryz.prog 107 #[p, .agg #[.string ⟨(c :: t).toArray⟩, .string b, .string nm]] w (SdPost (signL c) w) := by
  rcases hc with rfl | rfl
  · go_enter Tryz.func107, Tryz.ntmps107
    go_wp2_with fail
    refine (iSign_cons 91 t hl _ _ _).mono ?_
    rintro e w1 ⟨rfl, hb1⟩
    go_wp2_with fail
    go_ret
    exact ⟨rfl, ((Below.refl _ _).alloc (Nat.le_refl _) _).trans (hb1.mono (by simp))⟩
  · go_enter Tryz.func107, Tryz.ntmps107
    go_wp2_with fail
    refine (iSign_cons 63 t hl _ _ _).mono ?_
    rintro e w1 ⟨rfl, hb1⟩
    go_wp2_with fail
    go_ret
    exact ⟨rfl, ((Below.refl _ _).alloc (Nat.le_refl _) _).trans (hb1.mono (by simp))⟩
theorem iStands_letter (p : Value) (b : List UInt8) (nm : ByteArray) (w : World) (hb : b = [110] ∨ b = [116] ∨ b = [102]) :
    Calls Tryz.prog 107 #[p, .agg #[.string ⟨#[]⟩, .string ⟨b.toArray⟩, .string nm]] w (SdPost (plainL b) w) := by
  rcases hb with rfl | rfl | rfl <;>
  · go_enter Tryz.func107, Tryz.ntmps107
    go_wp2_with fail
    refine (iSign_nil _ _ _).mono ?_
    rintro e w1 ⟨rfl, hb1⟩
    obtain ⟨hc1, _, _⟩ := bcell hb1
    have y1 := hc1 w.heap.size 1 (by simp)
    simp at y1
    clear hc1
    have Hb1 := Lib.hid (((Below.refl w.heap.size w).alloc (Nat.le_refl _) _).trans (hb1.mono (by simp)))
    clear hb1
    go_wp2_with fail
    go_ret
    exact ⟨rfl, Hb1.out⟩
end Go.Proofs.YtcjfgbcdlcdeaaaGreatDoor
/- The program's standing values, of kinds that name a type. -/
namespace Go.Proofs.YtcjfgbcdlcdeaaaGreatDoor
open Go.RowKit
set_option maxRecDepth 100000
set_option linter.unusedVariables false
set_option linter.unusedSimpArgs false
attribute [local go_sem] ba_get ba_toList ba_extract take_drop_all ByteArray.mk_append_mk

set_option maxHeartbeats 2000000 in
theorem iStands_name (p : Value) (xs : List PT) (hok : ∀ y ∈ xs, tyOk y.ty) (n : Nat) (k : Kd) (w : World) (hsc : ISc w p xs) (hk : kdOk k) (hs : k.signs = []) (hb : k.base = [64]) (x : PT) (hx : findP xs k.name = some x)
    (hn : n ≤ 9) (ih : x.ty.sort = 85 → ∀ f fs, x.ty.fields = f :: fs → ∀ W, ISc W p xs → Calls Tryz.prog 107 #[p, kdV f.kind] W (SdPost (standN (ptysOf xs) n f.kind) W)) :
    Calls Tryz.prog 107 #[p, kdV k] w (SdPost (standN (ptysOf xs) (n + 1) k) w) := by
  have Hlen := Lib.hid (standN_len (ptysOf xs) (fun t ht => by obtain ⟨y, hy, rfl⟩ := List.mem_map.1 ht; exact hok y hy))
  have HF := Lib.hid (show standN (ptysOf xs) (n + 1) k = if x.ty.sort = 82 then [123, 125] else match x.ty.fields with | [] => [] | f :: _ => if x.ty.sort = 69 then 35 :: decB f.tag else 60 :: (decB f.tag ++ 61 :: (standN (ptysOf xs) n f.kind ++ [62])) from by
    rw [standN, if_neg (by rw [hs]; decide), if_neg (by rw [hs]; decide), if_neg (by rw [hb]; decide), if_neg (by rw [hb]; decide), if_neg (by rw [hb]; decide), findP_ty, hx]; rfl)
  have hxm := (findP_mem hx).1
  have Hto := Lib.hid (hok _ hxm)
  have hnl := name_short hk
  have Hsc := Lib.hid hsc
  obtain ⟨pb, A, cc, mb, rfl, q0, q1, q2, q3, q4, htys, _⟩ := hsc
  obtain ⟨z0, _, z1, z2, z3, z4, A8, c, hz8, hl8', hrow8⟩ := htys x hxm
  rw [hz8] at z3
  have Hrow := Lib.hid hrow8
  have Ih := Lib.hid ih
  have Hlk := Lib.hid (fun W (h : Below w.heap.size w W) => show (Instr.lookup 174 (.map (some mb)) (.string ⟨k.name.toArray⟩) false).run Tryz.prog W = .ok (.pointer (some ⟨x.blk, 0, none⟩)) W from by
    have := named_look (FMap.below q4 h) k.name (by omega); rw [hx] at this; exact this)
  have hmb := q4.lt
  unfold kdV
  rw [hs, hb]
  clear hk hs hb hx q1 q3 q4 htys hrow8 ih hok hz8 z2 z4 hxm
  go_enter Tryz.func107, Tryz.ntmps107
  go_wp2_with fail
  refine (iSign_nil _ _ _).mono ?_
  rintro e w1 ⟨rfl, hb1⟩
  obtain ⟨hc1, _, hzz⟩ := bcell hb1
  have y1 : w1.cell? ⟨w.heap.size, 1, none⟩ = some (.string ⟨#[64]⟩) := (hc1 w.heap.size 1 (by simp)).trans (by simp)
  have y2 : w1.cell? ⟨w.heap.size, 2, none⟩ = some (.string ⟨k.name.toArray⟩) := (hc1 w.heap.size 2 (by simp)).trans (by simp)
  have Hb1 := Lib.hid (show Below w.heap.size w w1 from ((Below.refl w.heap.size w).alloc (Nat.le_refl _) _).trans (hb1.mono (by simp)))
  have hz1 : w.heap.size < w1.heap.size := by have := hb1.size; simp at this; omega
  have m1 : w1.cell? ⟨pb, 1, none⟩ = some (.map (some mb)) := (Hb1.out.cell (p := ⟨pb, 1, none⟩) q0).trans q2
  have u0 : w1.cell? ⟨x.blk, 0, none⟩ = some (.int .u8 (x.ty.sort.toNat : Int)) := (Hb1.out.cell (p := ⟨x.blk, 0, none⟩) z0).trans z1
  have u2 : w1.cell? ⟨x.blk, 2, none⟩ = some (.slice A8 x.ty.fields.length c) := (Hb1.out.cell (p := ⟨x.blk, 2, none⟩) z0).trans z3
  have Hlook := Lib.hid (fun q => Hlk.out (w1.drewN q) (Hb1.out.trans ((below_drewN (Below.refl _ _) q).mono Hb1.out.size)))
  clear hc1 hzz hb1 q2 z1 z3
  go_wp2_with fail
  refine wp_region_slots3 [20, 21, 22, 23, 24, 25, 26, 5] (by kernel_rfl) (by kernel_rfl) (by kernel_rfl) (fun u => by dsimp only [frameOf, setMany, List.set, Nat.zero_add, Nat.reduceAdd])
    (fun i v W => match i with | 0 => v = .pointer (some ⟨pb, 0, none⟩) | 1 => v = .pointer (some ⟨pb, 0, none⟩) | 2 => v = .pointer (some ⟨pb, 1, none⟩) | 3 => v = .map (some mb) | 4 => v = .pointer (some ⟨w.heap.size, 2, none⟩) | 5 => v = .string ⟨k.name.toArray⟩ | 6 => v = .pointer (some ⟨x.blk, 0, none⟩) | 7 => v = .pointer (some ⟨x.blk, 0, none⟩) | _ => True)
    (fun L U W => ∃ q, W = w1.drewN q) (fun _ _ => True) (fun _ _ _ _ _ h => h) (⟨1, rfl⟩) ?_ ?_
  · repeat (first | exact Steps.nil | (refine Steps.cons ?_ ?_; rotate_left))
    all_goals
      rintro L U W hL hpre hR hun hdep K hK
      have HR := Lib.hid hR
      obtain ⟨q, rfl⟩ := HR.out
      have hlq := Hlook.out q
      clear hun hdep hR
      first | (simp [Region.binds] at hpre; done) | simp [Region.binds] at hpre | clear hpre
    iterate 8
      · go_simp
        first | exact hK _ _ _ rfl trivial HR.out rfl | exact hK _ _ _ rfl trivial HR.out (by simp [Act.put, hpre]) | exact hK undef _ _ trivial trivial HR.out (by simp [Act.put, hpre]) | exact hK _ _ _ trivial trivial HR.out rfl | exact hK _ _ _ trivial trivial HR.out (by simp [Act.put, hpre])
  · rintro L U W hL hφ hR
    have e7 : U 7 = .pointer (some ⟨x.blk, 0, none⟩) := hφ 7 (by decide)
    simp only [e7]
    clear hφ
    obtain ⟨q, rfl⟩ := hR
    have Hbq := Lib.hid (Hb1.out.trans ((below_drewN (Below.refl w1.heap.size w1) q).mono Hb1.out.size))
    clear hL y1 y2 m1
    by_cases h82 : x.ty.sort = 82
    · have t82 : ((x.ty.sort.toNat : Int) == 82) = true := byte_eq (d := 82) h82
      have HF2 := Lib.hid (HF.out.trans (if_pos h82))
      clear h82 HF
      go_wp2_with fail
      go_ret
      exact ⟨by rw [HF2.out]; rfl, Hbq.out⟩
    · have t82 : ((x.ty.sort.toNat : Int) == 82) = false := byte_ne (d := 82) h82
      have HF2 := Lib.hid (HF.out.trans (if_neg h82))
      have hne : x.ty.fields ≠ [] := fun h => h82 (Hto.out.2.2.2.2 h)
      obtain ⟨f, fs, hfs⟩ : ∃ f fs, x.ty.fields = f :: fs := by
        cases h : x.ty.fields with
        | nil => exact absurd h hne
        | cons f fs => exact ⟨f, fs, rfl⟩
      have hf0 : 0 < x.ty.fields.length := by rw [hfs]; simp
      have hge : x.ty.fields[0] = f := by simp [hfs]
      have hft := Hto.out.2.2.1.1 f (by rw [hfs]; simp)
      have htag : f.tag ≤ 200 := hft.2.1
      have hdl := decB_len 2 f.tag (by have e : 10 ^ (2 + 1) = 1000 := rfl; omega)
      have Hd := Lib.hid (fun W => decimal_any f.tag f.tag W (Nat.le_refl _) (by omega))
      have hi0 : (0 : Int) < (x.ty.fields.length : Int) := by omega
      have HF3 := Lib.hid (show standN (ptysOf xs) (n + 1) k = if x.ty.sort = 69 then 35 :: decB f.tag else 60 :: (decB f.tag ++ 61 :: (standN (ptysOf xs) n f.kind ++ [62])) from by rw [HF2.out, hfs])
      have Hfs := Lib.hid hfs
      obtain ⟨b, off, rfl, hbl, hrg⟩ := IFds.range Hrow.out hf0
      rw [hge] at hrg
      have hrq := rangeAt_below hrg hbl Hbq.out
      simp only [Nat.zero_mul, Nat.add_zero] at hrq
      have g0 : (w1.drewN q).cell? ⟨b, off, none⟩ = some (.int .i64 (f.tag : Int)) := by simpa using rangeAt_cell hrq 0 rfl
      have G2 := Lib.hid (rangeAt_cell hrq 2 rfl)
      have G3 := Lib.hid (rangeAt_cell hrq 3 rfl)
      have G4 := Lib.hid (rangeAt_cell hrq 4 rfl)
      have H82 := Lib.hid h82
      clear HF2 HF h82 hne hfs hge hft hrg hrq
      by_cases h69 : x.ty.sort = 69
      · have t69 : ((x.ty.sort.toNat : Int) == 69) = true := byte_eq (d := 69) h69
        have HF4 := Lib.hid (HF3.out.trans (if_pos h69))
        clear h69 HF3
        go_wp2_with fail
        refine (Hd.out _).mono ?_
        rintro e w2 ⟨rfl, hb2⟩
        go_wp2_with fail
        go_ret
        exact ⟨by rw [HF4.out]; simp, Hbq.out.trans (hb2.mono Hbq.out.size)⟩
      · have t69 : ((x.ty.sort.toNat : Int) == 69) = false := byte_ne (d := 69) h69
        have HF4 := Lib.hid (HF3.out.trans (if_neg h69))
        have h85 : x.ty.sort = 85 := by
          rcases Hto.out.1 with h | h | h
          · exact absurd h H82.out
          · exact h
          · exact absurd h h69
        have Ih2 := Lib.hid (Ih.out h85 f fs Hfs.out)
        unfold kdV at Ih2
        have hsl := Hlen.out n f.kind
        generalize standN (ptysOf xs) n f.kind = sl at *
        clear h69 HF3 h85 Ih
        go_wp2_with fail
        obtain ⟨W0, hW0⟩ : ∃ W0, W0 = w1.drewN q := ⟨_, rfl⟩
        rw [← hW0] at Hbq g0 G2 G3 G4 ⊢
        have Y2 := Lib.hid (show W0.cell? ⟨x.blk, 2, none⟩ = some (.slice (some ⟨b, off, none⟩) x.ty.fields.length c) from by rw [hW0]; exact u2)
        have Y0 := Lib.hid g0
        have Y3 := Lib.hid (show W0.cell? ⟨b, off + 2, none⟩ = some (.string ⟨f.kind.signs.toArray⟩) from G2.out)
        have Y4 := Lib.hid (show W0.cell? ⟨b, off + 3, none⟩ = some (.string ⟨f.kind.base.toArray⟩) from G3.out)
        have Y5 := Lib.hid (show W0.cell? ⟨b, off + 4, none⟩ = some (.string ⟨f.kind.name.toArray⟩) from G4.out)
        have Hx5 := Lib.hid (show x.blk < W0.heap.size from Nat.lt_of_lt_of_le z0 Hbq.out.size)
        have Hb5 := Lib.hid (show b < W0.heap.size from Nat.lt_of_lt_of_le hbl Hbq.out.size)
        have Hsc0 := Lib.hid (Hsc.out.below Hbq.out)
        clear hW0 g0 u0 u2
        refine wp_region_slots3 [44, 45, 46, 47, 48, 49, 50, 51, 52, 53, 54, 55, 56, 57, 58, 59, 60, 61, 62, 63, 64, 4] (by kernel_rfl) (by kernel_rfl) (by kernel_rfl) (fun u => by dsimp only [frameOf, setMany, List.set, Nat.zero_add, Nat.reduceAdd])
          (fun i v W => match i with | 0 => v = .pointer (some ⟨x.blk, 0, none⟩) | 1 => v = .pointer (some ⟨x.blk, 0, none⟩) | 2 => v = .pointer (some ⟨x.blk, 2, none⟩) | 3 => v = .slice (some ⟨b, off, none⟩) x.ty.fields.length c | 4 => v = .pointer (some ⟨b, off, none⟩) | 5 => v = .pointer (some ⟨b, off, none⟩) | 6 => v = .int .i64 (f.tag : Int) | 7 => v = .string ⟨(decB f.tag).toArray⟩ | 8 => v = .string ⟨(60 :: decB f.tag).toArray⟩ | 9 => v = .string ⟨(60 :: (decB f.tag ++ [61])).toArray⟩ | 10 => v = .pointer (some ⟨pb, 0, none⟩) | 11 => v = .pointer (some ⟨x.blk, 0, none⟩) | 12 => v = .pointer (some ⟨x.blk, 0, none⟩) | 13 => v = .pointer (some ⟨x.blk, 2, none⟩) | 14 => v = .slice (some ⟨b, off, none⟩) x.ty.fields.length c | 15 => v = .pointer (some ⟨b, off, none⟩) | 16 => v = .pointer (some ⟨b, off + 2, none⟩) | 17 => v = .agg #[.string ⟨f.kind.signs.toArray⟩, .string ⟨f.kind.base.toArray⟩, .string ⟨f.kind.name.toArray⟩] | 18 => v = .string ⟨(sl).toArray⟩ | 19 => v = .string ⟨(60 :: (decB f.tag ++ 61 :: sl)).toArray⟩ | 20 => v = .string ⟨(60 :: (decB f.tag ++ 61 :: (sl ++ [62]))).toArray⟩ | 21 => v = .string ⟨(60 :: (decB f.tag ++ 61 :: (sl ++ [62]))).toArray⟩ | _ => True)
          (fun L U W => Below W0.heap.size W0 W) (fun _ _ => True) (fun _ _ _ _ _ h => h) ((Below.refl _ _).drew) ?_ ?_
        · repeat (first | exact Steps.nil | (refine Steps.cons ?_ ?_; rotate_left))
          all_goals
            rintro L U W hL hpre hR hun hdep K hK
            have HR := Lib.hid hR
            have hB := HR.out
            have c2 := (hB.cell (p := ⟨x.blk, 2, none⟩) Hx5.out).trans Y2.out
            have c0 := (hB.cell (p := ⟨b, off, none⟩) Hb5.out).trans Y0.out
            have c3 := (hB.cell (p := ⟨b, off + 2, none⟩) Hb5.out).trans Y3.out
            have c4 := (hB.cell (p := ⟨b, off + 3, none⟩) Hb5.out).trans Y4.out
            have c5 := (hB.cell (p := ⟨b, off + 4, none⟩) Hb5.out).trans Y5.out
            have c4' : W.cell? ⟨b, off + 2 + 1, none⟩ = _ := c4
            have c5' : W.cell? ⟨b, off + 2 + 1 + 1, none⟩ = _ := c5
            have c5'' : W.cell? ⟨b, off + 2 + 2, none⟩ = _ := c5
            clear hun hdep hR
            first | (simp [Region.binds] at hpre; done) | simp [Region.binds] at hpre | clear hpre
          iterate 7
            · go_simp
              first | exact hK _ _ _ rfl trivial HR.out rfl | exact hK _ _ _ rfl trivial HR.out (by simp [Act.put, hpre]) | exact hK undef _ _ trivial trivial HR.out (by simp [Act.put, hpre]) | exact hK _ _ _ trivial trivial HR.out rfl | exact hK _ _ _ trivial trivial HR.out (by simp [Act.put, hpre])
          · go_simp
            refine (Hd.out _).mono ?_
            rintro e w3 ⟨rfl, hb3⟩
            exact hK _ _ _ rfl trivial (hB.trans (hb3.mono hB.size)) (by simp [Act.put, hpre])
          · go_simp
            rw [if_neg (by first | omega | (simp; omega))]
            go_simp
            first | exact hK _ _ _ rfl trivial HR.out rfl | exact hK _ _ _ rfl trivial HR.out (by simp [Act.put, hpre])
          · go_simp
            rw [if_neg (by first | omega | (simp; omega))]
            go_simp
            first | exact hK _ _ _ rfl trivial HR.out rfl | exact hK _ _ _ rfl trivial HR.out (by simp [Act.put, hpre])
          iterate 8
            · go_simp
              first | exact hK _ _ _ rfl trivial HR.out rfl | exact hK _ _ _ rfl trivial HR.out (by simp [Act.put, hpre]) | exact hK undef _ _ trivial trivial HR.out (by simp [Act.put, hpre]) | exact hK _ _ _ trivial trivial HR.out rfl | exact hK _ _ _ trivial trivial HR.out (by simp [Act.put, hpre])
          · go_simp
            refine (Ih2.out _ (Hsc0.out.below hB)).mono ?_
            rintro e w3 ⟨rfl, hb3⟩
            exact hK _ _ _ rfl trivial (hB.trans (hb3.mono hB.size)) (by simp [Act.put, hpre])
          · go_simp
            rw [if_neg (by first | omega | (simp; omega))]
            go_simp
            first | exact hK _ _ _ rfl trivial HR.out rfl | exact hK _ _ _ rfl trivial HR.out (by simp [Act.put, hpre])
          · go_simp
            rw [if_neg (by first | omega | (simp; omega))]
            go_simp
            first | exact hK _ _ _ rfl trivial HR.out rfl | exact hK _ _ _ rfl trivial HR.out (by simp [Act.put, hpre])
          · go_simp
            first | exact hK _ _ _ rfl trivial HR.out rfl | exact hK _ _ _ rfl trivial HR.out (by simp [Act.put, hpre]) | exact hK undef _ _ trivial trivial HR.out (by simp [Act.put, hpre]) | exact hK _ _ _ trivial trivial HR.out rfl | exact hK _ _ _ trivial trivial HR.out (by simp [Act.put, hpre])
        · rintro L U W hL hφ hR
          have e21 : U 21 = .string ⟨(60 :: (decB f.tag ++ 61 :: (sl ++ [62]))).toArray⟩ := hφ 21 (by decide)
          simp only [e21]
          clear hφ
          have Hb9 := Lib.hid (Hbq.out.trans (hR.mono Hbq.out.size))
          clear hR
          go_wp2_with fail
          go_ret
          exact ⟨by rw [HF4.out]; rfl, Hb9.out⟩
end Go.Proofs.YtcjfgbcdlcdeaaaGreatDoor
/- The program's standing values: of each kind, of each field. -/
namespace Go.Proofs.YtcjfgbcdlcdeaaaGreatDoor
open Go.RowKit
set_option maxRecDepth 100000
set_option linter.unusedVariables false
set_option linter.unusedSimpArgs false
attribute [local go_sem] ba_get ba_toList ba_extract take_drop_all ByteArray.mk_append_mk

theorem iStands_base (p : Value) (S : List Ty) (n : Nat) (k : Kd) (w : World) (hk : kdOk k) (h : ¬ (k.signs = [] ∧ k.base = [64])) :
    Calls Tryz.prog 107 #[p, kdV k] w (SdPost (standN S (n + 1) k) w) := by
  unfold kdV
  cases hs : k.signs with
  | cons c t =>
    have hc := sign_cases hk hs
    have hl := hk.2.2
    unfold kdB at hl
    rw [hs] at hl
    rw [standN_sign _ _ k c t hs hc]
    exact iStands_sign p c t _ _ w hc (by simp at hl; omega)
  | nil =>
    have hb : k.base ≠ [64] := fun hb => h ⟨hs, hb⟩
    rw [standN_letter _ _ k hs (kd_letter hk hs hb).2]
    exact iStands_letter p k.base _ w (kd_letter hk hs hb).2
theorem iStands_any (p : Value) (xs : List PT) (hok : ∀ x ∈ xs, tyOk x.ty) (hS : kindsOk (ptysOf xs)) : ∀ (n : Nat), n ≤ 9 → ∀ (k : Kd) (w : World), ISc w p xs → kdOk k → refOk (ptysOf xs) k → kdEnds (ptysOf xs) n k →
    Calls Tryz.prog 107 #[p, kdV k] w (SdPost (standN (ptysOf xs) (n + 1) k) w) := by
  intro n
  induction n with
  | zero =>
    intro _ k w hsc hk hr he
    refine iStands_base p _ 0 k w hk (fun h => ?_)
    obtain ⟨t, _, h2⟩ := he h.1 h.2
    exact absurd h2 (by simp [endsN])
  | succ n ih =>
    intro hn k w hsc hk hr he
    by_cases hsb : k.signs = [] ∧ k.base = [64]
    · obtain ⟨hs, hb⟩ := hsb
      have h1 := hr hb
      rw [findP_ty] at h1
      cases hx : findP xs k.name with
      | none => rw [hx] at h1; cases h1
      | some x =>
        have hft : findTy (ptysOf xs) k.name = some x.ty := (findP_mem hx).2.2
        have hto : tyOk x.ty := hok _ (findP_mem hx).1
        refine iStands_name p xs hok (n + 1) k w hsc hk hs hb x hx hn (fun h85 f fs hfs W hW => ?_)
        have hrf : refOk (ptysOf xs) f.kind := hS x.ty (findTy_some hft).1 (by rw [h85]; decide) f (by rw [hfs]; simp)
        have hkf : kdOk f.kind := ((hto.2.2.1.1 f (by rw [hfs]; simp)).2.2.2.2 (by rw [h85]; decide)).1
        exact ih (by omega) f.kind W hW hkf hrf (kdEnds_next he hs hb hft h85 hfs hrf)
    · exact iStands_base p _ (n + 1) k w hk hsb
theorem iStandL_any (p : Value) (xs : List PT) (h : scOk (ptysOf xs)) (k : Kd) (w : World) (hsc : ISc w p xs) (hk : kdOk k) (hr : refOk (ptysOf xs) k) :
    Calls Tryz.prog 107 #[p, kdV k] w (SdPost (standL (ptysOf xs) k) w) :=
  iStands_any p xs (fun x hx => h.1.1 x.ty (List.mem_map_of_mem hx)) h.2.1 9 (Nat.le_refl _) k w hsc hk hr (kdEnds_ok h hr)

set_option maxHeartbeats 1000000 in
theorem iOf_any (p : Value) (xs : List PT) (h : scOk (ptysOf xs)) (f : Fd) (b o : Nat) (w : World) (hsc : ISc w p xs) (hf : w.rangeAt b o (ifc f)) (hk : kdOk f.kind) (hr : refOk (ptysOf xs) f.kind) (hl : f.given.length ≤ 1000) :
    Calls Tryz.prog 77 #[p, .pointer (some ⟨b, o, none⟩)] w (SdPost (ofL (ptysOf xs) f) w) := by
  have HF := Lib.hid (show ofL (ptysOf xs) f = if f.given = [] then standL (ptysOf xs) f.kind else f.given from rfl)
  have Hs := Lib.hid (fun W (h1 : ISc W p xs) => iStandL_any p xs h f.kind W h1 hk hr)
  have Hsc := Lib.hid hsc
  unfold kdV at Hs
  have c2 : w.cell? ⟨b, o + 2, none⟩ = some (.string ⟨f.kind.signs.toArray⟩) := rangeAt_cell hf 2 rfl
  have c3 : w.cell? ⟨b, o + 3, none⟩ = some (.string ⟨f.kind.base.toArray⟩) := rangeAt_cell hf 3 rfl
  have c4 : w.cell? ⟨b, o + 4, none⟩ = some (.string ⟨f.kind.name.toArray⟩) := rangeAt_cell hf 4 rfl
  have c5 : w.cell? ⟨b, o + 5, none⟩ = some (.string ⟨f.given.toArray⟩) := rangeAt_cell hf 5 rfl
  have c3' : w.cell? ⟨b, o + 2 + 1, none⟩ = some (.string ⟨f.kind.base.toArray⟩) := c3
  have c4' : w.cell? ⟨b, o + 2 + 1 + 1, none⟩ = some (.string ⟨f.kind.name.toArray⟩) := c4
  have c4'' : w.cell? ⟨b, o + 2 + 2, none⟩ = some (.string ⟨f.kind.name.toArray⟩) := c4
  clear h hk hr hsc hf
  by_cases hg : f.given = []
  · have HF2 := Lib.hid (HF.out.trans (if_pos hg))
    rw [hg] at c5
    clear hg HF
    go_enter Tryz.func77, Tryz.ntmps77
    go_wp2_with fail
    refine (Hs.out _ Hsc.out).mono ?_
    rintro e w1 ⟨rfl, hb1⟩
    go_wp2_with fail
    go_ret
    exact ⟨by rw [HF2.out]; rfl, hb1⟩
  · have HF2 := Lib.hid (HF.out.trans (if_neg hg))
    have t1 : f.given.isEmpty = false := by simpa using hg
    have t2 : (!f.given.isEmpty) = true := by simp [t1]
    clear hg HF
    go_enter Tryz.func77, Tryz.ntmps77
    go_wp2_with fail
    go_ret
    exact ⟨by rw [HF2.out]; rfl, Below.refl _ _⟩
end Go.Proofs.YtcjfgbcdlcdeaaaGreatDoor
/- What the program's evolution keeps while it asks: two schemas, and a map of the pairs that were asked for. -/
namespace Go.Proofs.YtcjfgbcdlcdeaaaGreatDoor
open Go.RowKit
set_option maxRecDepth 100000
set_option linter.unusedVariables false
set_option linter.unusedSimpArgs false

theorem Tryz.laidOutI : laidOutB Tryz.prog = true := by kernel_rfl
/-- A pair of names as a key. -/
def pairK (p : Pair) : List UInt8 := keyBytes [.string p.1, .string p.2]
theorem Tryz.keyPairs : Go.Maps.Keyed Tryz.prog 242 := Go.Maps.Keyed.of_law (deep_law_laid Tryz.laidOutI (m := 2) (by omega) (of_decide_eq_true (by kernel_rfl)) (by kernel_rfl) (by kernel_rfl))
theorem Tryz.typesPos : 0 < Tryz.prog.types.size := of_decide_eq_true (by kernel_rfl)
theorem pairK_inj {p q : Pair} (hp : p.1.length ≤ 100 ∧ p.2.length ≤ 100) (hq : q.1.length ≤ 100 ∧ q.2.length ≤ 100) (h : pairK p = pairK q) : p = q := by
  have := keyBytes_inj (l := [.string p.1, .string p.2]) (l' := [.string q.1, .string q.2]) ⟨trivial, trivial, trivial⟩
    (by intro a ha; simp at ha; rcases ha with rfl | rfl <;> (unfold Lit.keyWf maxLen; omega)) (by intro a ha; simp at ha; rcases ha with rfl | rfl <;> (unfold Lit.keyWf maxLen; omega)) h
  simp at this
  exact Prod.ext this.1 this.2
theorem Tryz.keyPair {a b : Name} (ha : a.length ≤ 100) (hb : b.length ≤ 100) : keyOf Tryz.prog 242 (.agg #[.string ⟨a.toArray⟩, .string ⟨b.toArray⟩]) = some (.string (pairK (a, b))) := by
  have hkt : Tryz.prog.keyType 242 = true := by kernel_rfl
  have hc : Tryz.prog.cellsOf 242 = 2 := by kernel_rfl
  have hs : Tryz.prog.cellsOf 9 = 1 := by kernel_rfl
  have h0 : 0 < Tryz.prog.types.size := Tryz.typesPos
  obtain ⟨d, hd⟩ := Nat.exists_eq_succ_of_ne_zero (Nat.pos_iff_ne_zero.1 h0)
  have e1 : (⟨a.toArray⟩ : ByteArray).size = a.length := by simp [ByteArray.size]
  have e2 : (⟨b.toArray⟩ : ByteArray).size = b.length := by simp [ByteArray.size]
  have l1 : a.length ≤ 9223372036854775807 := by omega
  have l2 : b.length ≤ 9223372036854775807 := by omega
  unfold keyOf
  simp only [Tryz.underlying242]
  have hL : Tryz.prog.keyLits (Tryz.prog.types.size + 1) 242 [.string ⟨a.toArray⟩, .string ⟨b.toArray⟩] = some [.string a, .string b] := by
    rw [hd]
    simp only [Program.keyLits, Tryz.underlying242, Tryz.underlying9, hc, hs, e1, e2, maxLen]
    simp [Program.keyLits, Tryz.underlying242, Tryz.underlying9, hc, hs, e1, e2, l1, l2, maxLen]
  have hf : (Value.agg #[.string ⟨a.toArray⟩, .string ⟨b.toArray⟩]).formed Tryz.prog 242 = true := by
    simp [Value.formed, Tryz.underlying242, hc]
  simp only [hkt, hf, Bool.and_self, if_true, Value.cells, hL, Option.map_some]
  rfl

/-- What the map of pairs gives. -/
def askedF (m : List Pair) (l : Lit) : Value := .bool (m.any fun p => l.sameKey (.string (pairK p)))
theorem askedF_snoc (m : List Pair) (p : Pair) (l : Lit) : (if l.sameKey (.string (pairK p)) = true then .bool true else askedF m l) = askedF (m ++ [p]) l := by
  unfold askedF
  rw [List.any_append]
  cases h : l.sameKey (.string (pairK p)) <;> simp [h]
theorem askedF_at {m : List Pair} {p : Pair} (hp : p.1.length ≤ 100 ∧ p.2.length ≤ 100) (hm : ∀ q ∈ m, q.1.length ≤ 100 ∧ q.2.length ≤ 100) : askedF m (.string (pairK p)) = .bool (decide (p ∈ m)) := by
  unfold askedF
  congr 1
  rw [Bool.eq_iff_iff, List.any_eq_true, decide_eq_true_eq]
  constructor
  · rintro ⟨q, hq, h⟩
    have : pairK p = pairK q := by simpa [Lit.sameKey] using h
    rw [pairK_inj hp (hm q hq) this]; exact hq
  · intro h
    exact ⟨p, h, by simp [Lit.sameKey]⟩
theorem Tryz.zeroBool (w : World) : (zeroValue 4).run Tryz.prog w = .ok (.bool false) w := by kernel_rfl

/-- The map of pairs lies at block w0.heap.size, the question's struct behind it. -/
def IAskSt (w0 : World) (p1 p2 : Value) (w : World) (m : List Pair) : Prop :=
  Below w0.heap.size w0 w ∧ w0.heap.size + 2 ≤ w.heap.size ∧ w.cell? ⟨w0.heap.size + 1, 0, none⟩ = some p1 ∧ w.cell? ⟨w0.heap.size + 1, 1, none⟩ = some p2 ∧ w.cell? ⟨w0.heap.size + 1, 2, none⟩ = some (.map (some w0.heap.size)) ∧
    FMap Tryz.prog 242 (.bool false) w w0.heap.size m.length (askedF m)
theorem IAskSt.below {w0 w w' : World} {p1 p2 : Value} {m : List Pair} (h : IAskSt w0 p1 p2 w m) (hb : Below w.heap.size w w') : IAskSt w0 p1 p2 w' m := by
  obtain ⟨h1, h2, h3, h4, h5, h6⟩ := h
  exact ⟨h1.trans (hb.mono (by omega)), Nat.le_trans h2 hb.size, (hb.cell (p := ⟨w0.heap.size + 1, 0, none⟩) (show w0.heap.size + 1 < _ by omega)).trans h3, (hb.cell (p := ⟨w0.heap.size + 1, 1, none⟩) (show w0.heap.size + 1 < _ by omega)).trans h4,
    (hb.cell (p := ⟨w0.heap.size + 1, 2, none⟩) (show w0.heap.size + 1 < _ by omega)).trans h5, h6.below hb⟩
theorem grown_of_below {w w' : World} (h : Below w.heap.size w w') (row : Option Nat) : w.grownBy w' row := ⟨h.os, h.tape, h.output, h.size, fun k hk _ => h.block k hk⟩
theorem IAskSt.push {w0 w w5 : World} {p1 p2 : Value} {m : List Pair} {p : Pair} (h : IAskSt w0 p1 p2 w m) (hg : w.grownBy w5 (some w0.heap.size)) (hf : FMap Tryz.prog 242 (.bool false) w5 w0.heap.size (m.length + 1) (fun l => if l.sameKey (.string (pairK p)) = true then .bool true else askedF m l)) : IAskSt w0 p1 p2 w5 (m ++ [p]) := by
  obtain ⟨h1, h2, h3, h4, h5, h6⟩ := h
  have hc : ∀ j, w5.cell? ⟨w0.heap.size + 1, j, none⟩ = w.cell? ⟨w0.heap.size + 1, j, none⟩ := fun j => hg.cell_far ⟨w0.heap.size + 1, j, none⟩ (show w0.heap.size + 1 < _ by omega) (by simp)
  refine ⟨h1.grown hg (by omega) (fun k hk => by injection hk with hk; omega), Nat.le_trans h2 hg.size, (hc 0).trans h3, (hc 1).trans h4, (hc 2).trans h5, ?_⟩
  rw [List.length_append]
  exact hf.of_eq (fun l hl => askedF_snoc m p l)
/-- What asking leaves. -/
def IaPost (w0 : World) (p1 p2 : Value) (r : Bool × List Pair) (w : World) (e : Ending) (w' : World) : Prop := e = .returned (.bool r.1) ∧ IAskSt w0 p1 p2 w' r.2 ∧ w.grownBy w' (some w0.heap.size)
/-- A type reads another one, by name first. -/
def evP (S T : List Ty) (K : Kd → Kd → List Pair → Bool × List Pair) (t u : Ty) (m : List Pair) : Bool × List Pair :=
  if (t.name, u.name) ∈ m then (true, m) else evT S T K t u (m ++ [(t.name, u.name)])
end Go.Proofs.YtcjfgbcdlcdeaaaGreatDoor
