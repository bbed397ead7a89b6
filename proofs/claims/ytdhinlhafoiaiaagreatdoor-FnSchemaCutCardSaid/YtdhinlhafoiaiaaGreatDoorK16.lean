/- Texts joined: ISchema2, SOf2, SKind, IBoth, IMet1, IMet2. Conditions: as each theorem names them. -/
import Derived.Maps.AppendAt
import Derived.LaidEqlPtr
import Derived.Test.YtdhinlhafoiaiaaGreatDoorK13
import Derived.Test.YtdhinlhafoiaiaaGreatDoorK15
/- readSchema of the program: the lines. -/
namespace Go.Proofs.YtdhinlhafoiaiaaGreatDoor
open Go.RowKit
set_option maxRecDepth 100000
set_option linter.unusedVariables false
set_option linter.unusedSimpArgs false
attribute [local go_sem] ba_get ba_toList ba_extract take_drop_all ByteArray.mk_append_mk

theorem ISc.tys {w : World} {p : Value} {xs : List PT} (h : ISc w p xs) : ∀ x ∈ xs, ITy w x := by
  obtain ⟨_, _, _, _, _, _, _, _, _, _, h, _⟩ := h
  exact h
set_option maxHeartbeats 4000000 in
theorem iSchema_go (s : List UInt8) (w : World) (hs : s.length ≤ 400) :
    Calls Tryz.prog 86 #[.string ⟨s.toArray⟩] w (IsPost (schemaL s) w) := by
  have HF := Lib.hid (show schemaL s = (match linesI (s.length + 1) s [] with | none => none | some S => if kindsOk S ∧ (∀ t ∈ S, endsN S 9 t = true) then some S else none) from if_neg (by omega))
  have t1 : ¬ (400 : Int) < (s.length : Int) := by omega
  have hmm := @run_makeMap Tryz.prog
  go_enter Tryz.func86, Tryz.ntmps86
  go_wp2_with fail
  clear hmm
  have HM0 := Lib.hid (show FMap Tryz.prog 9 (.pointer none) ((w.alloc (.map #[] 0)).alloc (.cells #[.slice none 0 0, .map (some w.heap.size)] 132)) w.heap.size 0 (namedF []) from ((FMap.made w Tryz.prog 9 (.pointer none)).alloc _).of_eq (fun l hl => by cases l <;> rfl))
  have HR0 := Lib.hid (show ((w.alloc (.map #[] 0)).alloc (.cells #[.slice none 0 0, .map (some w.heap.size)] 132)).rangeAt (w.heap.size + 1) 0 [.slice none 0 0, .map (some w.heap.size)] from by
    have := rangeAt_new (w.alloc (.map #[] 0)) [.slice none 0 0, .map (some w.heap.size)] 132
    simpa using this)
  have HK0 := Lib.hid (show ((w.alloc (.map #[] 0)).alloc (.cells #[.slice none 0 0, .map (some w.heap.size)] 132)).there (w.heap.size + 1) 0 2 from by
    have := there_new (w.alloc (.map #[] 0)) [.slice none 0 0, .map (some w.heap.size)] 132
    simpa using this)
  have HB0 := Lib.hid (show Below w.heap.size w ((w.alloc (.map #[] 0)).alloc (.cells #[.slice none 0 0, .map (some w.heap.size)] 132)) from ((Below.refl _ _).alloc (Nat.le_refl _) _).alloc (by simp) _)
  have HO0 := Lib.hid (World.ownsRow_nil ((w.alloc (.map #[] 0)).alloc (.cells #[.slice none 0 0, .map (some w.heap.size)] 132)) (w.heap.size + 2) 75 1)
  go_loopw [0] (fun l wr => ∃ (u : List UInt8) (fuel : Nat) (xs : List PT) (tv : Value), l = .string ⟨u.toArray⟩ ∧ u.length ≤ s.length ∧ u.length < fuel ∧ Hid (linesI (s.length + 1) s [] = linesI fuel u (ptysOf xs)) ∧ xs.length ≤ 8 ∧
      Hid (wr.rangeAt (w.heap.size + 1) 0 [tv, .map (some w.heap.size)]) ∧ Hid (wr.there (w.heap.size + 1) 0 2) ∧ Hid (wr.ownsRow (w.heap.size + 2) 75 1 tv xs.length (xs.map (·.ptr))) ∧
      Hid (INamed wr w.heap.size xs) ∧ Hid (ITys wr (w.heap.size + 2) tv xs) ∧ Hid (Below w.heap.size w wr) ∧ w.heap.size + 2 ≤ wr.heap.size) (fun l _ => strLen l)
  case atStart => exact ⟨s, s.length + 1, [], .slice none 0 0, rfl, Nat.le_refl _, by omega, rfl, by simp, HR0.out, HK0.out, HO0.out, HM0.out, ⟨by simp, List.Pairwise.nil⟩, HB0.out, by simp⟩
  case round =>
    clear HM0 HR0 HK0 HB0 HO0
    obtain ⟨wo, rfl⟩ : ∃ wo : World, wo = wr := ⟨_, rfl⟩
    obtain ⟨u, fuel, xs, tv, rfl, hul, hfu, hlin, hx8, hT, hK, hown, hnm, hty, hbr, hzr⟩ := hrel
    obtain ⟨A, cA, rfl, hrow⟩ := RowAt.own hown.out
    have Hrow := Lib.hid hrow
    have s0 : wo.cell? ⟨w.heap.size + 1, 0, none⟩ = some (.slice A xs.length cA) := by simpa using rangeAt_cell hT.out 0 rfl
    have s1 : wo.cell? ⟨w.heap.size + 1, 1, none⟩ = some (.map (some w.heap.size)) := by simpa using rangeAt_cell hT.out 1 rfl
    obtain ⟨fuel, rfl⟩ : ∃ f, fuel = f + 1 := ⟨fuel - 1, by omega⟩
    clear hrow
    by_cases hu : u = []
    · subst hu
      have Hlin := Lib.hid (show linesI (s.length + 1) s [] = some (ptysOf xs) by rw [hlin.out]; simp [linesI])
      have hgood := linesI_eq.1 Hlin.out
      have Htok := Lib.hid (show ∀ x ∈ xs, tyOk x.ty from fun x hx => hgood.1.1 x.ty (List.mem_map_of_mem (f := (·.ty)) hx))
      have HF2 := Lib.hid (show schemaL s = if kindsOk (ptysOf xs) ∧ (∀ t ∈ ptysOf xs, endsN (ptysOf xs) 9 t = true) then some (ptysOf xs) else none from by rw [HF.out, Hlin.out])
      have HSC := Lib.hid (show ISc wo (.pointer (some ⟨w.heap.size + 1, 0, none⟩)) xs from ⟨w.heap.size + 1, A, cA, w.heap.size, rfl, by omega, s0, s1, by have := Hrow.out; simpa using this, hnm.out, fun x hx => (hty.out.1 x hx).1, hty.out.2⟩)
      have Hrow2 := Lib.hid (show RowAt wo A xs.length (xs.map (·.ptr)) from Hrow.out)
      have HSL := Lib.hid (show ISL w.heap.size wo (.pointer (some ⟨w.heap.size + 1, 0, none⟩)) xs from ⟨w.heap.size + 1, A, cA, w.heap.size, rfl, by omega, s0, s1, Hrow2.out, hnm.out, fun x hx => (hty.out.1 x hx).1, hty.out.2, by omega, Nat.le_refl _, fun g o _ eA => by
        have := (hown.out.lt g (by rw [eA]; rfl)).1
        omega, fun x hx => ⟨by have := (hty.out.1 x hx).2.1.1; omega, fun k hn hk => by have := (hty.out.1 x hx).2.1.2 k hn hk; omega⟩⟩)
      clear hgood hlin hT hK hown hnm hty Hrow HF Hlin
      have S0 := Lib.hid s0
      go_wp2_with fail
      clear s0 s1
      go_loopw [84] (fun i wr => ∃ k : Nat, i = .int .i64 k ∧ k ≤ xs.length ∧ Hid (∀ x ∈ xs.take k, x.ty.sort ≠ 69 → ∀ f ∈ x.ty.fields, refOk (ptysOf xs) f.kind) ∧ Hid (Below wo.heap.size wo wr)) (fun i _ => xs.length - (intOf i).toNat)
      case atStart => exact ⟨0, rfl, Nat.zero_le _, by intro x hx; simp at hx, Below.refl _ _⟩
      case round =>
        obtain ⟨wp, rfl⟩ : ∃ wp : World, wp = wr := ⟨_, rfl⟩
        obtain ⟨k, rfl, hk, hin, hbp⟩ := hrel
        have k1 : (0 : Int) ≤ (k : Int) := by omega
        have hzp := hbp.out.size
        by_cases hkl : k < xs.length
        · have k2 : (k : Int) < (xs.length : Int) := by omega
          obtain ⟨bA, oA, rfl, hbA, cl⟩ := (Hrow2.out.below hbp.out).at_ hkl
          rw [List.getElem_map] at cl
          have Hts := Lib.hid (take_snoc xs k hkl)
          have Hmem := Lib.hid (List.getElem_mem hkl)
          generalize xs[k] = x at cl Hts Hmem
          unfold PT.ptr at cl
          have Hxt := Lib.hid (Htok.out x Hmem.out)
          obtain ⟨hyb, _, y0, y1, y2, y3, A7, c7, hyf, hl8, hrow7⟩ := (HSC.out.tys x Hmem.out).below hbp.out
          rw [hyf] at y2
          have Hrow7 := Lib.hid hrow7
          clear hrow7 hyf y1 y3
          go_wp2_with fail
          go_loopw [93] (fun i wr => ∃ j : Nat, i = .int .i64 j ∧ j ≤ x.ty.fields.length ∧ Hid (x.ty.sort ≠ 69 → ∀ f ∈ x.ty.fields.take j, refOk (ptysOf xs) f.kind) ∧ Hid (Below wp.heap.size wp wr)) (fun i _ => x.ty.fields.length - (intOf i).toNat)
          case atStart => exact ⟨0, rfl, Nat.zero_le _, by intro _ f hf; simp at hf, Below.refl _ _⟩
          case round =>
            obtain ⟨j, rfl, hj, hin2, hbq⟩ := hrel
            have j1 : (0 : Int) ≤ (j : Int) := by omega
            have hzq := hbq.out.size
            have x0 := (hbq.out.cell (p := ⟨x.blk, 0, none⟩) hyb).trans y0
            have hxw : x.blk < wr.heap.size := by omega
            have hxn : ¬ (x.blk = wr.heap.size) := by omega
            have Hbw := Lib.hid (show Below w.heap.size w wr from (hbr.out.trans (hbp.out.mono (by omega))).trans (hbq.out.mono (by omega)))
            have Hbo2 := Lib.hid (show Below wo.heap.size wo wr from hbp.out.trans (hbq.out.mono hzp))
            by_cases hjl : j < x.ty.fields.length
            · have j2 : (j : Int) < (x.ty.fields.length : Int) := by omega
              obtain ⟨b8, o8, rfl, hb8, hrg⟩ := IFds.range (Hrow7.out.below hbq.out) hjl
              have Hts2 := Lib.hid (take_snoc x.ty.fields j hjl)
              have Hfm := Lib.hid (List.getElem_mem hjl)
              have Hrg := Lib.hid (show wr.rangeAt b8 (o8 + j * 6) [.int .i64 (x.ty.fields[j].tag : Int), .string ⟨x.ty.fields[j].name.toArray⟩, .string ⟨x.ty.fields[j].kind.signs.toArray⟩, .string ⟨x.ty.fields[j].kind.base.toArray⟩, .string ⟨x.ty.fields[j].kind.name.toArray⟩, .string ⟨x.ty.fields[j].given.toArray⟩] from hrg)
              clear hrg
              generalize x.ty.fields[j] = f at Hts2 Hfm Hrg
              by_cases h69 : x.ty.sort = 69
              · have t69 : ((x.ty.sort.toNat : Int) != 69) = false := bne_byte_no (d := 69) h69
                have Hin2 := Lib.hid (show x.ty.sort ≠ 69 → ∀ f ∈ x.ty.fields.take (j + 1), refOk (ptysOf xs) f.kind from fun h => absurd h69 h)
                clear h69
                go_wp2_with ((with_reducible refine wpList_load_mid (op := ⟨_, .load 94 _, _, _, _, none⟩) rfl 94 _ rfl b8 (o8 + j * 6) ?_ _ _ Hrg.out Tryz.underlying94 ?_ ?_ ?_); rfl; rfl; kernel_rfl)
                go_roundw
                case rel => exact ⟨j + 1, by go_num, by omega, Hin2.out, hbq.out.alloc hzq _⟩
                case measure => simp [intOf]; omega
              · have t69 : ((x.ty.sort.toNat : Int) != 69) = true := bne_byte (d := 69) h69
                have Hkd := Lib.hid ((Hxt.out.2.2.1.1 f Hfm.out).2.2.2.2 h69).1
                have Hhas := Lib.hid (fun W (h : Below wo.heap.size wo W) => iHas_any _ xs f.kind W (HSC.out.below h).map (Nat.le_trans (name_short Hkd.out) (by decide)))
                unfold kdV at Hhas
                by_cases hrf : refOk (ptysOf xs) f.kind
                · have Hin2 := Lib.hid (show x.ty.sort ≠ 69 → ∀ f ∈ x.ty.fields.take (j + 1), refOk (ptysOf xs) f.kind from fun h g hg => by
                    rw [Hts2.out] at hg
                    rcases List.mem_append.1 hg with hg | hg
                    · exact hin2.out h g hg
                    · simp at hg; subst hg; exact hrf)
                  rw [decide_eq_true hrf] at Hhas
                  clear h69 hrf
                  go_wp2_with ((with_reducible refine wpList_load_mid (op := ⟨_, .load 94 _, _, _, _, none⟩) rfl 94 _ rfl b8 (o8 + j * 6) ?_ _ _ Hrg.out Tryz.underlying94 ?_ ?_ ?_); rfl; rfl; kernel_rfl)
                  refine (Hhas.out _ (Hbo2.out.alloc (by omega) _)).mono ?_
                  rintro e w9 ⟨rfl, hb9⟩
                  have Hb9 := Lib.hid (show Below wp.heap.size wp w9 from (hbq.out.alloc hzq _).trans (hb9.mono (by simp; omega)))
                  clear hb9
                  go_wp2_with fail
                  go_roundw
                  case rel => exact ⟨j + 1, by go_num, by omega, Hin2.out, Hb9.out⟩
                  case measure => simp [intOf]; omega
                · have Hend := Lib.hid (show schemaL s = none by
                    rw [HF2.out, if_neg]
                    rintro ⟨h, _⟩
                    exact hrf (h x.ty (List.mem_map_of_mem (f := (·.ty)) Hmem.out) h69 f Hfm.out))
                  rw [decide_eq_false hrf] at Hhas
                  clear h69 hrf
                  go_wp2_with ((with_reducible refine wpList_load_mid (op := ⟨_, .load 94 _, _, _, _, none⟩) rfl 94 _ rfl b8 (o8 + j * 6) ?_ _ _ Hrg.out Tryz.underlying94 ?_ ?_ ?_); rfl; rfl; kernel_rfl)
                  refine (Hhas.out _ (Hbo2.out.alloc (by omega) _)).mono ?_
                  rintro e w9 ⟨rfl, hb9⟩
                  have Hb9 := Lib.hid (show Below w.heap.size w w9 from (Hbw.out.alloc Hbw.out.size _).trans (hb9.mono (by simp; omega)))
                  clear hb9
                  go_wp2_with fail
                  go_ret2
                  exact IsPost.no Hend.out rfl Hb9.out
            · have j2 : ¬ (j : Int) < (x.ty.fields.length : Int) := by omega
              have Hin3 := Lib.hid (show ∀ y ∈ xs.take (k + 1), y.ty.sort ≠ 69 → ∀ f ∈ y.ty.fields, refOk (ptysOf xs) f.kind from fun y hy => by
                rw [Hts.out] at hy
                rcases List.mem_append.1 hy with hy | hy
                · exact hin.out y hy
                · simp at hy; subst hy
                  intro h f hf
                  exact hin2.out h f (by rw [List.take_of_length_le (by omega)]; exact hf))
              go_wp2_with fail
              go_roundw
              case rel => exact ⟨k + 1, by go_num, by omega, Hin3.out, Hbo2.out⟩
              case measure => simp [intOf]; omega
        · have k2 : ¬ (k : Int) < (xs.length : Int) := by omega
          have Hkinds := Lib.hid (show kindsOk (ptysOf xs) from fun t ht h f hf => by
            obtain ⟨x, hx, rfl⟩ := List.mem_map.1 ht
            exact hin.out x (by rw [List.take_of_length_le (by omega)]; exact hx) h f hf)
          have s9 := (hbp.out.cell (p := ⟨w.heap.size + 1, 0, none⟩) (show w.heap.size + 1 < wo.heap.size by omega)).trans S0.out
          have HSP := Lib.hid (HSC.out.below hbp.out)
          have HrowP := Lib.hid (Hrow2.out.below hbp.out)
          have HbP := Lib.hid (show Below w.heap.size w wp from hbr.out.trans (hbp.out.mono (by omega)))
          go_wp2_with fail
          clear s9
          go_loopw [116] (fun i wr => ∃ m : Nat, i = .int .i64 m ∧ m ≤ xs.length ∧ Hid (∀ x ∈ xs.take m, endsN (ptysOf xs) 9 x.ty = true) ∧ Hid (Below wp.heap.size wp wr)) (fun i _ => xs.length - (intOf i).toNat)
          case atStart => exact ⟨0, rfl, Nat.zero_le _, by intro x hx; simp at hx, Below.refl _ _⟩
          case round =>
            obtain ⟨m, rfl, hm, hin4, hbm⟩ := hrel
            have m1 : (0 : Int) ≤ (m : Int) := by omega
            have HbM := Lib.hid (show Below w.heap.size w wr from HbP.out.trans (hbm.out.mono HbP.out.size))
            by_cases hml : m < xs.length
            · have m2 : (m : Int) < (xs.length : Int) := by omega
              obtain ⟨bA, oA, rfl, hbA, cl⟩ := (HrowP.out.below hbm.out).at_ hml
              rw [List.getElem_map] at cl
              have Hts := Lib.hid (take_snoc xs m hml)
              have Hmem := Lib.hid (List.getElem_mem hml)
              generalize xs[m] = x at cl Hts Hmem
              have Hends := Lib.hid (iEnds_any _ xs x wr (HSP.out.below hbm.out).map (HSP.out.below hbm.out).tys Htok.out Hkinds.out Hmem.out)
              unfold PT.ptr at cl Hends
              cases hee : endsN (ptysOf xs) 9 x.ty with
              | true =>
                rw [hee] at Hends
                have Hin5 := Lib.hid (show ∀ y ∈ xs.take (m + 1), endsN (ptysOf xs) 9 y.ty = true from fun y hy => by
                  rw [Hts.out] at hy
                  rcases List.mem_append.1 hy with hy | hy
                  · exact hin4.out y hy
                  · simp at hy; subst hy; exact hee)
                clear hee
                go_wp2_with fail
                refine Hends.out.mono ?_
                rintro e w9 ⟨rfl, hb9⟩
                have Hb9 := Lib.hid (hbm.out.trans (hb9.mono hbm.out.size))
                clear hb9
                go_wp2_with fail
                go_roundw
                case rel => exact ⟨m + 1, by go_num, by omega, Hin5.out, Hb9.out⟩
                case measure => simp [intOf]; omega
              | false =>
                rw [hee] at Hends
                have Hend := Lib.hid (show schemaL s = none by
                  rw [HF2.out, if_neg]
                  rintro ⟨_, h⟩
                  have := h x.ty (List.mem_map_of_mem (f := (·.ty)) Hmem.out)
                  rw [hee] at this; cases this)
                clear hee
                go_wp2_with fail
                refine Hends.out.mono ?_
                rintro e w9 ⟨rfl, hb9⟩
                have Hb9 := Lib.hid (HbM.out.trans (hb9.mono HbM.out.size))
                clear hb9
                go_wp2_with fail
                go_ret2
                exact IsPost.no Hend.out rfl Hb9.out
            · have m2 : ¬ (m : Int) < (xs.length : Int) := by omega
              have Hfin := Lib.hid (show schemaL s = some (ptysOf xs) by
                rw [HF2.out, if_pos]
                refine ⟨Hkinds.out, fun t ht => ?_⟩
                obtain ⟨x, hx, rfl⟩ := List.mem_map.1 ht
                exact hin4.out x (by rw [List.take_of_length_le (by omega)]; exact hx))
              go_wp2_with fail
              go_ret2
              exact IsPost.yes Hfin.out rfl ((HSL.out.below hbp.out).below hbm.out) HbM.out
    · have hu1 : u.isEmpty = false := by simpa using hu
      have hu2 : (!u.isEmpty) = true := by simpa using hu
      have hu3 : (u == []) = false := by simpa using hu
      have hu4 : (u != []) = true := by simpa using hu
      have Hlin := Lib.hid (show linesI (s.length + 1) s [] = (if (cutL 10 u).2.2 = false ∨ (ptysOf xs).length = 8 then none else match typeI (cutL 10 u).1 with
        | none => none
        | some t => if (ptysOf xs).any (fun v => decide (v.name = t.name)) = true then none else linesI fuel (cutL 10 u).2.1 (ptysOf xs ++ [t])) by rw [hlin.out, linesI, if_neg hu]; rfl)
      have Hcut := Lib.hid (fun W => Cut_any u 10 W (by omega))
      have hcl := cutL_len 10 u
      have hsh : (cutL 10 u).2.2 = true → (cutL 10 u).2.1.length < u.length := fun h => by
        rcases cutL_cases 10 u with ⟨_, e⟩ | ⟨p, t, e1, _, e⟩
        · rw [e] at h; cases h
        · rw [e]; show t.length < u.length; rw [e1]; simp; omega
      have Hsh := Lib.hid hsh
      generalize cutL 10 u = q at *
      obtain ⟨ln, rest, told⟩ := q
      simp only at hcl Hlin Hsh
      have hcl1 := hcl.1
      have hcl2 := hcl.2
      clear hcl hu hlin hsh
      go_wp2_with fail
      refine (Hcut.out _).mono ?_
      rintro e w1 ⟨rfl, k1, rfl⟩
      unfold cutV
      cases told with
      | false =>
        have Hend := Lib.hid (show schemaL s = none by rw [HF.out, Hlin.out]; simp)
        go_wp2_with fail
        go_ret2
        exact IsPost.no Hend.out rfl (below_drewN hbr.out _)
      | true =>
        have hrl := Hsh.out (by simp)
        rcases Nat.eq_or_lt_of_le hx8 with h8 | h8
        · have q1 : ((xs.length : Int) == 8) = true := by simp [h8]
          have Hend := Lib.hid (show schemaL s = none by rw [HF.out, Hlin.out]; simp [ptysOf, h8])
          clear h8
          go_wp2_with fail
          go_ret2
          exact IsPost.no Hend.out rfl (below_drewN hbr.out _)
        · have q1 : ((xs.length : Int) == 8) = false := by rw [beq_eq_false_iff_ne]; omega
          have Hlin2 := Lib.hid (show linesI (s.length + 1) s [] = (match typeI ln with
            | none => none
            | some t => if (ptysOf xs).any (fun v => decide (v.name = t.name)) = true then none else linesI fuel rest (ptysOf xs ++ [t])) by rw [Hlin.out, if_neg (by simp [ptysOf]; omega)])
          have Htype := Lib.hid (fun W => readType_any ln W (by omega))
          have Htok := Lib.hid (fun t (h : typeI ln = some t) => (typeI_some.1 h).1)
          clear Hlin
          generalize typeI ln = ot at Hlin2 Htype Htok
          go_wp2_with fail
          refine (Htype.out _).mono ?_
          rintro e w2 ⟨hcase, hb2⟩
          have hbo : Below wo.heap.size wo w2 := (below_drewN (Below.refl _ _) k1).trans (by simpa using hb2)
          have Hbo := Lib.hid hbo
          cases ot with
          | none =>
            obtain ⟨pp, rfl⟩ := hcase
            have Hend := Lib.hid (show schemaL s = none by rw [HF.out, Hlin2.out])
            go_wp2_with fail
            refine wp_region_slots3 [45, 46, 47, 48, 49, 50, 51, 52, 53, 54, 55, 56, 57, 58] (by kernel_rfl) (by kernel_rfl) (by kernel_rfl) (fun u => by dsimp only [frameOf, setMany, List.set, Nat.zero_add, Nat.reduceAdd])
              (fun i v W => match i with | 0 => v = .bool false | 1 => v = .bool true | 2 => v = .bool true | 13 => v = .bool true | _ => True) (fun L U W => ∃ q, W = (w2).drewN q) (fun _ _ => True) (fun _ _ _ _ _ h => h) ⟨1, rfl⟩ ?_ ?_
            · repeat (first | exact Steps.nil | (refine Steps.cons ?_ ?_; rotate_left))
              all_goals
                rintro L U W hL hpre ⟨q, rfl⟩ hun hdep K hK
                clear hun hdep
                first | (simp [Region.binds] at hpre; done) | simp [Region.binds] at hpre | clear hpre
                go_simp
                first | exact hK _ _ _ rfl trivial ⟨q, rfl⟩ rfl | exact hK _ _ _ rfl trivial ⟨q, rfl⟩ (by simp [Act.put, hpre]) | exact hK undef _ _ trivial trivial ⟨q, rfl⟩ (by simp [Act.put, hpre]) | exact hK _ _ _ trivial trivial ⟨q, rfl⟩ rfl | exact hK _ _ _ trivial trivial ⟨q, rfl⟩ (by simp [Act.put, hpre])
            · rintro L U W hL hφ ⟨q, rfl⟩
              have e13 : U 13 = .bool true := hφ 13 (by decide)
              simp only [e13]
              clear hφ hL
              go_wp2_with fail
              go_ret2
              exact IsPost.no Hend.out rfl (below_drewN (hbr.out.trans (Hbo.out.mono (by omega))) _)
          | some t =>
            obtain ⟨x, hxt, rfl, hxb, hxty, hxf⟩ := hcase
            subst hxt
            have hxb2 : wo.heap.size ≤ x.blk := by simpa using hxb
            have hxz : x.blk < w2.heap.size := hxty.1
            have y1 : w2.cell? ⟨x.blk, 1, none⟩ = some (.string ⟨x.ty.name.toArray⟩) := hxty.2.2.2.1
            have u0 := (hbo.cell (p := ⟨w.heap.size + 1, 0, none⟩) (show w.heap.size + 1 < wo.heap.size by omega)).trans s0
            have u1 := (hbo.cell (p := ⟨w.heap.size + 1, 1, none⟩) (show w.heap.size + 1 < wo.heap.size by omega)).trans s1
            have Hnm2 := Lib.hid (FMap.below hnm.out hbo)
            have Hxty := Lib.hid hxty
            have Hxf := Lib.hid hxf
            have Htk := Lib.hid (Htok.out x.ty rfl)
            have hnl : x.ty.name.length ≤ 3 := (nameOk_iff.1 Htk.out.2.1).2.1
            have hlook : ∀ q, (Instr.lookup 130 (.map (some w.heap.size)) (.string ⟨x.ty.name.toArray⟩) false).run Tryz.prog (w2.drewN q) = .ok (ptrP (findP xs x.ty.name)) (w2.drewN q) := fun q => named_look (FMap.below Hnm2.out (below_drewN (Below.refl _ _) q)) x.ty.name (by omega)
            have hz2 : wo.heap.size ≤ w2.heap.size := hbo.size
            clear hbo s0 s1 hxty hxf
            unfold PT.ptr
            cases hfp : findP xs x.ty.name with
            | some z =>
              have Hend := Lib.hid (show schemaL s = none by
                rw [HF.out, Hlin2.out]
                have : (ptysOf xs).any (fun v => decide (v.name = x.ty.name)) = true := by
                  cases hh : (ptysOf xs).any (fun v => decide (v.name = x.ty.name)) with
                  | true => rfl
                  | false => rw [findP_none.2 hh] at hfp; cases hfp
                simp [this])
              rw [hfp] at hlook
              unfold ptrP PT.ptr at hlook
              clear hfp
              go_wp2_with fail
              refine wp_region_slots3 [45, 46, 47, 48, 49, 50, 51, 52, 53, 54, 55, 56, 57, 58] (by kernel_rfl) (by kernel_rfl) (by kernel_rfl) (fun u => by dsimp only [frameOf, setMany, List.set, Nat.zero_add, Nat.reduceAdd])
                (fun i v W => match i with | 0 => v = .bool true | 1 => v = .bool false | 2 => v = .bool false | 3 => v = .pointer (some ⟨w.heap.size + 1, 0, none⟩) | 4 => v = .pointer (some ⟨w.heap.size + 1, 0, none⟩) | 5 => v = .pointer (some ⟨w.heap.size + 1, 1, none⟩) | 6 => v = .map (some w.heap.size) | 7 => v = .pointer (some ⟨x.blk, 0, none⟩) | 8 => v = .pointer (some ⟨x.blk, 0, none⟩) | 9 => v = .pointer (some ⟨x.blk, 1, none⟩) | 10 => v = .string ⟨x.ty.name.toArray⟩ | 11 => v = .pointer (some ⟨z.blk, 0, none⟩) | 12 => v = .bool true | 13 => v = .bool true | _ => True) (fun L U W => ∃ q, W = (w2).drewN q) (fun _ _ => True) (fun _ _ _ _ _ h => h) ⟨1, rfl⟩ ?_ ?_
              · repeat (first | exact Steps.nil | (refine Steps.cons ?_ ?_; rotate_left))
                all_goals
                  rintro L U W hL hpre ⟨q, rfl⟩ hun hdep K hK
                  have hlq := hlook q
                  clear hun hdep
                  first | (simp [Region.binds] at hpre; done) | simp [Region.binds] at hpre | clear hpre
                  go_simp
                  first | exact hK _ _ _ rfl trivial ⟨q, rfl⟩ rfl | exact hK _ _ _ rfl trivial ⟨q, rfl⟩ (by simp [Act.put, hpre]) | exact hK undef _ _ trivial trivial ⟨q, rfl⟩ (by simp [Act.put, hpre]) | exact hK _ _ _ trivial trivial ⟨q, rfl⟩ rfl | exact hK _ _ _ trivial trivial ⟨q, rfl⟩ (by simp [Act.put, hpre])
              · rintro L U W hL hφ ⟨q, rfl⟩
                have e13 : U 13 = .bool true := hφ 13 (by decide)
                simp only [e13]
                clear hφ hL
                go_wp2_with fail
                go_ret2
                exact IsPost.no Hend.out rfl (below_drewN (hbr.out.trans (Hbo.out.mono (by omega))) _)
            | none =>
              have Hany := Lib.hid (findP_none.1 hfp)
              have Hfp := Lib.hid hfp
              rw [hfp] at hlook
              unfold ptrP at hlook
              clear hfp
              have Hlin3 := Lib.hid (show linesI (s.length + 1) s [] = linesI fuel rest (ptysOf (xs ++ [x])) by
                rw [Hlin2.out]
                show (if _ then _ else _) = _
                rw [if_neg (by rw [Hany.out]; decide)]; simp [ptysOf])
              go_wp2_with fail
              refine wp_region_slots3 [45, 46, 47, 48, 49, 50, 51, 52, 53, 54, 55, 56, 57, 58] (by kernel_rfl) (by kernel_rfl) (by kernel_rfl) (fun u => by dsimp only [frameOf, setMany, List.set, Nat.zero_add, Nat.reduceAdd])
                (fun i v W => match i with | 0 => v = .bool true | 1 => v = .bool false | 2 => v = .bool false | 3 => v = .pointer (some ⟨w.heap.size + 1, 0, none⟩) | 4 => v = .pointer (some ⟨w.heap.size + 1, 0, none⟩) | 5 => v = .pointer (some ⟨w.heap.size + 1, 1, none⟩) | 6 => v = .map (some w.heap.size) | 7 => v = .pointer (some ⟨x.blk, 0, none⟩) | 8 => v = .pointer (some ⟨x.blk, 0, none⟩) | 9 => v = .pointer (some ⟨x.blk, 1, none⟩) | 10 => v = .string ⟨x.ty.name.toArray⟩ | 11 => v = .pointer none | 12 => v = .bool false | 13 => v = .bool false | _ => True) (fun L U W => ∃ q, W = (w2).drewN q) (fun _ _ => True) (fun _ _ _ _ _ h => h) ⟨1, rfl⟩ ?_ ?_
              · repeat (first | exact Steps.nil | (refine Steps.cons ?_ ?_; rotate_left))
                all_goals
                  rintro L U W hL hpre ⟨q, rfl⟩ hun hdep K hK
                  have hlq := hlook q
                  clear hun hdep
                  first | (simp [Region.binds] at hpre; done) | simp [Region.binds] at hpre | clear hpre
                  go_simp
                  first | exact hK _ _ _ rfl trivial ⟨q, rfl⟩ rfl | exact hK _ _ _ rfl trivial ⟨q, rfl⟩ (by simp [Act.put, hpre]) | exact hK undef _ _ trivial trivial ⟨q, rfl⟩ (by simp [Act.put, hpre]) | exact hK _ _ _ trivial trivial ⟨q, rfl⟩ rfl | exact hK _ _ _ trivial trivial ⟨q, rfl⟩ (by simp [Act.put, hpre])
              · rintro L U W hL hφ ⟨q, rfl⟩
                have e13 : U 13 = .bool false := hφ 13 (by decide)
                simp only [e13]
                clear hφ hL
                obtain ⟨w3, hw3⟩ : ∃ w3, w3 = w2.drewN q := ⟨_, rfl⟩
                rw [← hw3]
                have hb3 : Below wo.heap.size wo w3 := by rw [hw3]; exact below_drewN Hbo.out _
                have hb23 : Below w2.heap.size w2 w3 := by rw [hw3]; exact below_drewN (Below.refl _ _) _
                have Hx3 := Lib.hid (Hxty.out.below hb23)
                have hown3 := ownsRow_below hown.out hb3
                have hT3 := rangeAt_below hT.out (show w.heap.size + 1 < wo.heap.size by omega) hb3
                have hK3 := there_below hK.out (show w.heap.size + 1 < wo.heap.size by omega) hb3
                have hz3 : wo.heap.size ≤ w3.heap.size := hb3.size
                have v0 : w3.cell? ⟨w.heap.size + 1, 0, none⟩ = some (.slice A xs.length cA) := by simpa using rangeAt_cell hT3 0 rfl
                have Hb3 := Lib.hid hb3
                have Hown3 := Lib.hid hown3
                have HT3 := Lib.hid hT3
                have HK3 := Lib.hid hK3
                have Hnm3 := Lib.hid (FMap.below Hnm2.out hb23)
                have Hb23 := Lib.hid hb23
                clear hlook hb3 hown3 hT3 hK3 hw3 hb23 u0 u1 y1
                go_wp2_with (at_builtin; refine wpList_app1W _ rfl _ _ 73 rfl (w.heap.size + 2) 75 (.pointer none) 8 Tryz.underlying73 Tryz.infoPt rfl w3 (.pointer (some ⟨x.blk, 0, none⟩)) rfl rfl (.slice A xs.length cA) xs.length (xs.map (·.ptr)) rfl rfl Hown3.out (by unfold maxLen; omega) (by omega) (by omega) ?_; intro v5 w5 hown5 hg5 hwh; have hb5 : Below (w.heap.size + 2) w3 w5 := (Below.refl _ _).grown hg5 (by omega) (fun k hk => (Hown3.out.lt k hk).1); have HT5 := Lib.hid (rangeAt_below HT3.out (show w.heap.size + 1 < w.heap.size + 2 by omega) hb5); have HK5 := Lib.hid (there_below HK3.out (show w.heap.size + 1 < w.heap.size + 2 by omega) hb5); have Hnm5 := Lib.hid (FMap.belowAt Hnm3.out (show w.heap.size < w.heap.size + 2 by omega) hb5); have Hty5 := Lib.hid (ITys.push hty.out Hb3.out hown.out Hx3.out hxb2 (fun k hk => (by have := Hxf.out k hk; simpa using this)) (by omega) hg5 hwh); obtain ⟨A5, n5, c5, e5⟩ := own_slice hown5; subst e5; have Hown5 := Lib.hid hown5; have Hb5 := Lib.hid hb5; have p0 : w5.cell? ⟨w.heap.size + 1, 0, none⟩ = some (.slice A xs.length cA) := (by simpa using rangeAt_cell HT5.out 0 rfl); have f0 : w5.frozen? ⟨w.heap.size + 1, 0, none⟩ = false := (by simpa using (HK5.out 0 (by decide)).2); have hz5 : w3.heap.size ≤ w5.heap.size := hg5.size; clear hown5 hg5 hwh hb5 v0)
                obtain ⟨w6, hw6⟩ : ∃ w6, w6 = w5.setCell ⟨w.heap.size + 1, 0, none⟩ (.slice A5 n5 c5) := ⟨_, rfl⟩
                rw [← hw6]
                have hg6 : w5.grownBy w6 (some (w.heap.size + 1)) := by rw [hw6]; exact grown_set _ _ _
                have hT6 : w6.rangeAt (w.heap.size + 1) 0 [.slice A5 n5 c5, .map (some w.heap.size)] := by rw [hw6]; exact rangeAt_setCells_in [] [.slice A xs.length cA] [.map (some w.heap.size)] [.slice A5 n5 c5] HT5.out rfl
                have hK6 : w6.there (w.heap.size + 1) 0 2 := by rw [hw6]; exact World.there_setCells HK5.out (w.heap.size + 1) 0 [.slice A5 n5 c5]
                have Hown6 := Lib.hid (Hown5.out.kept hg6 (.inr (fun e => by have := (Hown5.out.lt _ e).1; omega)))
                have Hnm6 := Lib.hid (FMap.kept Hnm5.out hg6 (by simp))
                have Hty6 := Lib.hid (Hty5.out.far hg6 (by omega))
                have Hb6 := Lib.hid (show Below w.heap.size w w6 from ((hbr.out.trans (Hb3.out.mono (by omega))).trans (Hb5.out.mono (by omega))).trans (by rw [hw6]; exact (Below.refl _ _).setCell (by simp) _))
                have hz6 : w.heap.size + 2 ≤ w6.heap.size := Nat.le_trans (by omega) hg6.size
                have m1 : w6.cell? ⟨w.heap.size + 1, 1, none⟩ = some (.map (some w.heap.size)) := by simpa using rangeAt_cell hT6 1 rfl
                have n1 : w6.cell? ⟨x.blk, 1, none⟩ = some (.string ⟨x.ty.name.toArray⟩) := (Hty6.out.1 x (by simp)).1.2.2.2.1
                have HT6 := Lib.hid hT6
                have HK6 := Lib.hid hK6
                clear hw6 hg6 hT6 hK6 p0 f0
                refine wp_region_slots3 [69, 70, 71, 72, 73, 74, 75, 76, 77, 999] (by kernel_rfl) (by kernel_rfl) (by kernel_rfl) (fun u => by dsimp only [frameOf, setMany, List.set, Nat.zero_add, Nat.reduceAdd])
                  (fun i v W => match i with | 0 => v = .pointer (some ⟨w.heap.size + 1, 0, none⟩) | 1 => v = .pointer (some ⟨w.heap.size + 1, 0, none⟩) | 2 => v = .pointer (some ⟨w.heap.size + 1, 1, none⟩) | 3 => v = .map (some w.heap.size) | 4 => v = .pointer (some ⟨x.blk, 0, none⟩) | 5 => v = .pointer (some ⟨x.blk, 0, none⟩) | 6 => v = .pointer (some ⟨x.blk, 1, none⟩) | 7 => v = .string ⟨x.ty.name.toArray⟩ | 8 => v = .pointer (some ⟨x.blk, 0, none⟩) | _ => True) (fun L U W => ∃ q, (L 9 = false → W = w6.drewN q) ∧ (L 9 = true → (w6.drewN q).grownBy W (some w.heap.size) ∧ INamed W w.heap.size (xs ++ [x]))) (fun _ _ => True) (fun _ _ _ _ _ h => h) ⟨1, fun _ => rfl, by simp⟩ ?_ ?_
                · repeat (first | exact Steps.nil | (refine Steps.cons ?_ ?_; rotate_left))
                  all_goals
                    rintro L U W hL hpre ⟨q, hq1, hq2⟩ hun hdep K hK
                    have Hdep := Lib.hid hdep
                    have Hq2 := Lib.hid hq2
                    clear hun hdep hq2
                    first | (simp [Region.binds] at hpre; done) | simp [Region.binds] at hpre | clear hpre
                  · obtain rfl := hq1 (Hdep.out 9 _ rfl { on := 3, ground := Ground.data } (by simp) (by rfl) (Hdep.out 3 _ rfl { on := 2, ground := Ground.data } (by simp) (by rfl) (Hdep.out 2 _ rfl { on := 1, ground := Ground.data } (by simp) (by rfl) (Hdep.out 1 _ rfl { on := 0, ground := Ground.data } (by simp) (by rfl) hL))))
                    go_simp
                    first | exact hK _ _ _ rfl trivial ⟨q, fun _ => rfl, Hq2.out⟩ rfl | exact hK _ _ _ rfl trivial ⟨q, fun _ => rfl, Hq2.out⟩ (by simp [Act.put, hpre])
                  · obtain rfl := hq1 (Hdep.out 9 _ rfl { on := 3, ground := Ground.data } (by simp) (by rfl) (Hdep.out 3 _ rfl { on := 2, ground := Ground.data } (by simp) (by rfl) (Hdep.out 2 _ rfl { on := 1, ground := Ground.data } (by simp) (by rfl) hL)))
                    go_simp
                    first | exact hK _ _ _ rfl trivial ⟨q, fun _ => rfl, Hq2.out⟩ rfl | exact hK _ _ _ rfl trivial ⟨q, fun _ => rfl, Hq2.out⟩ (by simp [Act.put, hpre])
                  · obtain rfl := hq1 (Hdep.out 9 _ rfl { on := 3, ground := Ground.data } (by simp) (by rfl) (Hdep.out 3 _ rfl { on := 2, ground := Ground.data } (by simp) (by rfl) hL))
                    go_simp
                    first | exact hK _ _ _ rfl trivial ⟨q, fun _ => rfl, Hq2.out⟩ rfl | exact hK _ _ _ rfl trivial ⟨q, fun _ => rfl, Hq2.out⟩ (by simp [Act.put, hpre])
                  · obtain rfl := hq1 (Hdep.out 9 _ rfl { on := 3, ground := Ground.data } (by simp) (by rfl) hL)
                    go_simp
                    first | exact hK _ _ _ rfl trivial ⟨q, fun _ => rfl, Hq2.out⟩ rfl | exact hK _ _ _ rfl trivial ⟨q, fun _ => rfl, Hq2.out⟩ (by simp [Act.put, hpre])
                  · obtain rfl := hq1 (Hdep.out 9 _ rfl { on := 7, ground := Ground.data } (by simp) (by rfl) (Hdep.out 7 _ rfl { on := 6, ground := Ground.data } (by simp) (by rfl) (Hdep.out 6 _ rfl { on := 5, ground := Ground.data } (by simp) (by rfl) (Hdep.out 5 _ rfl { on := 4, ground := Ground.data } (by simp) (by rfl) hL))))
                    go_simp
                    first | exact hK _ _ _ rfl trivial ⟨q, fun _ => rfl, Hq2.out⟩ rfl | exact hK _ _ _ rfl trivial ⟨q, fun _ => rfl, Hq2.out⟩ (by simp [Act.put, hpre])
                  · obtain rfl := hq1 (Hdep.out 9 _ rfl { on := 7, ground := Ground.data } (by simp) (by rfl) (Hdep.out 7 _ rfl { on := 6, ground := Ground.data } (by simp) (by rfl) (Hdep.out 6 _ rfl { on := 5, ground := Ground.data } (by simp) (by rfl) hL)))
                    go_simp
                    first | exact hK _ _ _ rfl trivial ⟨q, fun _ => rfl, Hq2.out⟩ rfl | exact hK _ _ _ rfl trivial ⟨q, fun _ => rfl, Hq2.out⟩ (by simp [Act.put, hpre])
                  · obtain rfl := hq1 (Hdep.out 9 _ rfl { on := 7, ground := Ground.data } (by simp) (by rfl) (Hdep.out 7 _ rfl { on := 6, ground := Ground.data } (by simp) (by rfl) hL))
                    go_simp
                    first | exact hK _ _ _ rfl trivial ⟨q, fun _ => rfl, Hq2.out⟩ rfl | exact hK _ _ _ rfl trivial ⟨q, fun _ => rfl, Hq2.out⟩ (by simp [Act.put, hpre])
                  · obtain rfl := hq1 (Hdep.out 9 _ rfl { on := 7, ground := Ground.data } (by simp) (by rfl) hL)
                    go_simp
                    first | exact hK _ _ _ rfl trivial ⟨q, fun _ => rfl, Hq2.out⟩ rfl | exact hK _ _ _ rfl trivial ⟨q, fun _ => rfl, Hq2.out⟩ (by simp [Act.put, hpre])
                  · obtain rfl := hq1 (Hdep.out 9 _ rfl { on := 8, ground := Ground.data } (by simp) (by rfl) hL)
                    go_simp
                    first | exact hK _ _ _ rfl trivial ⟨q, fun _ => rfl, Hq2.out⟩ rfl | exact hK _ _ _ rfl trivial ⟨q, fun _ => rfl, Hq2.out⟩ (by simp [Act.put, hpre])
                  · obtain rfl := hq1 hL
                    obtain ⟨w7, hrun, r1, r2⟩ := FMap.store (FMap.below Hnm6.out (below_drewN (Below.refl _ _) q)) Tryz.keyStr Tryz.underlying130 (by unfold maxLen; omega) (.pointer (some ⟨x.blk, 0, none⟩)) (keyName (n := x.ty.name) (by omega))
                    have hn7 : INamed w7 w.heap.size (xs ++ [x]) := by
                      unfold INamed
                      rw [List.length_append]
                      exact r1.of_eq (fun l hl => namedF_snoc Hfp.out l hl)
                    have R2 := Lib.hid r2
                    have Hn7 := Lib.hid hn7
                    clear r1 r2 hn7
                    go_simp
                    exact hK undef _ _ trivial trivial ⟨q, fun h => by simp at h, fun _ => ⟨R2.out, Hn7.out⟩⟩ (by simp [Act.put, hpre])
                · rintro L U W hL hφ ⟨q, _, hq2⟩
                  obtain ⟨hg7, hn7⟩ := hq2 (hL 9 (by decide))
                  have hzq : w6.heap.size ≤ W.heap.size := by have := hg7.size; simpa using this
                  have hb7 : Below w.heap.size w W := (below_drewN Hb6.out q).grown hg7 (by simp; omega) (fun k hk => by injection hk with hk; omega)
                  have HT7 := Lib.hid (rangeAt_grown (rangeAt_below HT6.out (show w.heap.size + 1 < w6.heap.size by omega) (below_drewN (Below.refl _ _) q)) hg7 (by simp))
                  have HK7 := Lib.hid (there_grown (there_below HK6.out (show w.heap.size + 1 < w6.heap.size by omega) (below_drewN (Below.refl _ _) q)) hg7 (by simp; omega) (by simp))
                  have Hown7 := Lib.hid ((ownsRow_below Hown6.out (below_drewN (Below.refl _ _) q)).kept hg7 (.inr (fun e => by have := (Hown6.out.lt _ e).1; omega)))
                  have Hty7 := Lib.hid ((Hty6.out.below (below_drewN (Below.refl _ _) q)).far hg7 (by omega))
                  have Hn7 := Lib.hid hn7
                  have Hb7 := Lib.hid hb7
                  clear hL hφ hq2 hg7 hn7 hb7 m1 n1
                  go_wp2_with fail
                  go_roundw
                  case rel => exact ⟨rest, fuel, xs ++ [x], .slice A5 n5 c5, rfl, by omega, by omega, Hlin3.out, by simp; omega, HT7.out, HK7.out, by rw [List.length_append, List.map_append]; exact Hown7.out, Hn7.out, Hty7.out, Hb7.out, by omega⟩
                  case measure => rw [strLen_mk, strLen_mk]; omega

theorem readSchema_any (s : List UInt8) (w : World) (hs : s.length ≤ 4000000) :
    Calls Tryz.prog 86 #[.string ⟨s.toArray⟩] w (IsPost (schemaL s) w) := by
  by_cases h : 400 < s.length
  · exact iSchema_long s w hs h
  · exact iSchema_go s w (by omega)
end Go.Proofs.YtdhinlhafoiaiaaGreatDoor
/- l3Of, walked whole. -/
namespace Go.Proofs.YtdhinlhafoiaiaaGreatDoor
open Go.RowKit
set_option maxRecDepth 100000
set_option linter.unusedVariables false
set_option linter.unusedSimpArgs false
attribute [local go_sem] ba_get ba_toList ba_extract take_drop_all ByteArray.mk_append_mk

set_option maxHeartbeats 2000000 in
theorem sOf_lines (s : List UInt8) (w : World) (h4 : s.length ≤ 400) (h9 : ¬ 9 < (splitL 10 s).length) (hlast : (splitL 10 s).getLast? = some []) :
    Calls Tryz.prog 94 #[.string ⟨s.toArray⟩] w (ScPost (schemaL s) w) := by
  have HL := Lib.hid (linesS_go h9 hlast)
  have Hcut := Lib.hid (fun W => l3Cut_any s 10 10 rfl W (by omega))
  have hne := splitL_ne 10 s
  have Hpl := Lib.hid (splitL_plen 10 s)
  generalize splitL 10 s = L at h9 hlast HL Hcut hne Hpl
  go_enter Tryz.func94, Tryz.ntmps94
  go_wp2_with fail
  refine (Hcut.out _).mono ?_
  rintro e w1 ⟨v, rfl, ho, hb⟩
  obtain ⟨g, c, rfl, hg1, hg2, hcells⟩ := own_texts ho hne
  have hpos : 0 < L.length := List.length_pos_iff.2 hne
  have Hb := Lib.hid hb
  have Hcells := Lib.hid hcells
  have hz1 := hb.size
  have k1 : (0 : Int) ≤ (L.length : Int) - 1 := by omega
  have k2 : (L.length : Int) - 1 < (L.length : Int) := by omega
  have k3 : ((L.length : Int) - 1).toNat = L.length - 1 := by omega
  have q1 : ¬ (400 : Int) < (s.length : Int) := by omega
  have q2 : ¬ (9 : Int) < (L.length : Int) := by omega
  have cl := hcells (L.length - 1) (by omega)
  have he : L[L.length - 1] = [] := by
    rw [List.getLast?_eq_getElem?, List.getElem?_eq_getElem (by omega)] at hlast
    simpa using hlast
  rw [he] at cl
  have hDl : L.dropLast.length = L.length - 1 := by simp
  clear he hlast hcells ho hb hne
  go_wp2_with fail
  go_loopw [5, 6] (fun v i wr => ∃ (xs : List (Ty × Value)), i = .int .i64 (xs.length : Nat) ∧ xs.length + 1 ≤ L.length ∧ Hid (typesL L.dropLast = (typesL (L.dropLast.drop xs.length)).map (tysOf xs ++ ·)) ∧
      Hid (wr.ownsRow w1.heap.size 86 3 v xs.length (xs.flatMap stc)) ∧ Hid (OwnTys wr w1.heap.size xs) ∧ Hid (Below w1.heap.size w1 wr) ∧ w1.heap.size ≤ wr.heap.size) (fun _ i _ => L.length - (intOf i).toNat)
  case atStart => exact ⟨[], rfl, by simp; omega, by simp [Hid, tysOf], World.ownsRow_lit (base := w1.heap.size) (e := 86) (size := 3) w1 #[] 0 (Nat.le_refl _) (Nat.zero_le _) rfl, by intro x hx; simp at hx, (Below.refl _ _).alloc (Nat.le_refl _) _, by simp⟩
  case round =>
    obtain ⟨xs, rfl, hxl, hty, hown, htys, hbr, hszr⟩ := hrel
    obtain ⟨A, cA, rfl, hrA⟩ := RowAt.ownK hown.out (by unfold maxLen; omega)
    have HrA := Lib.hid hrA
    have HbW := Lib.hid (Hb.out.trans (hbr.out.mono hz1))
    clear hrA
    by_cases hlt : xs.length + 1 < L.length
    · have j1 : (xs.length : Int) + 1 < (L.length : Int) := by omega
      have j2 : (0 : Int) ≤ (xs.length : Int) := by omega
      have j3 : (xs.length : Int) < (L.length : Int) := by omega
      have cell : _ := (hbr.out.cell (p := ⟨g, xs.length, none⟩) hg2).trans (Hcells.out xs.length (by omega))
      have hstep := typesL_step (L := L.dropLast) (k := xs.length) (by omega) hty.out
      have hge : L.dropLast[xs.length]'(by omega) = L[xs.length] := by simp
      rw [hge] at hstep
      have hpl := Hpl.out _ (List.getElem_mem (show xs.length < L.length by omega))
      have Hstep := Lib.hid hstep
      generalize L[xs.length] = p at cell Hstep hpl
      have Hread := Lib.hid (fun W => sReadType_any p W (by omega))
      have Htok := Lib.hid (fun t (h : typeS p = some t) => (typeI_some.1 ((typeS_eq p).symm.trans h)).1)
      generalize typeS p = o at Hstep Hread Htok
      clear hstep hge hty
      go_wp2_with fail
      refine (Hread.out _).mono ?_
      rintro e w4 ⟨hcase, hb4⟩
      have HbW4 := Lib.hid (HbW.out.trans (hb4.mono HbW.out.size))
      cases o with
      | none =>
        obtain ⟨x, a, A2, n2, c2, rfl⟩ := hcase
        have Hno := Lib.hid (show schemaL s = none from schemaL_lines (.inr (HL.out.trans Hstep.out)))
        clear hb4
        go_wp2_with fail
        refine bodyPost_ret (v := .tuple #[.slice none 0 0, .bool false]) (by simp [results, Tryz.results94, go_sem]) rfl ?_
        exact ScPost.no Hno.out rfl (by (repeat (first | exact HbW4.out | refine Below.setCell ?_ (by first | exact Nat.le_refl _ | exact HbW4.out.size | (simp; done) | (simp; omega) | omega) _ | refine Below.alloc ?_ (by first | exact Nat.le_refl _ | exact HbW4.out.size | (simp; done) | (simp; omega) | omega) _ | refine Below.drew ?_)))
      | some t =>
        obtain ⟨fv, rfl, hfv⟩ := hcase
        have htk := Htok.out t rfl
        have h8 := htk.2.2.2.1
        obtain ⟨A2, c2, rfl, _⟩ := RowAt.ownK hfv (by unfold maxLen; omega)
        have Hstep2 := Lib.hid (show typesL L.dropLast = (typesL (L.dropLast.drop (xs.length + 1))).map ((tysOf xs ++ [t]) ++ ·) from Hstep.out)
        have Hw5 := Lib.hid ((ownsRow_below hown.out hb4).alloc (.cells #[.int .u8 (t.sort.toNat : Int), .string ⟨t.name.toArray⟩, .slice A2 t.fields.length c2] 86))
        have Hbb := Lib.hid (show Below w1.heap.size w1 (w4.alloc (.cells #[.int .u8 (t.sort.toNat : Int), .string ⟨t.name.toArray⟩, .slice A2 t.fields.length c2] 86)) from (hbr.out.trans (hb4.mono hszr)).alloc (Nat.le_trans hszr hb4.size) _)
        have Hty5 := Lib.hid (show OwnTys (w4.alloc (.cells #[.int .u8 (t.sort.toNat : Int), .string ⟨t.name.toArray⟩, .slice A2 t.fields.length c2] 86)) w1.heap.size (xs ++ [(t, .slice A2 t.fields.length c2)]) from by
          intro x hx
          rcases List.mem_append.1 hx with hx | hx
          · exact ⟨(ownsRow_below ((htys.out x hx).1) hb4).alloc _, (htys.out x hx).2⟩
          · simp at hx; subst hx; exact ⟨(ownsRow_base hfv hszr).alloc _, htk⟩)
        have hz5 : w1.heap.size ≤ w4.heap.size + 1 := by have := hb4.size; omega
        have Hsz5 := Lib.hid (show (w4.alloc (.cells #[.int .u8 (t.sort.toNat : Int), .string ⟨t.name.toArray⟩, .slice A2 t.fields.length c2] 86)).heap.size = w4.heap.size + 1 from by simp)
        clear hfv htk hb4
        unfold styV
        go_wp2_with (at_builtin; go_loud (refine wpList_appG _ rfl _ _ 80 rfl w1.heap.size 86 (.agg #[.int .u8 0, .string ⟨#[]⟩, .slice none 0 0]) 3 48 Tryz.underlying80 Tryz.infoSt rfl (by decide) (w4.alloc (.cells #[.int .u8 (t.sort.toNat : Int), .string ⟨t.name.toArray⟩, .slice A2 t.fields.length c2] 86)) [.int .u8 (t.sort.toNat : Int), .string ⟨t.name.toArray⟩, .slice A2 t.fields.length c2] rfl rfl (by simp [Value.oneCell']) _ xs.length (xs.flatMap stc) rfl (by rw [Hsz5.out]; rfl) Hw5.out (by unfold maxLen; omega) (by omega) (by simp; omega) ?_; intro v5 w5 hown5 hb5 hg5; have Hty6 := Lib.hid ((Hty5.out.below ((Below.refl _ _).alloc (Nat.le_refl _) _)).grown (Hw5.out.alloc _) (by decide) hg5); have Hown5 := Lib.hid hown5; have Hb5 := Lib.hid (Hbb.out.trans hb5); clear hown5 hb5 hg5))
        go_roundw
        case rel =>
          refine ⟨xs ++ [(t, Value.slice A2 t.fields.length c2)], by rw [List.length_append]; go_num, by simp; omega, ?_, ?_, ?_, Hb5.out, Hb5.out.size⟩
          · show typesL L.dropLast = _
            rw [Hstep2.out]; simp [tysOf]
          · show World.ownsRow _ _ _ _ _ _ _
            rw [List.flatMap_append, List.length_append]
            exact Hown5.out
          · exact Hty6.out
        case measure => simp [intOf]; omega
    · have j1 : ¬ (xs.length : Int) + 1 < (L.length : Int) := by omega
      have Hlin := Lib.hid (show linesS s = some (tysOf xs) by
        rw [HL.out, hty.out, List.drop_of_length_le (by omega)]
        simp [typesL])
      have Hval := Lib.hid (fun (_ : Unit) => sValid_any (.slice A xs.length cA) xs wr (SSc.own hown.out (by omega) htys.out) (fun x hx => (htys.out x hx).2))
      have Hs := Lib.hid (SSc.own hown.out (by omega) htys.out)
      clear hty
      go_wp2_with fail
      refine (Hval.out ()).mono ?_
      rintro e w4 ⟨⟨b, rfl, hbv⟩, hb4⟩
      have Hfin := Lib.hid (schemaL_valid h4 Hlin.out b hbv)
      have HbW4 := Lib.hid (HbW.out.trans (hb4.mono HbW.out.size))
      have Hs4 := Lib.hid (Hs.out.below hb4)
      clear hb4 hbv
      cases b with
      | true =>
        go_wp2_with fail
        refine bodyPost_ret (v := .tuple #[.slice A xs.length cA, .bool true]) (by simp [results, Tryz.results94, go_sem]) rfl ?_
        exact ScPost.yes (xs := xs) Hfin.out rfl Hs4.out HbW4.out
      | false =>
        go_wp2_with fail
        refine bodyPost_ret (v := .tuple #[.slice A xs.length cA, .bool false]) (by simp [results, Tryz.results94, go_sem]) rfl ?_
        exact ScPost.no Hfin.out rfl HbW4.out

theorem sOf_any (s : List UInt8) (w : World) (hs : s.length ≤ 4000000) :
    Calls Tryz.prog 94 #[.string ⟨s.toArray⟩] w (ScPost (schemaL s) w) := by
  by_cases h1 : 400 < s.length
  · exact sOf_early s w hs (.inl h1)
  · by_cases h2 : 9 < (splitL 10 s).length
    · exact sOf_early s w hs (.inr (.inl h2))
    · by_cases h3 : (splitL 10 s).getLast? = some []
      · exact sOf_lines s w (by omega) h2 h3
      · exact sOf_early s w hs (.inr (.inr h3))
end Go.Proofs.YtdhinlhafoiaiaaGreatDoor
/- l3Kind: reads a schema, and says whether a kind is one of it. -/
namespace Go.Proofs.YtdhinlhafoiaiaaGreatDoor
open Go.RowKit
set_option maxRecDepth 100000
set_option linter.unusedVariables false
set_option linter.unusedSimpArgs false
attribute [local go_sem] ba_get ba_toList ba_extract take_drop_all ByteArray.mk_append_mk

/-- A schema and a kind that fit. -/
def bothL (s d : List UInt8) : Option (List Ty × Kd) :=
  match schemaL s with
  | none => none
  | some S => match kindL d with
    | none => none
    | some k => if refOk S k then some (S, k) else none
def KiPost (o : Option (List Ty × Kd)) (w : World) (e : Ending) (w' : World) : Prop :=
  (match o with
    | some x => ∃ v xs, e = .returned (.tuple #[v, .bool true]) ∧ tysOf xs = x.1 ∧ SSc w' v xs
    | none => ∃ A n c, e = .returned (.tuple #[.slice A n c, .bool false])) ∧ Below w.heap.size w w'
theorem KiPost.no {w w' : World} {e : Ending} {o : Option (List Ty × Kd)} (ho : o = none) {A : Option Addr} {n c : Nat} (he : e = .returned (.tuple #[.slice A n c, .bool false])) (hb : Below w.heap.size w w') : KiPost o w e w' := by
  rw [ho]; exact ⟨⟨A, n, c, he⟩, hb⟩

set_option maxHeartbeats 1000000 in
theorem sKind_noSchema (s d : List UInt8) (w : World) (hs : s.length ≤ 4000000) (h : schemaL s = none) :
    Calls Tryz.prog 57 #[.string ⟨s.toArray⟩, .string ⟨d.toArray⟩] w (KiPost (bothL s d) w) := by
  have HF := Lib.hid (show bothL s d = none by unfold bothL; rw [h])
  have Hof := Lib.hid (fun W => sOf_any s W hs)
  rw [h] at Hof
  clear h
  go_enter Tryz.func57, Tryz.ntmps57
  go_wp2_with fail
  refine (Hof.out _).mono ?_
  rintro e w1 ⟨⟨A, n, c, rfl⟩, hb⟩
  go_wp2_with fail
  refine bodyPost_ret (v := .tuple #[.slice none 0 0, .bool false]) (by simp [results, Tryz.results57, go_sem]) rfl ?_
  exact KiPost.no HF.out rfl hb

set_option maxHeartbeats 1000000 in
theorem sKind_noKind (s d : List UInt8) (w : World) (hs : s.length ≤ 4000000) (hd : d.length ≤ 4000000) (S : List Ty) (h : schemaL s = some S) (hk : kindL d = none) :
    Calls Tryz.prog 57 #[.string ⟨s.toArray⟩, .string ⟨d.toArray⟩] w (KiPost (bothL s d) w) := by
  have HF := Lib.hid (show bothL s d = none by unfold bothL; rw [h, hk])
  have Hof := Lib.hid (fun W => sOf_any s W hs)
  have Hkd := Lib.hid (fun W => KindOk_any d.length d W (Nat.le_refl _) (by omega))
  rw [h] at Hof
  rw [hk] at Hkd
  clear h hk
  go_enter Tryz.func57, Tryz.ntmps57
  go_wp2_with fail
  refine (Hof.out _).mono ?_
  rintro e w1 ⟨⟨v, xs, rfl, hx, hsc⟩, hb⟩
  clear hsc
  go_wp2_with fail
  refine (Hkd.out _).mono ?_
  rintro e w2 ⟨rfl, rfl⟩
  go_wp2_with fail
  refine bodyPost_ret (v := .tuple #[.slice none 0 0, .bool false]) (by simp [results, Tryz.results57, go_sem]) rfl ?_
  exact KiPost.no HF.out rfl hb

theorem KiPost.of {w w' : World} {e : Ending} {S : List Ty} {k : Kd} {v : Value} {xs : List (Ty × Value)} {b : Bool} {o : Option (List Ty × Kd)} (ho : o = if b = true then some (S, k) else none) (he : e = .returned (.tuple #[v, .bool b])) (hx : tysOf xs = S) (hs : SSc w' v xs) (hb : Below w.heap.size w w') : KiPost o w e w' := by
  cases b with
  | true => rw [ho]; exact ⟨⟨v, xs, he, hx, hs⟩, hb⟩
  | false =>
    obtain ⟨A, c, rfl, _⟩ := hs
    rw [ho]; exact ⟨⟨A, _, c, he⟩, hb⟩
set_option maxHeartbeats 1000000 in
theorem sKind_yes (s d : List UInt8) (w : World) (hs : s.length ≤ 4000000) (S : List Ty) (h : schemaL s = some S) (k : Kd) (hk : kindL d = some k) :
    Calls Tryz.prog 57 #[.string ⟨s.toArray⟩, .string ⟨d.toArray⟩] w (KiPost (bothL s d) w) := by
  obtain ⟨hok, rfl⟩ := kindL_some.1 hk
  have HF := Lib.hid (show bothL s (kdB k) = if refOk S k then some (S, k) else none by unfold bothL; rw [h, hk])
  have Hof := Lib.hid (fun W => sOf_any s W hs)
  have hl := hok.2.2
  have Hkd := Lib.hid (fun W => KindOk_any (kdB k).length (kdB k) W (Nat.le_refl _) (by omega))
  have Hok := Lib.hid hok
  rw [h] at Hof
  rw [hk] at Hkd
  clear h hk hok
  go_enter Tryz.func57, Tryz.ntmps57
  go_wp2_with fail
  refine (Hof.out _).mono ?_
  rintro e w1 ⟨⟨v, xs, rfl, hx, hsc⟩, hb⟩
  subst hx
  have Hsc := Lib.hid hsc
  obtain ⟨A, c, rfl, _, _, hfds⟩ := hsc
  have Hfds := Lib.hid hfds
  have Hb := Lib.hid hb
  clear hb hfds
  go_wp2_with fail
  refine (Hkd.out _).mono ?_
  rintro e w2 ⟨rfl, rfl⟩
  go_wp2_with fail
  refine (l2CoreK_any k Hok.out _).mono ?_
  rintro e w2 ⟨rfl, rfl⟩
  go_wp2_with fail
  refine (l2RefCore_any k Hok.out _).mono ?_
  rintro e w2 ⟨rfl, rfl⟩
  go_wp2_with fail
  refine (sFind_any _ xs (refNm k) _ Hsc.out).mono ?_
  rintro e w2 ⟨rfl, hb2⟩
  have Hb2 := Lib.hid (Hb.out.trans (hb2.mono Hb.out.size))
  have Hs2 := Lib.hid (Hsc.out.below hb2)
  clear hb2
  cases hx2 : findX xs (refNm k) with
  | none =>
    unfold styR sty0
    rcases hir : isRef k with _ | _
    · have Hr := Lib.hid (show (if refOk (tysOf xs) k then some (tysOf xs, k) else none) = if (true : Bool) = true then some (tysOf xs, k) else none by
        have := refOk_find xs k
        rw [hx2, hir] at this
        simp at this
        simp [this])
      go_wp2_with fail
      refine bodyPost_ret (v := .tuple #[.slice A xs.length c, .bool true]) (by simp [results, Tryz.results57, go_sem]) rfl ?_
      exact KiPost.of (b := true) (HF.out.trans Hr.out) rfl rfl (Hs2.out.below ((Below.refl _ _).alloc (Nat.le_refl _) _)) (by (repeat (first | exact Hb2.out | refine Below.setCell ?_ (by first | exact Nat.le_refl _ | exact Hb2.out.size | (simp; done) | (simp; omega) | omega) _ | refine Below.alloc ?_ (by first | exact Nat.le_refl _ | exact Hb2.out.size | (simp; done) | (simp; omega) | omega) _)))
    · have Hr := Lib.hid (show (if refOk (tysOf xs) k then some (tysOf xs, k) else none) = if (false : Bool) = true then some (tysOf xs, k) else none by
        have := refOk_find xs k
        rw [hx2, hir] at this
        simp at this
        simp [this])
      go_wp2_with fail
      refine bodyPost_ret (v := .tuple #[.slice A xs.length c, .bool false]) (by simp [results, Tryz.results57, go_sem]) rfl ?_
      exact KiPost.of (b := false) (HF.out.trans Hr.out) rfl rfl (Hs2.out.below ((Below.refl _ _).alloc (Nat.le_refl _) _)) (by (repeat (first | exact Hb2.out | refine Below.setCell ?_ (by first | exact Nat.le_refl _ | exact Hb2.out.size | (simp; done) | (simp; omega) | omega) _ | refine Below.alloc ?_ (by first | exact Nat.le_refl _ | exact Hb2.out.size | (simp; done) | (simp; omega) | omega) _)))
  | some y =>
    obtain ⟨ty, yv⟩ := y
    obtain ⟨A5, c5, e5, _⟩ := Hfds.out _ (findX_mem hx2).1
    simp only [] at e5
    subst e5
    unfold styR styV
    rcases hir : isRef k with _ | _
    · have Hr := Lib.hid (show (if refOk (tysOf xs) k then some (tysOf xs, k) else none) = if (true : Bool) = true then some (tysOf xs, k) else none by
        have := refOk_find xs k
        rw [hx2, hir] at this
        simp at this
        simp [this])
      go_wp2_with fail
      refine bodyPost_ret (v := .tuple #[.slice A xs.length c, .bool true]) (by simp [results, Tryz.results57, go_sem]) rfl ?_
      exact KiPost.of (b := true) (HF.out.trans Hr.out) rfl rfl (Hs2.out.below ((Below.refl _ _).alloc (Nat.le_refl _) _)) (by (repeat (first | exact Hb2.out | refine Below.setCell ?_ (by first | exact Nat.le_refl _ | exact Hb2.out.size | (simp; done) | (simp; omega) | omega) _ | refine Below.alloc ?_ (by first | exact Nat.le_refl _ | exact Hb2.out.size | (simp; done) | (simp; omega) | omega) _)))
    · have Hr := Lib.hid (show (if refOk (tysOf xs) k then some (tysOf xs, k) else none) = if (true : Bool) = true then some (tysOf xs, k) else none by
        have := refOk_find xs k
        rw [hx2, hir] at this
        simp at this
        simp [this])
      go_wp2_with fail
      refine bodyPost_ret (v := .tuple #[.slice A xs.length c, .bool true]) (by simp [results, Tryz.results57, go_sem]) rfl ?_
      exact KiPost.of (b := true) (HF.out.trans Hr.out) rfl rfl (Hs2.out.below ((Below.refl _ _).alloc (Nat.le_refl _) _)) (by (repeat (first | exact Hb2.out | refine Below.setCell ?_ (by first | exact Nat.le_refl _ | exact Hb2.out.size | (simp; done) | (simp; omega) | omega) _ | refine Below.alloc ?_ (by first | exact Nat.le_refl _ | exact Hb2.out.size | (simp; done) | (simp; omega) | omega) _)))
end Go.Proofs.YtdhinlhafoiaiaaGreatDoor
/- both of the program: a schema and a kind of it. -/
namespace Go.Proofs.YtdhinlhafoiaiaaGreatDoor
open Go.RowKit
set_option maxRecDepth 100000
set_option linter.unusedVariables false
set_option linter.unusedSimpArgs false
attribute [local go_sem] ba_get ba_toList ba_extract take_drop_all ByteArray.mk_append_mk

theorem grown_setCells (b : Nat) : ∀ (vs : List Value) (o : Nat) (w : World), w.grownBy (w.setCells b o vs) (some b)
  | [], _, w => World.grownBy.refl _ _
  | v :: r, o, w => (grown_set w ⟨b, o, none⟩ v).trans (grown_setCells b r (o + 1) _)
/-- What reading a schema and a kind leaves. -/
def IbPost (o : Option (List Ty × Kd)) (w : World) (e : Ending) (w' : World) : Prop :=
  (match o with
    | some x => ∃ p xs, ptysOf xs = x.1 ∧ e = .returned (.tuple #[p, kdV x.2, .bool true]) ∧ ISL w.heap.size w' p xs
    | none => ∃ (p : Option Addr) (a b c : ByteArray), e = .returned (.tuple #[.pointer p, .agg #[.string a, .string b, .string c], .bool false])) ∧ Below w.heap.size w w'
theorem IbPost.no {w w' : World} {e : Ending} {o : Option (List Ty × Kd)} (ho : o = none) {p : Option Addr} {a b c : ByteArray} (he : e = .returned (.tuple #[.pointer p, .agg #[.string a, .string b, .string c], .bool false])) (hb : Below w.heap.size w w') : IbPost o w e w' := by
  rw [ho]; exact ⟨⟨p, a, b, c, he⟩, hb⟩

set_option maxHeartbeats 2000000 in
theorem iBoth_any (s d : List UInt8) (w : World) (hs : s.length ≤ 4000000) (hd : d.length ≤ 4000000) :
    Calls Tryz.prog 55 #[.string ⟨s.toArray⟩, .string ⟨d.toArray⟩] w (IbPost (bothL s d) w) := by
  have Hrs := Lib.hid (fun W => readSchema_any s W hs)
  have Hrk := Lib.hid (fun W => readKind_any d W hd)
  have HF := Lib.hid (show bothL s d = (match schemaL s with | none => none | some S => match kindL d with | none => none | some k => if refOk S k then some (S, k) else none) from rfl)
  have Hkok := Lib.hid (fun k (h : kindL d = some k) => (kindL_some.1 h).1)
  generalize schemaL s = oS at HF Hrs
  generalize kindL d = oK at HF Hrk Hkok
  go_enter Tryz.func55, Tryz.ntmps55
  go_wp2_with fail
  refine (Hrs.out _).mono ?_
  rintro e w1 ⟨hcase, hb1⟩
  have hz1 : w.heap.size < w1.heap.size := by have := hb1.size; simp at this; omega
  have HT1 := Lib.hid (show w1.there w.heap.size 0 3 from there_below (there_new w [.string ⟨#[]⟩, .string ⟨#[]⟩, .string ⟨#[]⟩] 70) (by simp) hb1)
  have Hb1 := Lib.hid (show Below w.heap.size w w1 from ((Below.refl _ _).alloc (Nat.le_refl _) _).trans (hb1.mono (by simp)))
  clear hb1
  cases oS with
  | none =>
    obtain ⟨p, rfl⟩ := hcase
    go_wp2_with ((with_reducible refine wpList_store_hid (op := ⟨none, .store 70 _ _, _, _, _, none⟩) rfl 70 _ _ rfl w.heap.size 0 [.string ⟨#[]⟩, .string ⟨#[]⟩, .string ⟨#[]⟩] ?_ ?_ ?_ ?_ ?_ ?_); rfl; rfl; (exact HT1.out); kernel_rfl; (simp [Value.oneCell']); intro w9 HS9)
    have HZ := Lib.hid (show w9.rangeAt w.heap.size 0 [.string ⟨#[]⟩, .string ⟨#[]⟩, .string ⟨#[]⟩] from by rw [HS9.out]; exact World.rangeAt_setCells_same _ _ _ _ HT1.out)
    refine bodyPost_ret (v := .tuple #[.pointer none, .agg ([.string ⟨#[]⟩, .string ⟨#[]⟩, .string ⟨#[]⟩] : List Value).toArray, .bool false]) ?_ rfl ?_
    · exact results_tmp_cell_tmp Tryz.results55 _ _ w.heap.size [.string ⟨#[]⟩, .string ⟨#[]⟩, .string ⟨#[]⟩] _ _ _ rfl rfl rfl HZ.out Tryz.underlying70 rfl (by kernel_rfl)
    · exact IbPost.no HF.out rfl (by rw [HS9.out]; exact below_setCells _ (Nat.le_refl _) _ _ _ Hb1.out)
  | some S =>
    obtain ⟨p, xs, hxs, rfl, hsl⟩ := hcase
    subst hxs
    have Hsl := Lib.hid (show ISL (w.heap.size + 1) w1 p xs from by simpa using hsl)
    obtain ⟨pb, _, _, _, hp, _⟩ := hsl
    subst hp
    go_wp2_with fail
    refine (Hrk.out _).mono ?_
    rintro e w2 ⟨hcase, hb2⟩
    cases oK with
    | none =>
      obtain ⟨a1, a2, a3, rfl⟩ := hcase
      have hz4 : w2.heap.size < (w2.alloc (.cells #[.string a1, .string a2, .string a3] 70)).heap.size := by simp
      have hz2 : w.heap.size < w2.heap.size := by have := hb2.size; omega
      have HT4 := Lib.hid (show (w2.alloc (.cells #[.string a1, .string a2, .string a3] 70)).there w.heap.size 0 3 from World.there_alloc (there_below HT1.out hz1 hb2) _)
      have HX4 := Lib.hid (show (w2.alloc (.cells #[.string a1, .string a2, .string a3] 70)).rangeAt w2.heap.size 0 [.string a1, .string a2, .string a3] from rangeAt_new w2 [.string a1, .string a2, .string a3] _)
      have Hsl4 := Lib.hid (show ISL (w.heap.size + 1) (w2.alloc (.cells #[.string a1, .string a2, .string a3] 70)) (.pointer (some ⟨pb, 0, none⟩)) xs from (Hsl.out.below hb2).below ((Below.refl _ _).alloc (Nat.le_refl _) _))
      have Hb4 := Lib.hid (show Below w.heap.size w (w2.alloc (.cells #[.string a1, .string a2, .string a3] 70)) from (Hb1.out.trans (hb2.mono Hb1.out.size)).alloc (by omega) _)
      clear hb2
      go_wp2_with fail
      refine wp_region_slots3 [23, 24, 25, 26, 27, 28, 29, 30, 4, 999, 6] (by kernel_rfl) (by kernel_rfl) (by kernel_rfl) (fun u => by dsimp only [frameOf, setMany, List.set, Nat.zero_add, Nat.reduceAdd])
        (fun i v W => match i with | 0 => v = .pointer (some ⟨pb, 0, none⟩) | 1 => v = .agg ([.string a1, .string a2, .string a3] : List Value).toArray | 2 => v = .bool false | 3 => v = .bool false | 7 => v = .bool false | 8 => v = .pointer (some ⟨pb, 0, none⟩) | 10 => v = .bool false | _ => True) (fun L U W => Below w.heap.size w W ∧ w2.heap.size < W.heap.size ∧ W.there w.heap.size 0 3 ∧ W.rangeAt w2.heap.size 0 [.string a1, .string a2, .string a3] ∧ ISL (w.heap.size + 1) W (.pointer (some ⟨pb, 0, none⟩)) xs ∧ (L 9 = true → W.rangeAt w.heap.size 0 [.string a1, .string a2, .string a3])) (fun _ _ => True) (fun _ _ _ _ _ h => h) ⟨Hb4.out.drew, by simp, by simpa using HT4.out, by simpa using HX4.out, Hsl4.out.below ((Below.refl _ _).drew), by simp⟩ ?_ ?_
      · repeat (first | exact Steps.nil | (refine Steps.cons ?_ ?_; rotate_left))
        all_goals
          rintro L U W hL hpre hR hun hdep K hK
          have HR := Lib.hid hR
          obtain ⟨_, _, _, hxr, _, _⟩ := hR
          have c0 : W.cell? ⟨w2.heap.size, 0, none⟩ = some (.string a1) := by simpa using rangeAt_cell hxr 0 rfl
          have c1 : W.cell? ⟨w2.heap.size, 1, none⟩ = some (.string a2) := by simpa using rangeAt_cell hxr 1 rfl
          have c2 : W.cell? ⟨w2.heap.size, 2, none⟩ = some (.string a3) := by simpa using rangeAt_cell hxr 2 rfl
          clear hun hdep hxr
          first | (simp [Region.binds] at hpre; done) | simp [Region.binds] at hpre | clear hpre
        · go_simp
          first | exact hK _ _ _ rfl trivial HR.out rfl | exact hK _ _ _ rfl trivial HR.out (by simp [Act.put, hpre]) | exact hK undef _ _ trivial trivial HR.out (by simp [Act.put, hpre])
        · go_simp
          first | exact hK _ _ _ rfl trivial HR.out rfl | exact hK _ _ _ rfl trivial HR.out (by simp [Act.put, hpre]) | exact hK undef _ _ trivial trivial HR.out (by simp [Act.put, hpre])
        · go_simp
          first | exact hK _ _ _ rfl trivial HR.out rfl | exact hK _ _ _ rfl trivial HR.out (by simp [Act.put, hpre]) | exact hK undef _ _ trivial trivial HR.out (by simp [Act.put, hpre])
        · go_simp
          first | exact hK _ _ _ rfl trivial HR.out rfl | exact hK _ _ _ rfl trivial HR.out (by simp [Act.put, hpre]) | exact hK undef _ _ trivial trivial HR.out (by simp [Act.put, hpre])
        · go_simp
          first | exact hK _ _ _ rfl trivial HR.out rfl | exact hK _ _ _ rfl trivial HR.out (by simp [Act.put, hpre]) | exact hK undef _ _ trivial trivial HR.out (by simp [Act.put, hpre])
        · go_simp
          first | exact hK _ _ _ rfl trivial HR.out rfl | exact hK _ _ _ rfl trivial HR.out (by simp [Act.put, hpre]) | exact hK undef _ _ trivial trivial HR.out (by simp [Act.put, hpre])
        · go_simp
          first | exact hK _ _ _ rfl trivial HR.out rfl | exact hK _ _ _ rfl trivial HR.out (by simp [Act.put, hpre]) | exact hK undef _ _ trivial trivial HR.out (by simp [Act.put, hpre])
        · go_simp
          first | exact hK _ _ _ rfl trivial HR.out rfl | exact hK _ _ _ rfl trivial HR.out (by simp [Act.put, hpre]) | exact hK undef _ _ trivial trivial HR.out (by simp [Act.put, hpre])
        · go_simp
          first | exact hK _ _ _ rfl trivial HR.out rfl | exact hK _ _ _ rfl trivial HR.out (by simp [Act.put, hpre]) | exact hK undef _ _ trivial trivial HR.out (by simp [Act.put, hpre])
        · obtain ⟨r1, r2, r3, r4, r5, r6⟩ := HR.out
          rw [if_pos (by rfl)]
          refine wp_store_mid 70 _ _ rfl w.heap.size 0 ([.string a1, .string a2, .string a3] : List Value).toArray rfl hpre.1.2 r3 (by kernel_rfl) (by simp [Value.oneCell']) ?_
          exact hK undef _ _ trivial trivial ⟨below_setCells _ (Nat.le_refl _) _ _ _ r1, by rw [setCells_size]; exact r2, World.there_setCells r3 _ _ _, World.rangeAt_setCells_apart r4 _ _ _ (.inl (show w2.heap.size ≠ w.heap.size by omega)), r5.far (grown_setCells _ _ _ W) (by omega), fun _ => World.rangeAt_setCells_same _ _ _ _ r3⟩ rfl
        · go_simp
          first | exact hK _ _ _ rfl trivial HR.out rfl | exact hK _ _ _ rfl trivial HR.out (by simp [Act.put, hpre]) | exact hK undef _ _ trivial trivial HR.out (by simp [Act.put, hpre])
      · rintro L U W hL hφ ⟨r1, r2, r3, r4, r5, r6⟩
        have e8 : U 8 = .pointer (some ⟨pb, 0, none⟩) := hφ 8 (by decide)
        have e10 : U 10 = .bool false := hφ 10 (by decide)
        have hr0 := r6 (hL 9 (by decide))
        simp only [e8, e10]
        have R1 := Lib.hid r1
        have R5 := Lib.hid r5
        have R0 := Lib.hid hr0
        clear hL hφ r1 r2 r3 r4 r5 r6 hr0
        go_wp2_with fail
        refine bodyPost_ret (v := .tuple #[.pointer (some ⟨pb, 0, none⟩), .agg ([.string a1, .string a2, .string a3] : List Value).toArray, .bool false]) ?_ rfl ?_
        · exact results_tmp_cell_tmp Tryz.results55 _ _ w.heap.size [.string a1, .string a2, .string a3] _ _ _ rfl rfl rfl R0.out Tryz.underlying70 rfl (by kernel_rfl)
        · exact IbPost.no HF.out rfl R1.out
    | some k =>
      have hcase' : e = .returned (.tuple #[.agg #[.string ⟨k.signs.toArray⟩, .string ⟨k.base.toArray⟩, .string ⟨k.name.toArray⟩], .bool true]) := hcase
      subst hcase'
      clear hcase
      have hkn : k.name.length ≤ 100 := Nat.le_trans (name_short (Hkok.out k rfl)) (by decide)
      have hz4 : w2.heap.size < (w2.alloc (.cells #[.string ⟨k.signs.toArray⟩, .string ⟨k.base.toArray⟩, .string ⟨k.name.toArray⟩] 70)).heap.size := by simp
      have hz2 : w.heap.size < w2.heap.size := by have := hb2.size; omega
      have HT4 := Lib.hid (show (w2.alloc (.cells #[.string ⟨k.signs.toArray⟩, .string ⟨k.base.toArray⟩, .string ⟨k.name.toArray⟩] 70)).there w.heap.size 0 3 from World.there_alloc (there_below HT1.out hz1 hb2) _)
      have HX4 := Lib.hid (show (w2.alloc (.cells #[.string ⟨k.signs.toArray⟩, .string ⟨k.base.toArray⟩, .string ⟨k.name.toArray⟩] 70)).rangeAt w2.heap.size 0 [.string ⟨k.signs.toArray⟩, .string ⟨k.base.toArray⟩, .string ⟨k.name.toArray⟩] from rangeAt_new w2 [.string ⟨k.signs.toArray⟩, .string ⟨k.base.toArray⟩, .string ⟨k.name.toArray⟩] _)
      have Hsl4 := Lib.hid (show ISL (w.heap.size + 1) (w2.alloc (.cells #[.string ⟨k.signs.toArray⟩, .string ⟨k.base.toArray⟩, .string ⟨k.name.toArray⟩] 70)) (.pointer (some ⟨pb, 0, none⟩)) xs from (Hsl.out.below hb2).below ((Below.refl _ _).alloc (Nat.le_refl _) _))
      have Hb4 := Lib.hid (show Below w.heap.size w (w2.alloc (.cells #[.string ⟨k.signs.toArray⟩, .string ⟨k.base.toArray⟩, .string ⟨k.name.toArray⟩] 70)) from (Hb1.out.trans (hb2.mono Hb1.out.size)).alloc (by omega) _)
      clear hb2
      go_wp2_with fail
      have HF3 := Lib.hid (show bothL s d = if refOk (ptysOf xs) k then some (ptysOf xs, k) else none from HF.out)
      refine wp_region_slots3 [23, 24, 25, 26, 27, 28, 29, 30, 4, 999, 6] (by kernel_rfl) (by kernel_rfl) (by kernel_rfl) (fun u => by dsimp only [frameOf, setMany, List.set, Nat.zero_add, Nat.reduceAdd])
        (fun i v W => match i with | 0 => v = .pointer (some ⟨pb, 0, none⟩) | 1 => v = .agg ([.string ⟨k.signs.toArray⟩, .string ⟨k.base.toArray⟩, .string ⟨k.name.toArray⟩] : List Value).toArray | 2 => v = .bool true | 3 => v = .bool true | 4 => v = .pointer (some ⟨pb, 0, none⟩) | 5 => v = .agg ([.string ⟨k.signs.toArray⟩, .string ⟨k.base.toArray⟩, .string ⟨k.name.toArray⟩] : List Value).toArray | 6 => v = .bool (decide (refOk (ptysOf xs) k)) | 7 => v = .bool (decide (refOk (ptysOf xs) k)) | 8 => v = .pointer (some ⟨pb, 0, none⟩) | 10 => v = .bool (decide (refOk (ptysOf xs) k)) | _ => True) (fun L U W => Below w.heap.size w W ∧ w2.heap.size < W.heap.size ∧ W.there w.heap.size 0 3 ∧ W.rangeAt w2.heap.size 0 [.string ⟨k.signs.toArray⟩, .string ⟨k.base.toArray⟩, .string ⟨k.name.toArray⟩] ∧ ISL (w.heap.size + 1) W (.pointer (some ⟨pb, 0, none⟩)) xs ∧ (L 9 = true → W.rangeAt w.heap.size 0 [.string ⟨k.signs.toArray⟩, .string ⟨k.base.toArray⟩, .string ⟨k.name.toArray⟩])) (fun _ _ => True) (fun _ _ _ _ _ h => h) ⟨Hb4.out.drew, by simp, by simpa using HT4.out, by simpa using HX4.out, Hsl4.out.below ((Below.refl _ _).drew), by simp⟩ ?_ ?_
      · repeat (first | exact Steps.nil | (refine Steps.cons ?_ ?_; rotate_left))
        all_goals
          rintro L U W hL hpre hR hun hdep K hK
          have HR := Lib.hid hR
          obtain ⟨_, _, _, hxr, _, _⟩ := hR
          have c0 : W.cell? ⟨w2.heap.size, 0, none⟩ = some (.string ⟨k.signs.toArray⟩) := by simpa using rangeAt_cell hxr 0 rfl
          have c1 : W.cell? ⟨w2.heap.size, 1, none⟩ = some (.string ⟨k.base.toArray⟩) := by simpa using rangeAt_cell hxr 1 rfl
          have c2 : W.cell? ⟨w2.heap.size, 2, none⟩ = some (.string ⟨k.name.toArray⟩) := by simpa using rangeAt_cell hxr 2 rfl
          clear hun hdep hxr
          first | (simp [Region.binds] at hpre; done) | simp [Region.binds] at hpre | clear hpre
        · go_simp
          first | exact hK _ _ _ rfl trivial HR.out rfl | exact hK _ _ _ rfl trivial HR.out (by simp [Act.put, hpre]) | exact hK undef _ _ trivial trivial HR.out (by simp [Act.put, hpre])
        · go_simp
          first | exact hK _ _ _ rfl trivial HR.out rfl | exact hK _ _ _ rfl trivial HR.out (by simp [Act.put, hpre]) | exact hK undef _ _ trivial trivial HR.out (by simp [Act.put, hpre])
        · go_simp
          first | exact hK _ _ _ rfl trivial HR.out rfl | exact hK _ _ _ rfl trivial HR.out (by simp [Act.put, hpre]) | exact hK undef _ _ trivial trivial HR.out (by simp [Act.put, hpre])
        · go_simp
          first | exact hK _ _ _ rfl trivial HR.out rfl | exact hK _ _ _ rfl trivial HR.out (by simp [Act.put, hpre]) | exact hK undef _ _ trivial trivial HR.out (by simp [Act.put, hpre])
        · go_simp
          first | exact hK _ _ _ rfl trivial HR.out rfl | exact hK _ _ _ rfl trivial HR.out (by simp [Act.put, hpre]) | exact hK undef _ _ trivial trivial HR.out (by simp [Act.put, hpre])
        · go_simp
          first | exact hK _ _ _ rfl trivial HR.out rfl | exact hK _ _ _ rfl trivial HR.out (by simp [Act.put, hpre]) | exact hK undef _ _ trivial trivial HR.out (by simp [Act.put, hpre])
        · go_simp
          obtain ⟨r1, r2, r3, r4, r5, r6⟩ := HR.out
          refine (iHas_any _ xs k W r5.isc.map hkn).mono ?_
          rintro e w5 ⟨rfl, hb5⟩
          exact hK (.bool (decide (refOk (ptysOf xs) k))) _ _ rfl trivial ⟨r1.trans (hb5.mono r1.size), Nat.lt_of_lt_of_le r2 hb5.size, there_below r3 (show w.heap.size < W.heap.size by omega) hb5, rangeAt_below r4 r2 hb5, r5.below hb5, fun h => rangeAt_below (r6 h) (show w.heap.size < W.heap.size by omega) hb5⟩ (by simp [Act.put, hpre])
        · go_simp
          first | exact hK _ _ _ rfl trivial HR.out rfl | exact hK _ _ _ rfl trivial HR.out (by simp [Act.put, hpre]) | exact hK undef _ _ trivial trivial HR.out (by simp [Act.put, hpre])
        · go_simp
          first | exact hK _ _ _ rfl trivial HR.out rfl | exact hK _ _ _ rfl trivial HR.out (by simp [Act.put, hpre]) | exact hK undef _ _ trivial trivial HR.out (by simp [Act.put, hpre])
        · obtain ⟨r1, r2, r3, r4, r5, r6⟩ := HR.out
          rw [if_pos (by rfl)]
          refine wp_store_mid 70 _ _ rfl w.heap.size 0 ([.string ⟨k.signs.toArray⟩, .string ⟨k.base.toArray⟩, .string ⟨k.name.toArray⟩] : List Value).toArray rfl hpre.1.2 r3 (by kernel_rfl) (by simp [Value.oneCell']) ?_
          exact hK undef _ _ trivial trivial ⟨below_setCells _ (Nat.le_refl _) _ _ _ r1, by rw [setCells_size]; exact r2, World.there_setCells r3 _ _ _, World.rangeAt_setCells_apart r4 _ _ _ (.inl (show w2.heap.size ≠ w.heap.size by omega)), r5.far (grown_setCells _ _ _ W) (by omega), fun _ => World.rangeAt_setCells_same _ _ _ _ r3⟩ rfl
        · go_simp
          first | exact hK _ _ _ rfl trivial HR.out rfl | exact hK _ _ _ rfl trivial HR.out (by simp [Act.put, hpre]) | exact hK undef _ _ trivial trivial HR.out (by simp [Act.put, hpre])
      · rintro L U W hL hφ ⟨r1, r2, r3, r4, r5, r6⟩
        have e8 : U 8 = .pointer (some ⟨pb, 0, none⟩) := hφ 8 (by decide)
        have e10 : U 10 = .bool (decide (refOk (ptysOf xs) k)) := hφ 10 (by decide)
        have hr0 := r6 (hL 9 (by decide))
        simp only [e8, e10]
        have R1 := Lib.hid r1
        have R5 := Lib.hid r5
        have R0 := Lib.hid hr0
        clear hL hφ r1 r2 r3 r4 r5 r6 hr0
        go_wp2_with fail
        refine bodyPost_ret (v := .tuple #[.pointer (some ⟨pb, 0, none⟩), .agg ([.string ⟨k.signs.toArray⟩, .string ⟨k.base.toArray⟩, .string ⟨k.name.toArray⟩] : List Value).toArray, .bool (decide (refOk (ptysOf xs) k))]) ?_ rfl ?_
        · exact results_tmp_cell_tmp Tryz.results55 _ _ w.heap.size [.string ⟨k.signs.toArray⟩, .string ⟨k.base.toArray⟩, .string ⟨k.name.toArray⟩] _ _ _ rfl rfl rfl R0.out Tryz.underlying70 rfl (by kernel_rfl)
        · by_cases hr : refOk (ptysOf xs) k
          · rw [decide_eq_true hr]
            unfold IbPost
            rw [HF3.out, if_pos hr]
            exact ⟨⟨_, xs, rfl, rfl, by
              obtain ⟨b, A, c, mb, q0, q1, q2, q3, q4, q5, q6, q7, l1, l2, l3, l4⟩ := R5.out
              exact ⟨b, A, c, mb, q0, q1, q2, q3, q4, q5, q6, q7, by omega, by omega, fun g o h1 h2 => by have := l3 g o h1 h2; omega, fun x hx => ⟨by have := (l4 x hx).1; omega, fun k h1 h2 => by have := (l4 x hx).2 k h1 h2; omega⟩⟩⟩, R1.out⟩
          · rw [decide_eq_false hr]
            exact IbPost.no (HF3.out.trans (if_neg hr)) rfl R1.out
end Go.Proofs.YtdhinlhafoiaiaaGreatDoor
/- slices.Contains at pointers. -/
namespace Go.Proofs.YtdhinlhafoiaiaaGreatDoor
open Go.RowKit
set_option maxRecDepth 100000
set_option linter.unusedVariables false
set_option linter.unusedSimpArgs false
attribute [local go_sem] ba_get ba_toList ba_extract take_drop_all ByteArray.mk_append_mk

def ptrV (b : Nat) : Value := .pointer (some ⟨b, 0, none⟩)
theorem Tryz.infoTy : ∃ j, Tryz.prog.info? 78 = some j ∧ j.size ≠ 0 := by
  have h : (Tryz.prog.info? 78).map (fun i => i.size) = some 4 := by kernel_rfl
  cases hi : Tryz.prog.info? 78 with
  | none => rw [hi] at h; cases h
  | some j => rw [hi] at h; simp at h; exact ⟨j, rfl, by omega⟩
/-- '==' on pointers to types. -/
theorem ptr_eq {w : World} {a b : Nat} (ha : Blk w a) (hb : Blk w b) : (binOp .eql 75 (.pointer (some ⟨a, 0, none⟩)) (.pointer (some ⟨b, 0, none⟩))).run Tryz.prog w = .ok (.bool (decide (a = b))) w := by
  obtain ⟨j, hj, hs⟩ := Tryz.infoTy
  by_cases h : a = b
  · subst h
    rw [decide_eq_true rfl]
    exact run_eql_ptr_same w ⟨a, 0, none⟩ Tryz.underlying75 hj
  · rw [decide_eq_false h]
    obtain ⟨ca, ta, ha⟩ := ha
    obtain ⟨cb, tb, hb⟩ := hb
    exact run_eql_ptr_other w Tryz.underlying75 hj hs (by intro e; injection e with e; exact h e) ha hb
/-- The place of a pointer. -/
def IxPost (bs : List Nat) (c : Nat) (w : World) (e : Ending) (w' : World) : Prop := ∃ i : Int, e = .returned (.int .i64 i) ∧ (0 ≤ i ↔ c ∈ bs) ∧ w = w'

set_option maxHeartbeats 1000000 in
theorem ptrIndex_any (A : Option Addr) (cap : Nat) (bs : List Nat) (c : Nat) (w : World) (h : RowAt w A bs.length (bs.map ptrV)) (hl : bs.length ≤ 1000) (hbk : ∀ b ∈ bs, Blk w b) (hck : Blk w c) :
    Calls Tryz.prog 120 #[.slice A bs.length cap, .pointer (some ⟨c, 0, none⟩)] w (IxPost bs c w) := by
  have H := Lib.hid h
  have Hbk := Lib.hid hbk
  have Hck := Lib.hid hck
  clear h hbk hck
  go_enter Tryz.func120, Tryz.ntmps120
  go_wp2_with fail
  go_loopw [8] (fun i wr => ∃ k : Nat, i = .int .i64 k ∧ k ≤ bs.length ∧ w = wr ∧ Hid (c ∉ bs.take k)) (fun i _ => bs.length - (intOf i).toNat)
  case atStart => exact ⟨0, rfl, Nat.zero_le _, rfl, by simp [Hid]⟩
  case round =>
    obtain ⟨k, rfl, hk, rfl, hno⟩ := hrel
    have k1 : (0 : Int) ≤ (k : Int) := by omega
    by_cases hlt : k < bs.length
    · have k2 : (k : Int) < (bs.length : Int) := by omega
      obtain ⟨b, off, rfl, hb, cl⟩ := H.out.at_ hlt
      rw [List.getElem_map] at cl
      have Hts := Lib.hid (take_snoc bs k hlt)
      have Hmem := Lib.hid (List.getElem_mem hlt)
      generalize bs[k] = q at cl Hts Hmem
      unfold ptrV at cl
      have heq := ptr_eq Hck.out (Hbk.out q Hmem.out)
      by_cases he : c = q
      · rw [decide_eq_true he] at heq
        have Hmc := Lib.hid (show c ∈ bs from by rw [he]; exact Hmem.out)
        clear he
        go_wp2_with fail
        go_ret
        exact ⟨_, rfl, ⟨fun _ => Hmc.out, fun _ => by omega⟩, rfl⟩
      · rw [decide_eq_false he] at heq
        have Hno := Lib.hid (show c ∉ bs.take (k + 1) by rw [Hts.out]; simp only [List.mem_append, List.mem_singleton, not_or]; exact ⟨hno.out, he⟩)
        clear he
        go_wp2_with fail
        go_roundw
        case rel => exact ⟨k + 1, by go_num, by omega, trivial, Hno.out⟩
        case measure => simp [intOf]; omega
    · have hall : c ∉ bs := by have := hno.out; rwa [List.take_of_length_le (by omega)] at this
      have Hall := Lib.hid hall
      clear hall
      go_wp2_with fail
      go_ret
      exact ⟨-1, rfl, ⟨fun h => by omega, fun h => absurd h Hall.out⟩, rfl⟩
theorem ptrContains_any (A : Option Addr) (cap : Nat) (bs : List Nat) (c : Nat) (w : World) (h : RowAt w A bs.length (bs.map ptrV)) (hl : bs.length ≤ 1000) (hbk : ∀ b ∈ bs, Blk w b) (hck : Blk w c) :
    Calls Tryz.prog 93 #[.slice A bs.length cap, .pointer (some ⟨c, 0, none⟩)] w fun e w' => e = .returned (.bool (decide (c ∈ bs))) ∧ w = w' := by
  go_enter Tryz.func93, Tryz.ntmps93
  go_wp2_with fail
  refine (ptrIndex_any A cap bs c w h hl hbk hck).mono ?_
  rintro e w' ⟨i, rfl, hi, rfl⟩
  have Hi := Lib.hid (show decide (0 ≤ i) = decide (c ∈ bs) from decide_eq_decide.2 hi)
  clear hi
  go_wp2_with fail
  go_ret
  exact ⟨ret1 (vbool Hi.out), rfl⟩
end Go.Proofs.YtdhinlhafoiaiaaGreatDoor
/- met of the program: what is met from a kind, in the order of meeting. -/
namespace Go.Proofs.YtdhinlhafoiaiaaGreatDoor
open Go.RowKit
set_option maxRecDepth 100000
set_option linter.unusedVariables false
set_option linter.unusedSimpArgs false
attribute [local go_sem] ba_get ba_toList ba_extract take_drop_all ByteArray.mk_append_mk

theorem ISc.pw {w : World} {p : Value} {xs : List PT} (h : ISc w p xs) : xs.Pairwise fun x y => x.blk ≠ y.blk := by
  obtain ⟨_, _, _, _, _, _, _, _, _, _, _, h⟩ := h
  exact h
/-- The block of a name's type. -/
def blkN (xs : List PT) (n : Name) : Nat := match findP xs n with | some x => x.blk | none => 0
theorem blkN_some {xs : List PT} {n : Name} {x : PT} (h : findP xs n = some x) : blkN xs n = x.blk := by unfold blkN; rw [h]
theorem findP_isSome {xs : List PT} {n : Name} (h : n ∈ namesOf (ptysOf xs)) : ∃ x, findP xs n = some x ∧ x ∈ xs ∧ x.ty.name = n := by
  have h2 := findTy_isSome.2 h
  rw [findP_ty] at h2
  cases hf : findP xs n with
  | none => rw [hf] at h2; cases h2
  | some x => exact ⟨x, rfl, (findP_mem hf).1, (findP_mem hf).2.1⟩
theorem blkN_inj {xs : List PT} (hp : xs.Pairwise fun x y => x.blk ≠ y.blk) {n m : Name} (hn : n ∈ namesOf (ptysOf xs)) (hm : m ∈ namesOf (ptysOf xs)) (h : blkN xs n = blkN xs m) : n = m := by
  obtain ⟨x, hx, hxm, hxn⟩ := findP_isSome hn
  obtain ⟨y, hy, hym, hyn⟩ := findP_isSome hm
  rw [blkN_some hx, blkN_some hy] at h
  have : x = y := by
    obtain ⟨i, hi, rfl⟩ := List.mem_iff_getElem.1 hxm
    obtain ⟨j, hj, rfl⟩ := List.mem_iff_getElem.1 hym
    rw [List.pairwise_iff_getElem] at hp
    rcases Nat.lt_trichotomy i j with hij | hij | hij
    · exact absurd h (hp i j hi hj hij)
    · subst hij; rfl
    · exact absurd h.symm (hp j i hj hi hij)
  rw [← hxn, ← hyn, this]
theorem blkN_mem {xs : List PT} (hp : xs.Pairwise fun x y => x.blk ≠ y.blk) {out : List Name} (ho : Mets (ptysOf xs) out) {n : Name} (hn : n ∈ namesOf (ptysOf xs)) : blkN xs n ∈ out.map (blkN xs) ↔ n ∈ out := by
  constructor
  · intro h
    obtain ⟨m, hm, e⟩ := List.mem_map.1 h
    rw [← blkN_inj hp (ho.2 m hm) hn e]; exact hm
  · exact fun h => List.mem_map_of_mem h
def visitV (B : Nat) : Value := .func (.func 92) #[] #[.pointer (some ⟨B, 0, none⟩), .pointer (some ⟨B + 2, 0, none⟩), .pointer (some ⟨B + 3, 0, none⟩)]
/-- What the closure keeps: the boxes of sc, out and visit lie at B, B + 2, B + 3; the row of out is the call's own. -/
def MetSt (w0 : World) (B : Nat) (p : Value) (xs : List PT) (w : World) (out : List Name) : Prop :=
  Below B w0 w ∧ B + 4 ≤ w.heap.size ∧ w.cell? ⟨B, 0, none⟩ = some p ∧ w.cell? ⟨B + 3, 0, none⟩ = some (visitV B) ∧ w.there (B + 2) 0 1 ∧
    ∃ v, w.cell? ⟨B + 2, 0, none⟩ = some v ∧ w.ownsRow (B + 4) 75 1 v out.length ((out.map (blkN xs)).map ptrV)
def MtPost (w0 : World) (B : Nat) (p : Value) (xs : List PT) (out : List Name) (e : Ending) (w' : World) : Prop := e = .returned (.tuple #[]) ∧ MetSt w0 B p xs w' out

set_option maxHeartbeats 1000000 in
theorem iVisit_no (w0 : World) (B : Nat) (p : Value) (xs : List PT) (hB : B = w0.heap.size) (hsc : ISc w0 p xs) (n : Nat) (k : Kd) (out : List Name) (w : World) (hk : kdOk k) (hb : k.base ≠ [64]) (hst : MetSt w0 B p xs w out) :
    Calls Tryz.prog 92 #[kdV k, .pointer (some ⟨B, 0, none⟩), .pointer (some ⟨B + 2, 0, none⟩), .pointer (some ⟨B + 3, 0, none⟩)] w (MtPost w0 B p xs (metN (ptysOf xs) (n + 1) k out)) := by
  have hF := Lib.hid (show metN (ptysOf xs) (n + 1) k out = out from by rw [metN, if_neg (fun h => hb h.1)])
  obtain ⟨h1, h2, h3, h4, h5, v, h6, h7⟩ := hst
  obtain ⟨pb, A, c, mb, rfl, q0, q1, q2, q3, q4, _⟩ := hsc
  have hlt : pb < B := by omega
  have hb2 := q4.lt
  have x3 : w.cell? ⟨pb, 1, none⟩ = some (.map (some mb)) := (h1.cell (p := ⟨pb, 1, none⟩) hlt).trans q2
  unfold kdV
  have t1 : (k.base == [64]) = false := by simpa using hb
  have t2 : (k.base != [64]) = true := by simpa using hb
  have hnl := name_short hk
  generalize hd : (.cells #[.string ⟨k.signs.toArray⟩, .string ⟨k.base.toArray⟩, .string ⟨k.name.toArray⟩] 70 : Obj) = ob
  have y1 : (w.alloc ob).cell? ⟨w.heap.size, 1, none⟩ = some (.string ⟨k.base.toArray⟩) := by rw [← hd]; simp
  have y2 : (w.alloc ob).cell? ⟨w.heap.size, 2, none⟩ = some (.string ⟨k.name.toArray⟩) := by rw [← hd]; simp
  have y3 : (w.alloc ob).cell? ⟨pb, 1, none⟩ = some (.map (some mb)) := by rw [World.cell?_alloc_old _ _ _ (show pb ≠ w.heap.size by omega)]; exact x3
  have y4 : (w.alloc ob).cell? ⟨B, 0, none⟩ = some (.pointer (some ⟨pb, 0, none⟩)) := by rw [World.cell?_alloc_old _ _ _ (show B ≠ w.heap.size by omega)]; exact h3
  have hlook : ∀ q, (Instr.lookup 130 (.map (some mb)) (.string ⟨k.name.toArray⟩) false).run Tryz.prog ((w.alloc ob).drewN q) = .ok (ptrP (findP xs k.name)) ((w.alloc ob).drewN q) := fun q => named_look (FMap.below (FMap.alloc (FMap.belowAt q4 (show mb < B by omega) h1) ob) (below_drewN (Below.refl _ _) q)) k.name (by omega)
  generalize ptrP (findP xs k.name) = V at hlook
  have H1 := Lib.hid h1
  have H3 := Lib.hid h3
  have H4 := Lib.hid h4
  have H5 := Lib.hid h5
  have H6 := Lib.hid h6
  have H7 := Lib.hid h7
  have Hd := Lib.hid hd
  have HB := Lib.hid hB
  clear hb hd h1 h3 h4 h5 h6 h7 x3 q1 q2 q3 q4 hB
  go_enter Tryz.func92, Tryz.ntmps92
  go_wp2_with fail
  rw [Hd.out]
  refine wp_region_slots3 [8, 9, 10, 11, 12, 13, 14, 5] (by kernel_rfl) (by kernel_rfl) (by kernel_rfl) (fun u => by dsimp only [frameOf, setMany, List.set, Nat.zero_add, Nat.reduceAdd])
    (fun i v W => match i with | 0 => v = .pointer (some ⟨pb, 0, none⟩) | 1 => v = .pointer (some ⟨pb, 0, none⟩) | 2 => v = .pointer (some ⟨pb, 1, none⟩) | 3 => v = .map (some mb) | 4 => v = .pointer (some ⟨w.heap.size, 2, none⟩) | 5 => v = .string ⟨k.name.toArray⟩ | 6 => v = V | 7 => v = V | _ => True) (fun L U W => ∃ q, W = (w.alloc ob).drewN q) (fun _ _ => True) (fun _ _ _ _ _ h => h) ⟨1, rfl⟩ ?_ ?_
  · repeat (first | exact Steps.nil | (refine Steps.cons ?_ ?_; rotate_left))
    all_goals
      rintro L U W hL hpre ⟨q, rfl⟩ hun hdep K hK
      have hlq := hlook q
      clear hun hdep
      first | (simp [Region.binds] at hpre; done) | simp [Region.binds] at hpre | clear hpre
      go_simp
      first | exact hK _ _ _ rfl trivial ⟨q, rfl⟩ rfl | exact hK _ _ _ rfl trivial ⟨q, rfl⟩ (by simp [Act.put, hpre]) | exact hK undef _ _ trivial trivial ⟨q, rfl⟩ (by simp [Act.put, hpre]) | exact hK _ _ _ trivial trivial ⟨q, rfl⟩ rfl | exact hK _ _ _ trivial trivial ⟨q, rfl⟩ (by simp [Act.put, hpre])
  · rintro L U W hL hφ ⟨q, rfl⟩
    have e7 : U 7 = V := hφ 7 (by decide)
    simp only [e7]
    clear hφ hL
    go_wp2_with fail
    go_end0
    refine ⟨rfl, ?_⟩
    rw [hF.out]
    have hbw : Below w.heap.size w ((w.alloc ob).drewN q) := below_drewN ((Below.refl _ _).alloc (Nat.le_refl _) _) q
    exact ⟨H1.out.trans (hbw.mono (by omega)), Nat.le_trans h2 hbw.size, (hbw.cell (p := ⟨B, 0, none⟩) (show B < w.heap.size by omega)).trans H3.out, (hbw.cell (p := ⟨B + 3, 0, none⟩) (show B + 3 < w.heap.size by omega)).trans H4.out, there_below H5.out (show B + 2 < w.heap.size by omega) hbw, v, (hbw.cell (p := ⟨B + 2, 0, none⟩) (show B + 2 < w.heap.size by omega)).trans H6.out, ownsRow_below H7.out hbw⟩
set_option maxHeartbeats 1000000 in
theorem iVisit_has (w0 : World) (B : Nat) (p : Value) (xs : List PT) (hB : B = w0.heap.size) (hsc : ISc w0 p xs) (n : Nat) (k : Kd) (out : List Name) (w : World) (hk : kdOk k) (hb : k.base = [64]) (hin : k.name ∈ out) (hm : Mets (ptysOf xs) out) (hl8 : out.length ≤ 8) (hst : MetSt w0 B p xs w out) :
    Calls Tryz.prog 92 #[kdV k, .pointer (some ⟨B, 0, none⟩), .pointer (some ⟨B + 2, 0, none⟩), .pointer (some ⟨B + 3, 0, none⟩)] w (MtPost w0 B p xs (metN (ptysOf xs) (n + 1) k out)) := by
  have hF := Lib.hid (show metN (ptysOf xs) (n + 1) k out = out from by rw [metN, if_neg (fun h => h.2 hin)])
  obtain ⟨z, hz, hzm, hzn⟩ := findP_isSome (hm.2 _ hin)
  have Htys := Lib.hid (ISc.tys hsc)
  have Hpw := Lib.hid (ISc.pw hsc)
  obtain ⟨h1, h2, h3, h4, h5, v, h6, h7⟩ := hst
  obtain ⟨pb, A, c, mb, rfl, q0, q1, q2, q3, q4, _⟩ := hsc
  have hlt : pb < B := by omega
  have hb2 := q4.lt
  have x3 : w.cell? ⟨pb, 1, none⟩ = some (.map (some mb)) := (h1.cell (p := ⟨pb, 1, none⟩) hlt).trans q2
  unfold kdV
  have t1 : (k.base == [64]) = true := by simpa using hb
  have t2 : (k.base != [64]) = false := by simpa using hb
  have hnl := name_short hk
  generalize hd : (.cells #[.string ⟨k.signs.toArray⟩, .string ⟨k.base.toArray⟩, .string ⟨k.name.toArray⟩] 70 : Obj) = ob
  have y1 : (w.alloc ob).cell? ⟨w.heap.size, 1, none⟩ = some (.string ⟨k.base.toArray⟩) := by rw [← hd]; simp
  have y2 : (w.alloc ob).cell? ⟨w.heap.size, 2, none⟩ = some (.string ⟨k.name.toArray⟩) := by rw [← hd]; simp
  have y3 : (w.alloc ob).cell? ⟨pb, 1, none⟩ = some (.map (some mb)) := by rw [World.cell?_alloc_old _ _ _ (show pb ≠ w.heap.size by omega)]; exact x3
  have y4 : (w.alloc ob).cell? ⟨B, 0, none⟩ = some (.pointer (some ⟨pb, 0, none⟩)) := by rw [World.cell?_alloc_old _ _ _ (show B ≠ w.heap.size by omega)]; exact h3
  have hlook : ∀ q, (Instr.lookup 130 (.map (some mb)) (.string ⟨k.name.toArray⟩) false).run Tryz.prog ((w.alloc ob).drewN q) = .ok (ptrP (findP xs k.name)) ((w.alloc ob).drewN q) := fun q => named_look (FMap.below (FMap.alloc (FMap.belowAt q4 (show mb < B by omega) h1) ob) (below_drewN (Below.refl _ _) q)) k.name (by omega)
  rw [hz] at hlook
  unfold ptrP PT.ptr at hlook
  have H1 := Lib.hid h1
  have H3 := Lib.hid h3
  have H4 := Lib.hid h4
  have H5 := Lib.hid h5
  have H6 := Lib.hid h6
  have H7 := Lib.hid h7
  have Hin := Lib.hid hin
  have Hm := Lib.hid hm
  have Hz := Lib.hid hz
  have Hzm := Lib.hid hzm
  have Hb64 := Lib.hid hb
  have Hd := Lib.hid hd
  have HB := Lib.hid hB
  obtain ⟨A7, c7, ev, hrow7⟩ := RowAt.own h7
  subst ev
  have Hrow7 := Lib.hid hrow7
  clear hrow7 hin hm hz hzm hzn
  clear hb hd h1 h3 h4 h5 h6 h7 x3 q1 q2 q3 q4 hB
  go_enter Tryz.func92, Tryz.ntmps92
  go_wp2_with fail
  rw [Hd.out]
  refine wp_region_slots3 [8, 9, 10, 11, 12, 13, 14, 5] (by kernel_rfl) (by kernel_rfl) (by kernel_rfl) (fun u => by dsimp only [frameOf, setMany, List.set, Nat.zero_add, Nat.reduceAdd])
    (fun i v W => match i with | 0 => v = .pointer (some ⟨pb, 0, none⟩) | 1 => v = .pointer (some ⟨pb, 0, none⟩) | 2 => v = .pointer (some ⟨pb, 1, none⟩) | 3 => v = .map (some mb) | 4 => v = .pointer (some ⟨w.heap.size, 2, none⟩) | 5 => v = .string ⟨k.name.toArray⟩ | 6 => v = .pointer (some ⟨z.blk, 0, none⟩) | 7 => v = .pointer (some ⟨z.blk, 0, none⟩) | _ => True) (fun L U W => ∃ q, W = (w.alloc ob).drewN q) (fun _ _ => True) (fun _ _ _ _ _ h => h) ⟨1, rfl⟩ ?_ ?_
  · repeat (first | exact Steps.nil | (refine Steps.cons ?_ ?_; rotate_left))
    all_goals
      rintro L U W hL hpre ⟨q, rfl⟩ hun hdep K hK
      have hlq := hlook q
      clear hun hdep
      first | (simp [Region.binds] at hpre; done) | simp [Region.binds] at hpre | clear hpre
      go_simp
      first | exact hK _ _ _ rfl trivial ⟨q, rfl⟩ rfl | exact hK _ _ _ rfl trivial ⟨q, rfl⟩ (by simp [Act.put, hpre]) | exact hK undef _ _ trivial trivial ⟨q, rfl⟩ (by simp [Act.put, hpre]) | exact hK _ _ _ trivial trivial ⟨q, rfl⟩ rfl | exact hK _ _ _ trivial trivial ⟨q, rfl⟩ (by simp [Act.put, hpre])
  · rintro L U W hL hφ ⟨q, rfl⟩
    have e7 : U 7 = .pointer (some ⟨z.blk, 0, none⟩) := hφ 7 (by decide)
    simp only [e7]
    clear hφ hL
    have hbw : Below w.heap.size w ((w.alloc ob).drewN q) := below_drewN ((Below.refl _ _).alloc (Nat.le_refl _) _) q
    have Hbw := Lib.hid hbw
    have z6 := (hbw.cell (p := ⟨B + 2, 0, none⟩) (show B + 2 < w.heap.size by omega)).trans H6.out
    have Hcon := Lib.hid (ptrContains_any A7 c7 (out.map (blkN xs)) z.blk ((w.alloc ob).drewN q) (by simpa using Hrow7.out.below hbw) (by simp; omega) (fun b hb => by
      obtain ⟨m, hmo, rfl⟩ := List.mem_map.1 hb
      obtain ⟨y, hy, hym, _⟩ := findP_isSome (Hm.out.2 m hmo)
      rw [blkN_some hy]
      exact ((((Htys.out y hym).below (HB.out ▸ H1.out)).below hbw).2.1)) (((Htys.out z Hzm.out).below (HB.out ▸ H1.out)).below hbw).2.1)
    have hdec : decide (z.blk ∈ out.map (blkN xs)) = true := decide_eq_true (by rw [← blkN_some Hz.out]; exact List.mem_map_of_mem Hin.out)
    rw [hdec] at Hcon
    rw [List.length_map] at Hcon
    clear hbw hdec
    go_wp2_with fail
    refine Hcon.out.mono ?_
    rintro e w' ⟨rfl, rfl⟩
    go_wp2_with fail
    go_end0
    refine ⟨rfl, ?_⟩
    rw [hF.out]
    have hbw := Hbw.out
    exact ⟨H1.out.trans (hbw.mono (by omega)), Nat.le_trans h2 hbw.size, (hbw.cell (p := ⟨B, 0, none⟩) (show B < w.heap.size by omega)).trans H3.out, (hbw.cell (p := ⟨B + 3, 0, none⟩) (show B + 3 < w.heap.size by omega)).trans H4.out, there_below H5.out (show B + 2 < w.heap.size by omega) hbw, _, (hbw.cell (p := ⟨B + 2, 0, none⟩) (show B + 2 < w.heap.size by omega)).trans H6.out, ownsRow_below H7.out hbw⟩
end Go.Proofs.YtdhinlhafoiaiaaGreatDoor
