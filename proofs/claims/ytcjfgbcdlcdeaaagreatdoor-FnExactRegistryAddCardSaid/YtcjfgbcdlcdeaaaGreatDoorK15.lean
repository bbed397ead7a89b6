/- Texts joined: SStand2, SStand3, SL6, AppW, SAsk, AppW2, SAskK. Conditions: as each theorem names them. -/
import Derived.Laws.Append
import Derived.Test.YtcjfgbcdlcdeaaaGreatDoorK01
import Derived.Test.YtcjfgbcdlcdeaaaGreatDoorK03
import Derived.Test.YtcjfgbcdlcdeaaaGreatDoorK14
/- The reference's standing values, of kinds that name a type. -/
namespace Go.Proofs.YtcjfgbcdlcdeaaaGreatDoor
open Go.RowKit
set_option maxRecDepth 100000
set_option linter.unusedVariables false
set_option linter.unusedSimpArgs false
attribute [local go_sem] ba_get ba_toList ba_extract take_drop_all ByteArray.mk_append_mk

/-- What reading a standing value leaves. -/
def SdPost (l : List UInt8) (w : World) (e : Ending) (w' : World) : Prop := e = .returned (.string ⟨l.toArray⟩) ∧ Below w.heap.size w w'

set_option maxHeartbeats 1000000 in
theorem sStands_name (xv : Value) (xs : List (Ty × Value)) (hok : ∀ x ∈ xs, tyOk x.1) (n : Nat) (k : Kd) (w : World) (hsc : SSc w xv xs) (hk : kdOk k) (hs : k.signs = []) (hb : k.base = [64]) (t : Ty) (fv : Value) (hx : findX xs k.name = some (t, fv))
    (hn : n ≤ 9) (ih : t.sort = 85 → ∀ f fs, t.fields = f :: fs → ∀ W, SSc W xv xs → Calls Tryz.prog 161 #[xv, .string ⟨(kdB f.kind).toArray⟩] W (SdPost (standN (tysOf xs) n f.kind) W)) :
    Calls Tryz.prog 161 #[xv, .string ⟨(kdB k).toArray⟩] w (SdPost (standN (tysOf xs) (n + 1) k) w) := by
  have Hr := Lib.hid (fun W h => sRef_any xv xs k W h hk)
  have Hlen := Lib.hid (standN_len (tysOf xs) (fun t ht => by obtain ⟨x, hx, rfl⟩ := List.mem_map.1 ht; exact hok x hx))
  have hrx : refX xs k = some (t, fv) := (if_pos ⟨hs, hb⟩).trans hx
  have HF := Lib.hid (show standN (tysOf xs) (n + 1) k = if t.sort = 82 then [123, 125] else match t.fields with | [] => [] | f :: _ => if t.sort = 69 then 35 :: decB f.tag else 60 :: (decB f.tag ++ 61 :: (standN (tysOf xs) n f.kind ++ [62])) from by
    rw [standN, if_neg (by rw [hs]; decide), if_neg (by rw [hs]; decide), if_neg (by rw [hb]; decide), if_neg (by rw [hb]; decide), if_neg (by rw [hb]; decide), findX_ty, hx]; rfl)
  have hto := hok _ (findX_mem hx).1
  have hkb : kdB k = 64 :: (k.name ++ [59]) := by unfold kdB coreB; rw [hs, if_pos hb]; rfl
  have hnl : k.name.length ≤ 3 := by
    rcases hk.2.1 with h | h
    · exact (nameOk_iff.1 h.2).2.1
    · rw [hb] at h; exact absurd h.1 (by decide)
  have hfd : SFds w fv t.fields := by obtain ⟨_, _, _, _, _, hf⟩ := hsc; exact hf _ (findX_mem hx).1
  rw [hrx] at Hr
  rw [hkb] at Hr ⊢
  obtain ⟨A, c, rfl, hfl, hrow⟩ := hfd
  have Hsc := Lib.hid hsc
  have Hrow := Lib.hid hrow
  have Hto := Lib.hid hto
  have Ih := Lib.hid ih
  unfold styR styV at Hr
  simp only [] at hto
  clear hsc hk hs hb hx hkb hrow hto hrx ih hok
  by_cases h82 : t.sort = 82
  · have t82 : ((t.sort.toNat : Int) == 82) = true := byte_eq (d := 82) h82
    have HF2 := Lib.hid (HF.out.trans (if_pos h82))
    clear h82 HF
    go_enter Tryz.func161, Tryz.ntmps161
    go_wp2_with fail
    refine (Hr.out _ Hsc.out).mono ?_
    rintro e w1 ⟨rfl, hb1⟩
    go_wp2_with fail
    go_ret
    exact ⟨by rw [HF2.out]; rfl, hb1.alloc hb1.size _⟩
  · have t82 : ((t.sort.toNat : Int) == 82) = false := byte_ne (d := 82) h82
    have HF2 := Lib.hid (HF.out.trans (if_neg h82))
    have hne : t.fields ≠ [] := fun h => h82 (Hto.out.2.2.2.2 h)
    obtain ⟨f, fs, hfs⟩ : ∃ f fs, t.fields = f :: fs := by
      cases h : t.fields with
      | nil => exact absurd h hne
      | cons f fs => exact ⟨f, fs, rfl⟩
    have hf0 : 0 < t.fields.length := by rw [hfs]; simp
    have hge : t.fields[0] = f := by simp [hfs]
    have hft := Hto.out.2.2.1.1 f (by rw [hfs]; simp)
    have htag : f.tag ≤ 200 := hft.2.1
    have hdl := decB_len 2 f.tag (by have e : 10 ^ (2 + 1) = 1000 := rfl; omega)
    have Hd := Lib.hid (fun W => l6Dec_any f.tag f.tag W (Nat.le_refl _) (by omega))
    have hi0 : (0 : Int) < (t.fields.length : Int) := by omega
    have HF3 := Lib.hid (show standN (tysOf xs) (n + 1) k = if t.sort = 69 then 35 :: decB f.tag else 60 :: (decB f.tag ++ 61 :: (standN (tysOf xs) n f.kind ++ [62])) from by rw [HF2.out, hfs])
    have Hfs := Lib.hid hfs
    have Hge := Lib.hid hge
    obtain ⟨b, off, rfl, hbl, g0, g1, g2, g3⟩ := SFds.at_ Hrow.out hf0
    rw [hge] at g0 g1 g2 g3
    simp only [Nat.zero_mul, Nat.add_zero] at g0 g1 g2 g3
    have H82 := Lib.hid h82
    clear HF2 HF h82 hne hfs hge hft g1 g3
    by_cases h69 : t.sort = 69
    · have t69 : ((t.sort.toNat : Int) == 69) = true := byte_eq (d := 69) h69
      have HF4 := Lib.hid (HF3.out.trans (if_pos h69))
      clear h69 HF3
      go_enter Tryz.func161, Tryz.ntmps161
      go_wp2_with fail
      refine (Hr.out _ Hsc.out).mono ?_
      rintro e w1 ⟨rfl, hb1⟩
      have g0' := (hb1.cell (p := ⟨b, off, none⟩) hbl).trans g0
      have hbl1 : b < w1.heap.size := Nat.lt_of_lt_of_le hbl hb1.size
      have hbn : ¬ (b = w1.heap.size) := by omega
      have Hb1 := Lib.hid hb1
      clear hb1 g0 g2
      go_wp2_with fail
      refine (Hd.out _).mono ?_
      rintro e w2 ⟨rfl, hb2⟩
      go_wp2_with fail
      go_ret
      exact ⟨by rw [HF4.out]; simp, (Hb1.out.alloc Hb1.out.size _).trans (hb2.mono (by have := Hb1.out.size; simp; omega))⟩
    · have t69 : ((t.sort.toNat : Int) == 69) = false := byte_ne (d := 69) h69
      have HF4 := Lib.hid (HF3.out.trans (if_neg h69))
      have h85 : t.sort = 85 := by
        rcases Hto.out.1 with h | h | h
        · exact absurd h H82.out
        · exact h
        · exact absurd h h69
      have Ih2 := Lib.hid (Ih.out h85 f fs Hfs.out)
      have hsl := Hlen.out n f.kind
      generalize standN (tysOf xs) n f.kind = sl at *
      generalize kdB f.kind = kd at *
      clear h69 HF3 h85 Ih
      go_enter Tryz.func161, Tryz.ntmps161
      go_wp2_with fail
      refine (Hr.out _ Hsc.out).mono ?_
      rintro e w1 ⟨rfl, hb1⟩
      have g0' := (hb1.cell (p := ⟨b, off, none⟩) hbl).trans g0
      have g2' := (hb1.cell (p := ⟨b, off + 2, none⟩) hbl).trans g2
      have hbl1 : b < w1.heap.size := Nat.lt_of_lt_of_le hbl hb1.size
      have hbn : ¬ (b = w1.heap.size) := by omega
      have Hb1 := Lib.hid hb1
      clear hb1 g0 g2
      go_wp2_with fail
      obtain ⟨W0, hW0⟩ : ∃ W0, W0 = w1.alloc (.cells #[.int .u8 (t.sort.toNat : Int), .string ⟨t.name.toArray⟩, .slice (some ⟨b, off, none⟩) t.fields.length c] 133) := ⟨_, rfl⟩
      rw [← hW0]
      have y2 : W0.cell? ⟨w1.heap.size, 2, none⟩ = some (.slice (some ⟨b, off, none⟩) t.fields.length c) := by rw [hW0]; simp
      have y0 : W0.cell? ⟨b, off, none⟩ = some (.int .i64 (f.tag : Int)) := by rw [hW0, World.cell?_alloc_old _ _ _ hbn]; exact g0'
      have y3 : W0.cell? ⟨b, off + 2, none⟩ = some (.string ⟨kd.toArray⟩) := by rw [hW0, World.cell?_alloc_old _ _ _ hbn]; exact g2'
      have hz0 : W0.heap.size = w1.heap.size + 1 := by rw [hW0]; simp
      have hB5 : w1.heap.size < W0.heap.size := by omega
      have hb5 : b < W0.heap.size := by omega
      have Hb0 := Lib.hid (show Below w.heap.size w W0 from by rw [hW0]; exact Hb1.out.alloc Hb1.out.size _)
      have Hsc0 := Lib.hid (Hsc.out.below Hb0.out)
      generalize w1.heap.size = B5 at *
      clear hW0 hz0 g0' g2'
      refine wp_region_slots3 [39, 40, 41, 42, 43, 44, 45, 46, 47, 48, 49, 50, 51, 52, 53, 54, 55, 4] (by kernel_rfl) (by kernel_rfl) (by kernel_rfl) (fun u => by dsimp only [frameOf, setMany, List.set, Nat.zero_add, Nat.reduceAdd])
        (fun i v W => match i with | 0 => v = .pointer (some ⟨B5, 2, none⟩) | 1 => v = .slice (some ⟨b, off, none⟩) t.fields.length c | 2 => v = .pointer (some ⟨b, off, none⟩) | 3 => v = .pointer (some ⟨b, off, none⟩) | 4 => v = .int .i64 (f.tag : Int) | 5 => v = .string ⟨(decB f.tag).toArray⟩ | 6 => v = .string ⟨(60 :: decB f.tag).toArray⟩ | 7 => v = .string ⟨(60 :: (decB f.tag ++ [61])).toArray⟩ | 8 => v = xv | 9 => v = .pointer (some ⟨B5, 2, none⟩) | 10 => v = .slice (some ⟨b, off, none⟩) t.fields.length c | 11 => v = .pointer (some ⟨b, off, none⟩) | 12 => v = .pointer (some ⟨b, off + 2, none⟩) | 13 => v = .string ⟨kd.toArray⟩ | 14 => v = .string ⟨sl.toArray⟩ | 15 => v = .string ⟨(60 :: (decB f.tag ++ 61 :: sl)).toArray⟩ | 16 => v = .string ⟨(60 :: (decB f.tag ++ 61 :: (sl ++ [62]))).toArray⟩ | 17 => v = .string ⟨(60 :: (decB f.tag ++ 61 :: (sl ++ [62]))).toArray⟩ | _ => True)
        (fun L U W => Below W0.heap.size W0 W) (fun _ _ => True) (fun _ _ _ _ _ h => h) ((Below.refl _ _).drew) ?_ ?_
      · repeat (first | exact Steps.nil | (refine Steps.cons ?_ ?_; rotate_left))
        all_goals
          rintro L U W hL hpre hR hun hdep K hK
          have HR := Lib.hid hR
          have hB := HR.out
          have c2 := (hB.cell (p := ⟨B5, 2, none⟩) hB5).trans y2
          have c0 := (hB.cell (p := ⟨b, off, none⟩) hb5).trans y0
          have c3 := (hB.cell (p := ⟨b, off + 2, none⟩) hb5).trans y3
          clear hun hdep hR
          first | (simp [Region.binds] at hpre; done) | simp [Region.binds] at hpre | clear hpre
        iterate 5
          · go_simp
            first | exact hK _ _ _ rfl trivial HR.out rfl | exact hK _ _ _ rfl trivial HR.out (by simp [Act.put, hpre]) | exact hK undef _ _ trivial trivial HR.out (by simp [Act.put, hpre]) | exact hK _ _ _ trivial trivial HR.out rfl | exact hK _ _ _ trivial trivial HR.out (by simp [Act.put, hpre])
        · go_simp
          refine (Hd.out _).mono ?_
          rintro e w3 ⟨rfl, hb3⟩
          exact hK _ _ _ rfl trivial (hB.trans (hb3.mono hB.size)) (by simp [Act.put, hpre])
        · go_simp
          rw [if_neg (by first | omega | (simp; omega))]
          go_simp
          first | exact hK _ _ _ rfl trivial HR.out rfl | exact hK _ _ _ rfl trivial HR.out (by simp [Act.put, hpre])
        · go_simp
          rw [if_neg (by first | omega | (simp; omega))]
          go_simp
          first | exact hK _ _ _ rfl trivial HR.out rfl | exact hK _ _ _ rfl trivial HR.out (by simp [Act.put, hpre])
        iterate 6
          · go_simp
            first | exact hK _ _ _ rfl trivial HR.out rfl | exact hK _ _ _ rfl trivial HR.out (by simp [Act.put, hpre]) | exact hK undef _ _ trivial trivial HR.out (by simp [Act.put, hpre]) | exact hK _ _ _ trivial trivial HR.out rfl | exact hK _ _ _ trivial trivial HR.out (by simp [Act.put, hpre])
        · go_simp
          refine (Ih2.out _ (Hsc0.out.below hB)).mono ?_
          rintro e w3 ⟨rfl, hb3⟩
          exact hK _ _ _ rfl trivial (hB.trans (hb3.mono hB.size)) (by simp [Act.put, hpre])
        · go_simp
          rw [if_neg (by first | omega | (simp; omega))]
          go_simp
          first | exact hK _ _ _ rfl trivial HR.out rfl | exact hK _ _ _ rfl trivial HR.out (by simp [Act.put, hpre])
        · go_simp
          rw [if_neg (by first | omega | (simp; omega))]
          go_simp
          first | exact hK _ _ _ rfl trivial HR.out rfl | exact hK _ _ _ rfl trivial HR.out (by simp [Act.put, hpre])
        · go_simp
          first | exact hK _ _ _ rfl trivial HR.out rfl | exact hK _ _ _ rfl trivial HR.out (by simp [Act.put, hpre]) | exact hK undef _ _ trivial trivial HR.out (by simp [Act.put, hpre]) | exact hK _ _ _ trivial trivial HR.out rfl | exact hK _ _ _ trivial trivial HR.out (by simp [Act.put, hpre])
      · rintro L U W hL hφ hR
        have e17 : U 17 = .string ⟨(60 :: (decB f.tag ++ 61 :: (sl ++ [62]))).toArray⟩ := hφ 17 (by decide)
        simp only [e17]
        clear hφ
        have Hb9 := Lib.hid (Hb0.out.trans (hR.mono Hb0.out.size))
        clear hR
        go_wp2_with fail
        go_ret
        exact ⟨by rw [HF4.out]; rfl, Hb9.out⟩
end Go.Proofs.YtcjfgbcdlcdeaaaGreatDoor
/- The reference's standing values: of each kind, of each field. -/
namespace Go.Proofs.YtcjfgbcdlcdeaaaGreatDoor
open Go.RowKit
set_option maxRecDepth 100000
set_option linter.unusedVariables false
set_option linter.unusedSimpArgs false
attribute [local go_sem] ba_get ba_toList ba_extract take_drop_all ByteArray.mk_append_mk

theorem standN_sign (S : List Ty) (n : Nat) (k : Kd) (c : UInt8) (t : List UInt8) (h : k.signs = c :: t) (hc : c = 91 ∨ c = 63) : standN S (n + 1) k = signL c := by
  unfold standN signL
  rw [h]
  rcases hc with rfl | rfl
  · rfl
  · rfl
theorem standN_letter (S : List Ty) (n : Nat) (k : Kd) (h : k.signs = []) (hb : k.base = [110] ∨ k.base = [116] ∨ k.base = [102]) : standN S (n + 1) k = plainL k.base := by
  unfold standN plainL
  rw [h]
  rcases hb with hb | hb | hb <;> rw [hb] <;> rfl
theorem sign_cases {k : Kd} (h : kdOk k) {c : UInt8} {t : List UInt8} (hs : k.signs = c :: t) : c = 91 ∨ c = 63 := by
  have := h.1
  rw [hs, List.all_cons, Bool.and_eq_true] at this
  have := this.1
  unfold isSign at this
  simpa using this

theorem sStands_any (xv : Value) (xs : List (Ty × Value)) (hok : ∀ x ∈ xs, tyOk x.1) (hS : kindsOk (tysOf xs)) : ∀ (n : Nat), n ≤ 9 → ∀ (k : Kd) (w : World), SSc w xv xs → kdOk k → refOk (tysOf xs) k → kdEnds (tysOf xs) n k →
    Calls Tryz.prog 161 #[xv, .string ⟨(kdB k).toArray⟩] w (SdPost (standN (tysOf xs) (n + 1) k) w) := by
  intro n
  induction n with
  | zero =>
    intro _ k w hsc hk hr he
    cases hs : k.signs with
    | cons c t =>
      have hc := sign_cases hk hs
      have hkb : kdB k = c :: (t ++ coreB k) := by unfold kdB; rw [hs]; rfl
      have hl := hk.2.2
      rw [hkb] at hl ⊢
      rw [standN_sign _ _ k c t hs hc]
      refine (sStands_sign xv c (t ++ coreB k) w hc (by simp at hl ⊢; omega)).mono ?_
      rintro e w' ⟨rfl, rfl⟩
      exact ⟨rfl, Below.refl _ _⟩
    | nil =>
      by_cases hb : k.base = [64]
      · obtain ⟨t, _, h⟩ := he hs hb
        exact absurd h (by simp [endsN])
      · rw [standN_letter _ _ k hs (kd_letter hk hs hb).2]
        exact sStands_letter xv xs k w hsc hk hs hb
  | succ n ih =>
    intro hn k w hsc hk hr he
    cases hs : k.signs with
    | cons c t =>
      have hc := sign_cases hk hs
      have hkb : kdB k = c :: (t ++ coreB k) := by unfold kdB; rw [hs]; rfl
      have hl := hk.2.2
      rw [hkb] at hl ⊢
      rw [standN_sign _ _ k c t hs hc]
      refine (sStands_sign xv c (t ++ coreB k) w hc (by simp at hl ⊢; omega)).mono ?_
      rintro e w' ⟨rfl, rfl⟩
      exact ⟨rfl, Below.refl _ _⟩
    | nil =>
      by_cases hb : k.base = [64]
      · have h1 := hr hb
        rw [findX_ty] at h1
        cases hx : findX xs k.name with
        | none => rw [hx] at h1; cases h1
        | some x =>
          obtain ⟨t, fv⟩ := x
          have hft : findTy (tysOf xs) k.name = some t := (findX_mem hx).2.2
          have hto : tyOk t := hok _ (findX_mem hx).1
          refine sStands_name xv xs hok (n + 1) k w hsc hk hs hb t fv hx hn (fun h85 f fs hfs W hW => ?_)
          have hrf : refOk (tysOf xs) f.kind := hS t (findTy_some hft).1 (by rw [h85]; decide) f (by rw [hfs]; simp)
          have hkf : kdOk f.kind := ((hto.2.2.1.1 f (by rw [hfs]; simp)).2.2.2.2 (by rw [h85]; decide)).1
          exact ih (by omega) f.kind W hW hkf hrf (kdEnds_next he hs hb hft h85 hfs hrf)
      · rw [standN_letter _ _ k hs (kd_letter hk hs hb).2]
        exact sStands_letter xv xs k w hsc hk hs hb
/-- In a schema that is valid each kind ends. -/
theorem kdEnds_ok {S : List Ty} (h : scOk S) {k : Kd} (hr : refOk S k) : kdEnds S 9 k := by
  intro hs hb
  have h1 := hr hb
  cases hf : findTy S k.name with
  | none => rw [hf] at h1; cases h1
  | some t => exact ⟨t, rfl, h.2.2 t (findTy_some hf).1⟩
theorem sStandL_any (xv : Value) (xs : List (Ty × Value)) (h : scOk (tysOf xs)) (k : Kd) (w : World) (hsc : SSc w xv xs) (hk : kdOk k) (hr : refOk (tysOf xs) k) :
    Calls Tryz.prog 161 #[xv, .string ⟨(kdB k).toArray⟩] w (SdPost (standL (tysOf xs) k) w) :=
  sStands_any xv xs (fun x hx => h.1.1 x.1 (List.mem_map_of_mem hx)) h.2.1 9 (Nat.le_refl _) k w hsc hk hr (kdEnds_ok h hr)

set_option maxHeartbeats 1000000 in
theorem sStand_any (xv : Value) (xs : List (Ty × Value)) (h : scOk (tysOf xs)) (f : Fd) (w : World) (hsc : SSc w xv xs) (hk : kdOk f.kind) (hr : refOk (tysOf xs) f.kind) (hl : f.given.length ≤ 1000) :
    Calls Tryz.prog 126 #[xv, sfV f] w (SdPost (ofL (tysOf xs) f) w) := by
  have HF := Lib.hid (show ofL (tysOf xs) f = if f.given = [] then standL (tysOf xs) f.kind else f.given from rfl)
  have Hs := Lib.hid (fun W (h1 : SSc W xv xs) => sStandL_any xv xs h f.kind W h1 hk hr)
  have Hsc := Lib.hid hsc
  unfold sfV
  generalize kdB f.kind = kd at *
  clear h hk hr hsc
  by_cases hg : f.given = []
  · have HF2 := Lib.hid (HF.out.trans (if_pos hg))
    rw [hg]
    clear hg HF
    go_enter Tryz.func126, Tryz.ntmps126
    go_wp2_with fail
    refine (Hs.out _ (Hsc.out.below ((Below.refl _ _).alloc (Nat.le_refl _) _))).mono ?_
    rintro e w1 ⟨rfl, hb1⟩
    go_wp2_with fail
    go_ret
    exact ⟨by rw [HF2.out]; rfl, ((Below.refl _ _).alloc (Nat.le_refl _) _).trans (hb1.mono (by simp))⟩
  · have HF2 := Lib.hid (HF.out.trans (if_neg hg))
    have t1 : f.given.isEmpty = false := by simpa using hg
    have t2 : (!f.given.isEmpty) = true := by simp [t1]
    clear hg HF
    go_enter Tryz.func126, Tryz.ntmps126
    go_wp2_with fail
    go_ret
    exact ⟨by rw [HF2.out]; rfl, (Below.refl _ _).alloc (Nat.le_refl _) _⟩
end Go.Proofs.YtcjfgbcdlcdeaaaGreatDoor
/- Plain laws of evolution: what reads what, with what was asked in mind; a kind reads itself. No program in sight. -/
namespace Go.Proofs.YtcjfgbcdlcdeaaaGreatDoor

abbrev Pair := Name × Name
/-- The fields of an older type, one by one, where K tells of kinds. -/
def evF (S T : List Ty) (K : Kd → Kd → List Pair → Bool × List Pair) (t : Ty) (st : UInt8) : List Fd → List Pair → Bool × List Pair
  | [], m => (true, m)
  | g :: gs, m => match fieldT t.fields g.tag with
    | none => if st = 82 then evF S T K t st gs m else (false, m)
    | some f => if st = 69 then evF S T K t st gs m else
        if (K f.kind g.kind m).1 = false then (false, (K f.kind g.kind m).2)
        else if st = 82 ∧ ofL S f ≠ ofL T g then (false, (K f.kind g.kind m).2)
        else evF S T K t st gs (K f.kind g.kind m).2
/-- A type reads another one. -/
def evT (S T : List Ty) (K : Kd → Kd → List Pair → Bool × List Pair) (t u : Ty) (m : List Pair) : Bool × List Pair :=
  if t.sort ≠ u.sort then (false, m) else evF S T K t u.sort u.fields m
/-- A kind reads another one; m: the types that were asked for. -/
def evK (S T : List Ty) : Nat → Kd → Kd → List Pair → Bool × List Pair
  | 0, _, _, m => (true, m)
  | n + 1, a, b, m =>
    if a.signs ≠ b.signs ∨ a.base ≠ b.base then (false, m)
    else if a.base ≠ [64] then (true, m)
    else match findTy S a.name, findTy T b.name with
      | some t, some u => if (a.name, b.name) ∈ m then (true, m) else evT S T (evK S T n) t u (m ++ [(a.name, b.name)])
      | _, _ => (false, m)

/-- What was asked for: types of both, each pair once. -/
def Asks (S T : List Ty) (m : List Pair) : Prop := m.Nodup ∧ ∀ p ∈ m, p.1 ∈ namesOf S ∧ p.2 ∈ namesOf T
theorem Asks.nil (S T : List Ty) : Asks S T [] := ⟨List.nodup_nil, by simp⟩
theorem Asks.snoc {S T : List Ty} {m : List Pair} {a b : Name} (h : Asks S T m) (ha : a ∈ namesOf S) (hb : b ∈ namesOf T) (hn : (a, b) ∉ m) : Asks S T (m ++ [(a, b)]) := by
  refine ⟨?_, ?_⟩
  · rw [List.nodup_append]
    refine ⟨h.1, by simp, ?_⟩
    intro x hx y hy
    simp only [List.mem_singleton] at hy
    subst hy
    rintro rfl
    exact hn hx
  · intro p hp
    rcases List.mem_append.1 hp with hp | hp
    · exact h.2 p hp
    · simp only [List.mem_singleton] at hp
      subst hp
      exact ⟨ha, hb⟩
theorem sub_lenP : ∀ (l m : List Pair), l.Nodup → (∀ x ∈ l, x ∈ m) → l.length ≤ m.length
  | [], m, _, _ => by simp
  | x :: l, m, hn, hs => by
    have hx := hs x (by simp)
    have := sub_lenP l (m.erase x) (List.nodup_cons.1 hn).2 (fun y hy => (List.mem_erase_of_ne (by rintro rfl; exact (List.nodup_cons.1 hn).1 hy)).2 (hs y (by simp [hy])))
    rw [List.length_erase_of_mem hx] at this
    have := List.length_pos_of_mem hx
    simp only [List.length_cons]; omega
def prodN (a b : List Name) : List Pair := a.flatMap fun x => b.map fun y => (x, y)
theorem prodN_len (b : List Name) : ∀ a, (prodN a b).length = a.length * b.length
  | [] => by simp [prodN]
  | x :: a => by
    have := prodN_len b a
    unfold prodN at this ⊢
    rw [List.flatMap_cons, List.length_append, List.length_map, this, List.length_cons, Nat.add_mul]; omega
theorem Asks.len {S T : List Ty} {m : List Pair} (h : Asks S T m) : m.length ≤ S.length * T.length := by
  have := sub_lenP m (prodN (namesOf S) (namesOf T)) h.1 (fun x hx => by
    obtain ⟨a, b⟩ := x
    have := h.2 _ hx
    unfold prodN
    rw [List.mem_flatMap]
    exact ⟨a, this.1, List.mem_map.2 ⟨b, this.2, rfl⟩⟩)
  rw [prodN_len] at this
  simpa [namesOf] using this

/-- What kinds do to what was asked: it grows, and stays good. -/
def Grows (S T : List Ty) (K : Kd → Kd → List Pair → Bool × List Pair) : Prop := ∀ a b m, Asks S T m → Asks S T (K a b m).2 ∧ ∃ l, (K a b m).2 = m ++ l
theorem evF_grows {S T : List Ty} {K : Kd → Kd → List Pair → Bool × List Pair} (hK : Grows S T K) (t : Ty) (st : UInt8) : ∀ (gs : List Fd) (m : List Pair), Asks S T m → Asks S T (evF S T K t st gs m).2 ∧ ∃ l, (evF S T K t st gs m).2 = m ++ l
  | [], m, h => ⟨h, [], by simp [evF]⟩
  | g :: gs, m, h => by
    unfold evF
    cases fieldT t.fields g.tag with
    | none =>
      simp only
      split
      · exact evF_grows hK t st gs m h
      · exact ⟨h, [], by simp⟩
    | some f =>
      simp only
      split
      · exact evF_grows hK t st gs m h
      · obtain ⟨h1, l1, e1⟩ := hK f.kind g.kind m h
        split
        · exact ⟨h1, l1, e1⟩
        · split
          · exact ⟨h1, l1, e1⟩
          · obtain ⟨h2, l2, e2⟩ := evF_grows hK t st gs _ h1
            exact ⟨h2, l1 ++ l2, by rw [e2, e1, List.append_assoc]⟩
theorem evK_grows (S T : List Ty) : ∀ n, Grows S T (evK S T n)
  | 0 => fun a b m h => ⟨h, [], by simp [evK]⟩
  | n + 1 => fun a b m h => by
    unfold evK
    split
    · exact ⟨h, [], by simp⟩
    · split
      · exact ⟨h, [], by simp⟩
      · cases hs : findTy S a.name with
        | none => exact ⟨h, [], by simp⟩
        | some t => cases ht : findTy T b.name with
          | none => exact ⟨h, [], by simp⟩
          | some u =>
            simp only
            split
            · exact ⟨h, [], by simp⟩
            · rename_i hn
              have h1 := h.snoc (findTy_isSome.1 (by rw [hs]; rfl)) (findTy_isSome.1 (by rw [ht]; rfl)) hn
              unfold evT
              split
              · exact ⟨h1, _, rfl⟩
              · obtain ⟨h2, l2, e2⟩ := evF_grows (evK_grows S T n) t u.sort u.fields _ h1
                exact ⟨h2, [(a.name, b.name)] ++ l2, by rw [e2]; simp⟩

/-- A kind reads another one. -/
def readsK (S T : List Ty) (a b : Kd) : Bool := (evK S T 65 a b []).1
/-- .. as texts. -/
def evolveL (x y : Option (List Ty × Kd)) : Bool := match x, y with
  | some (S, a), some (T, b) => readsK S T a b
  | _, _ => false

/-! ### a kind reads itself -/
theorem evF_self {S : List Ty} {K : Kd → Kd → List Pair → Bool × List Pair} {t : Ty} (hd : t.fields.Pairwise fun g f => g.name ≠ f.name ∧ g.tag < f.tag) (hK : ∀ f ∈ t.fields, ∀ m, t.sort ≠ 69 → (K f.kind f.kind m).1 = true) :
    ∀ (gs : List Fd), (∀ g ∈ gs, g ∈ t.fields) → ∀ m, (evF S S K t t.sort gs m).1 = true
  | [], _, m => rfl
  | g :: gs, hg, m => by
    have hgm := hg g (by simp)
    have hf : fieldT t.fields g.tag = some g := by
      cases h : fieldT t.fields g.tag with
      | none =>
        have := List.find?_eq_none.1 h g hgm
        simp at this
      | some f =>
        have hm := List.mem_of_find?_eq_some h
        have ht := List.find?_some h
        simp only [decide_eq_true_eq] at ht
        obtain ⟨i, hi, rfl⟩ := List.mem_iff_getElem.1 hm
        obtain ⟨j, hj, rfl⟩ := List.mem_iff_getElem.1 hgm
        rw [List.pairwise_iff_getElem] at hd
        rcases Nat.lt_trichotomy i j with hij | hij | hij
        · have := (hd i j hi hj hij).2; omega
        · subst hij; rfl
        · have := (hd j i hj hi hij).2; omega
    unfold evF
    rw [hf]
    simp only
    have ih := evF_self (S := S) hd hK gs (fun x hx => hg x (by simp [hx]))
    split
    · exact ih m
    · rename_i hs
      rw [if_neg (by rw [hK g hgm m hs]; decide), if_neg (by simp)]
      exact ih _
theorem evK_self {S : List Ty} (hS : scOk S) : ∀ (n : Nat) (k : Kd) (m : List Pair), refOk S k → (evK S S n k k m).1 = true
  | 0, _, _, _ => rfl
  | n + 1, k, m, hr => by
    unfold evK
    rw [if_neg (by simp)]
    split
    · rfl
    · rename_i hb
      have hb' : k.base = [64] := by simpa using hb
      have h1 := hr hb'
      cases h : findTy S k.name with
      | none => rw [h] at h1; cases h1
      | some t =>
        simp only
        split
        · rfl
        · have htm := (findTy_some h).1
          have hto := hS.1.1 t htm
          unfold evT
          rw [if_neg (by simp)]
          exact evF_self hto.2.2.1.2 (fun f hf m' hs => evK_self hS n f.kind m' (hS.2.1 t htm hs f hf)) t.fields (fun _ h => h) _
theorem readsK_self {S : List Ty} (hS : scOk S) {k : Kd} (hr : refOk S k) : readsK S S k k = true := evK_self hS 65 k [] hr
end Go.Proofs.YtcjfgbcdlcdeaaaGreatDoor
/- Append of one element to a row of the call's own: and where the row lies then. -/
namespace Go.Proofs.YtcjfgbcdlcdeaaaGreatDoor
open Go.RowKit
set_option linter.unusedVariables false

section
variable {P : Program}
theorem run_append_where (w : World) (base : Nat) (t ty e : TypeId) (i : TypeInfo) (z : Value) (size bytes : Nat) (ht : P.underlying t = some (.slice e)) (hi : P.info? e = some i) (hz : i.zero = some z)
    (hsize : i.size = size) (hby : i.bytes = bytes) (hzs : z.cells.size = size) (hsz : 0 < size)
    (v : Value) (n : Nat) (xs : List Value) (hown : w.ownsRow base e size v n xs)
    (a : Addr) (m c : Nat) (news : List Value) (hl : news.length = m * size) (hnews : ∀ j u, news[j]? = some u → w.cell? (a.add j) = some u) (h1 : ∀ u ∈ news, u.oneCell' = true)
    (hm : 0 < m) (h63 : n + m ≤ maxLen) (hbytes : (n + m) * bytes ≤ 140737488355328) (hbase : base ≤ w.heap.size) :
    ∃ v' w', (Builtin.append_ #[t, t] ty #[v, .slice (some a) m c]).run P w = .ok v' w' ∧ w'.ownsRow base e size v' (n + m) (xs ++ news) ∧ w.grownBy w' v.ownBlock ∧
      (v'.ownBlock = v.ownBlock ∨ ∃ k, v'.ownBlock = some k ∧ w.heap.size ≤ k) := by
  obtain ⟨v', w', hr, h2, h3, _⟩ := run_append_own (P := P) w base t ty e i z size bytes ht hi hz hsize hby hzs hsz v n xs hown a m c news hl hnews h1 h63 hbytes hbase
  refine ⟨v', w', hr, h2, h3, ?_⟩
  subst hsize
  subst hby
  have h63' : n + m ≤ 9223372036854775807 := by simp only [maxLen] at h63; omega
  rcases hown.2 with ⟨rfl, rfl⟩ | ⟨g, cap, cur, rfl, hbg, hg, hnc, hcm, hcs, htake⟩
  · have hq := run_append_nil (P := P) w t ty e i z ht hi hz a m c news hl hnews hm (by omega) (by have hb := hbytes; simp only [Nat.zero_add] at hb; omega)
    rw [hq] at hr
    injection hr with e1 _
    subst e1
    exact .inr ⟨_, rfl, Nat.le_refl _⟩
  · by_cases hroom : n + m ≤ cap
    · have hfit : n * i.size + news.length ≤ cur.size := by rw [hl, hcs, ← Nat.add_mul]; exact Nat.mul_le_mul_right _ hroom
      have hq := run_append_room (P := P) w t ty e i ht hi g n cap cur hg a m c news hl hnews h1 hroom hfit
      rw [hq] at hr
      injection hr with e1 _
      subst e1
      exact .inl rfl
    · have holds : ∀ j u, xs[j]? = some u → w.cell? ((⟨g, 0, none⟩ : Addr).add j) = some u := hown.cells (g := g) rfl
      have hq := run_append_grow (P := P) w t ty e i z ht hi hz ⟨g, 0, none⟩ n cap xs hown.1 holds a m c news hl hnews (by omega) (by omega) (growslice_fits (by omega) hbytes)
      rw [hq] at hr
      injection hr with e1 _
      subst e1
      exact .inr ⟨_, rfl, Nat.le_refl _⟩
/-- wpList_app1, and what else it keeps, and where the row lies. -/
theorem wpList_app1W (w : World) {ops : Array Oper} {rest : List Oper} {o : Oper} {a : Act} {Q : Exit → Act → World → Prop} (hgd : o.guard = none) (s x : Operand) (t : TypeId)
    (ho : o.op = .call { callee := .builtin .append, args := #[s, x], argTypes := #[t, t] })
    (base : Nat) (e : TypeId) (z : Value) (bytes : Nat) (ht : P.underlying t = some (.slice e)) (hinfo : (P.info? e).map (fun i => (i.zero, i.size, i.bytes)) = some (some z, 1, bytes))
    (hzs : z.cells.size = 1) (W : World) (u : Value) (hw : w = W.alloc (.cells #[u] e)) (hu : u.oneCell' = true) (v : Value) (n : Nat) (xs : List Value) (hs : a.eval s = v) (hx : a.eval x = .slice (some ⟨W.heap.size, 0, none⟩) 1 1)
    (hown : W.ownsRow base e 1 v n xs)
    (h63 : n + 1 ≤ maxLen) (hbytes : (n + 1) * bytes ≤ 140737488355328) (hbase : base ≤ W.heap.size)
    (h : ∀ v' w', w'.ownsRow base e 1 v' (n + 1) (xs ++ [u]) → W.grownBy w' v.ownBlock → (v'.ownBlock = v.ownBlock ∨ ∃ k, v'.ownBlock = some k ∧ W.heap.size ≤ k) → wpList P ops Q rest (a.put o.dst v') w') : wpList P ops Q (o :: rest) a w := by
  subst hw
  obtain ⟨i0, hi, hz0, hz1, hz2⟩ := info_parts hinfo
  obtain ⟨v', w', hrun, r1, r2, r3⟩ := run_append_where (P := P) (W.alloc (.cells #[u] e)) base t o.type e i0 z 1 bytes ht hi hz0 hz1 hz2 hzs (by decide) v n xs (hown.alloc _) ⟨W.heap.size, 0, none⟩ 1 1 [u] rfl (by
    intro j y hj
    match j, hj with
    | 0, hj => simp at hj; subst hj; simp [Addr.add, World.cell?_alloc_new]) (by intro y hy; simp at hy; subst hy; exact hu) (by decide) h63 hbytes (by simp; omega)
  refine wpList_plain hgd fun K' hK' => ?_
  unfold Oper.wp
  simp [execOp, ho, resolve, invoke, builtin, hs, hx, hrun, Result.andThen]
  refine hK' _ _ (h v' w' r1 ?_ ?_)
  · exact ⟨r2.os, r2.tape, r2.output, Nat.le_trans (by simp) r2.size, fun k hk hne => (r2.block k (by simp; omega) hne).trans (heap_alloc_old W _ hk)⟩
  · rcases r3 with r3 | ⟨k, r3, r4⟩
    · exact .inl r3
    · exact .inr ⟨k, r3, by simp at r4; omega⟩
end
end Go.Proofs.YtcjfgbcdlcdeaaaGreatDoor
/- What the reference's evolution keeps while it asks: two schemas, and the pairs that were asked for. -/
namespace Go.Proofs.YtcjfgbcdlcdeaaaGreatDoor
open Go.RowKit
set_option linter.unusedVariables false

/-- The cells of a pair of names. -/
def pairc (p : Pair) : List Value := [.string ⟨p.1.toArray⟩, .string ⟨p.2.toArray⟩]
theorem pairc_len (p : Pair) : (pairc p).length = 2 := rfl
theorem Tryz.infoPair : (Tryz.prog.info? 224).map (fun i => (i.zero, i.size, i.bytes)) = some (some (.agg #[.string ⟨#[]⟩, .string ⟨#[]⟩]), 2, 32) := by kernel_rfl

/-- The struct of the question lies at block w0.heap.size; the row of pairs is the question's own. -/
def AskSt (w0 : World) (v1 v2 : Value) (w : World) (m : List Pair) (mv : Value) : Prop :=
  Below w0.heap.size w0 w ∧ w0.heap.size + 1 ≤ w.heap.size ∧ w.cell? ⟨w0.heap.size, 0, none⟩ = some v1 ∧ w.cell? ⟨w0.heap.size, 1, none⟩ = some v2 ∧ w.cell? ⟨w0.heap.size, 2, none⟩ = some mv ∧ w.there w0.heap.size 0 3 ∧
    w.ownsRow (w0.heap.size + 1) 224 2 mv m.length (m.flatMap pairc)
/-- What may turn: block ab, and the row of mv. -/
structure Kept (ab : Nat) (mv : Value) (w w' : World) (mv' : Value) : Prop where
  size : w.heap.size ≤ w'.heap.size
  block : ∀ b, b < w.heap.size → b ≠ ab → some b ≠ mv.ownBlock → w'.heap[b]? = w.heap[b]?
  own : mv'.ownBlock = mv.ownBlock ∨ ∃ k, mv'.ownBlock = some k ∧ w.heap.size ≤ k
theorem Kept.refl (ab : Nat) (mv : Value) (w : World) : Kept ab mv w w mv := ⟨Nat.le_refl _, fun _ _ _ _ => rfl, .inl rfl⟩
theorem Kept.trans {ab : Nat} {v1 v2 v3 : Value} {a b c : World} (h : Kept ab v1 a b v2) (k : Kept ab v2 b c v3) : Kept ab v1 a c v3 := by
  refine ⟨Nat.le_trans h.size k.size, fun x hx h1 h2 => (k.block x (Nat.lt_of_lt_of_le hx h.size) h1 ?_).trans (h.block x hx h1 h2), ?_⟩
  · rcases h.own with e | ⟨y, e, hy⟩
    · rw [e]; exact h2
    · rw [e]; intro he; injection he with he; omega
  · rcases k.own with e | ⟨y, e, hy⟩
    · rw [e]; exact h.own
    · exact .inr ⟨y, e, Nat.le_trans h.size hy⟩
theorem Kept.of_below {ab : Nat} {mv : Value} {w w' : World} (h : Below w.heap.size w w') : Kept ab mv w w' mv := ⟨h.size, fun b hb _ _ => h.block b hb, .inl rfl⟩
theorem Kept.cell {ab : Nat} {mv mv' : Value} {w w' : World} (h : Kept ab mv w w' mv') {b o : Nat} (hb : b < w.heap.size) (h1 : b ≠ ab) (h2 : some b ≠ mv.ownBlock) : w'.cell? ⟨b, o, none⟩ = w.cell? ⟨b, o, none⟩ := World.cell?_of_block (h.block b hb h1 h2)
theorem Kept.range {ab : Nat} {mv mv' : Value} {w w' : World} (h : Kept ab mv w w' mv') {b o : Nat} {cs : List Value} (hr : w.rangeAt b o cs) (hb : b < w.heap.size) (h1 : b ≠ ab) (h2 : some b ≠ mv.ownBlock) : w'.rangeAt b o cs := fun j v hv => (h.cell hb h1 h2).trans (hr j v hv)

theorem AskSt.size {w0 w : World} {v1 v2 mv : Value} {m : List Pair} (h : AskSt w0 v1 v2 w m mv) : w0.heap.size < w.heap.size := h.2.1
/-- A block that is not the question's, and not its row. -/
theorem AskSt.far {w0 w : World} {v1 v2 mv : Value} {m : List Pair} (h : AskSt w0 v1 v2 w m mv) : ∀ b, w.heap.size ≤ b → some b ≠ mv.ownBlock := fun b hb e => by
  have := (h.2.2.2.2.2.2.lt b e.symm).2
  omega
theorem AskSt.below {w0 w w' : World} {v1 v2 mv : Value} {m : List Pair} (h : AskSt w0 v1 v2 w m mv) (hb : Below w.heap.size w w') : AskSt w0 v1 v2 w' m mv := by
  obtain ⟨h1, h2, h3, h4, h5, h6, h7⟩ := h
  exact ⟨h1.trans (hb.mono (by omega)), Nat.le_trans h2 hb.size, (hb.cell (p := ⟨w0.heap.size, 0, none⟩) (show w0.heap.size < _ by omega)).trans h3, (hb.cell (p := ⟨w0.heap.size, 1, none⟩) (show w0.heap.size < _ by omega)).trans h4,
    (hb.cell (p := ⟨w0.heap.size, 2, none⟩) (show w0.heap.size < _ by omega)).trans h5, there_below h6 (by omega) hb, ownsRow_below h7 hb⟩
/-- A pair is put behind the others. -/
theorem AskSt.push {w0 w w5 : World} {v1 v2 mv mv5 : Value} {m : List Pair} {p : Pair} (h : AskSt w0 v1 v2 w m mv) (hown : w5.ownsRow (w0.heap.size + 1) 224 2 mv5 (m.length + 1) (m.flatMap pairc ++ pairc p)) (hg : w.grownBy w5 mv.ownBlock)
    (hwh : mv5.ownBlock = mv.ownBlock ∨ ∃ k, mv5.ownBlock = some k ∧ w.heap.size ≤ k) :
    AskSt w0 v1 v2 (w5.setCell ⟨w0.heap.size, 2, none⟩ mv5) (m ++ [p]) mv5 ∧ Kept w0.heap.size mv w (w5.setCell ⟨w0.heap.size, 2, none⟩ mv5) mv5 := by
  obtain ⟨h1, h2, h3, h4, h5, h6, h7⟩ := h
  have hb : Below (w0.heap.size + 1) w w5 := (Below.refl _ _).grown hg h2 (fun k hk => (h7.lt k hk).1)
  have h6' : w5.there w0.heap.size 0 3 := there_below h6 (show w0.heap.size < w0.heap.size + 1 by omega) hb
  have hc : ∀ j, j ≠ 2 → (w5.setCell ⟨w0.heap.size, 2, none⟩ mv5).cell? ⟨w0.heap.size, j, none⟩ = w.cell? ⟨w0.heap.size, j, none⟩ := fun j hj => by
    rw [World.cell?_setCell_other _ _ _ _ (by intro e; injection e with e1 e2; omega)]
    exact hb.cell (p := ⟨w0.heap.size, j, none⟩) (show w0.heap.size < _ by omega)
  refine ⟨⟨(h1.trans (hb.mono (by omega))).setCell (Nat.le_refl _) _, by simp; exact Nat.le_trans h2 hb.size, (hc 0 (by decide)).trans h3, (hc 1 (by decide)).trans h4, ?_, World.there_setCells h6' w0.heap.size 2 [_], ?_⟩, ?_⟩
  · have := World.rangeAt_setCells_same w5 w0.heap.size 2 [mv5] (there_sub h6' 2 1 (by decide) (by decide))
    exact (by simpa using rangeAt_cell this 0 rfl : (w5.setCells w0.heap.size 2 [mv5]).cell? ⟨w0.heap.size, 2, none⟩ = some mv5)
  · rw [List.length_append, List.flatMap_append]
    refine World.ownsRow.kept (show w5.ownsRow (w0.heap.size + 1) 224 2 mv5 (m.length + [p].length) (m.flatMap pairc ++ [p].flatMap pairc) from by simpa using hown) (grown_set w5 _ _) (.inr (fun e => absurd (show w0.heap.size + 1 ≤ w0.heap.size from (hown.lt _ e).1) (by omega)))
  · refine ⟨by simp; exact hg.size, fun b hb h1 h2 => ?_, hwh⟩
    rw [Below.heap_setCell _ _ _ _ h1]
    exact hg.block b hb h2
/-- What asking leaves. -/
def AkPost (w0 : World) (v1 v2 : Value) (r : Bool × List Pair) (w : World) (mv : Value) (e : Ending) (w' : World) : Prop := e = .returned (.bool r.1) ∧ ∃ mv', AskSt w0 v1 v2 w' r.2 mv' ∧ Kept w0.heap.size mv w w' mv'
end Go.Proofs.YtcjfgbcdlcdeaaaGreatDoor
/- Append of one element of several cells to a row of the call's own: as one operation, and where the row lies then. -/
namespace Go.Proofs.YtcjfgbcdlcdeaaaGreatDoor
open Go.RowKit
set_option linter.unusedVariables false

section
variable {P : Program}
theorem wp_appKW (W : World) {o : Oper} {a : Act} {K : Act → World → Prop} {Q : Exit → Act → World → Prop} (s x : Operand) (t : TypeId)
    (ho : o.op = .call { callee := .builtin .append, args := #[s, x], argTypes := #[t, t] })
    (base : Nat) (e : TypeId) (z : Value) (k bytes : Nat) (ht : P.underlying t = some (.slice e)) (hinfo : (P.info? e).map (fun i => (i.zero, i.size, i.bytes)) = some (some z, k, bytes))
    (hzs : z.cells.size = k) (hk : 0 < k) (us : List Value) (hul : us.length = k) (hu : ∀ u ∈ us, u.oneCell' = true) (v : Value) (n : Nat) (xs : List Value) (hs : a.eval s = v) (hx : a.eval x = .slice (some ⟨W.heap.size, 0, none⟩) 1 1)
    (hown : W.ownsRow base e k v n xs) (h63 : n + 1 ≤ maxLen) (hbytes : (n + 1) * bytes ≤ 140737488355328) (hbase : base ≤ W.heap.size)
    (h : ∀ v' w', w'.ownsRow base e k v' (n + 1) (xs ++ us) → W.grownBy w' v.ownBlock → (v'.ownBlock = v.ownBlock ∨ ∃ k, v'.ownBlock = some k ∧ W.heap.size ≤ k) → K (a.put o.dst v') w') : Oper.wp P o a (W.alloc (.cells us.toArray e)) K Q := by
  obtain ⟨i0, hi, hz0, hz1, hz2⟩ := info_parts hinfo
  obtain ⟨v', w', hrun, r1, r2, r3⟩ := run_append_where (P := P) (W.alloc (.cells us.toArray e)) base t o.type e i0 z k bytes ht hi hz0 hz1 hz2 hzs hk v n xs (hown.alloc _) ⟨W.heap.size, 0, none⟩ 1 1 us (by omega) (by
    intro j y hj
    have e1 : (⟨W.heap.size, 0, none⟩ : Addr).add j = ⟨W.heap.size, j, none⟩ := by unfold Addr.add; split <;> simp_all
    rw [e1, World.cell?_alloc_new]
    simpa using hj) hu (by decide) h63 hbytes (by simp; omega)
  unfold Oper.wp
  simp [execOp, ho, resolve, invoke, builtin, hs, hx, hrun, Result.andThen]
  refine h v' w' r1 ?_ ?_
  · exact ⟨r2.os, r2.tape, r2.output, Nat.le_trans (by simp) r2.size, fun k hk hne => (r2.block k (by simp; omega) hne).trans (heap_alloc_old W _ hk)⟩
  · rcases r3 with r3 | ⟨k, r3, r4⟩
    · exact .inl r3
    · exact .inr ⟨k, r3, by simp at r4; omega⟩
theorem wpList_appKW (W : World) {ops : Array Oper} {rest : List Oper} {o : Oper} {a : Act} {Q : Exit → Act → World → Prop} (hgd : o.guard = none) (s x : Operand) (t : TypeId)
    (ho : o.op = .call { callee := .builtin .append, args := #[s, x], argTypes := #[t, t] })
    (base : Nat) (e : TypeId) (z : Value) (k bytes : Nat) (ht : P.underlying t = some (.slice e)) (hinfo : (P.info? e).map (fun i => (i.zero, i.size, i.bytes)) = some (some z, k, bytes))
    (hzs : z.cells.size = k) (hk : 0 < k) (us : List Value) (hul : us.length = k) (hu : ∀ u ∈ us, u.oneCell' = true) (v : Value) (n : Nat) (xs : List Value) (hs : a.eval s = v) (hx : a.eval x = .slice (some ⟨W.heap.size, 0, none⟩) 1 1)
    (hown : W.ownsRow base e k v n xs) (h63 : n + 1 ≤ maxLen) (hbytes : (n + 1) * bytes ≤ 140737488355328) (hbase : base ≤ W.heap.size)
    (h : ∀ v' w', w'.ownsRow base e k v' (n + 1) (xs ++ us) → W.grownBy w' v.ownBlock → (v'.ownBlock = v.ownBlock ∨ ∃ k, v'.ownBlock = some k ∧ W.heap.size ≤ k) → wpList P ops Q rest (a.put o.dst v') w') : wpList P ops Q (o :: rest) a (W.alloc (.cells us.toArray e)) :=
  wpList_plain hgd fun K' hK' => wp_appKW W s x t ho base e z k bytes ht hinfo hzs hk us hul hu v n xs hs hx hown h63 hbytes hbase fun v' w' h1 h2 h3 => hK' _ _ (h v' w' h1 h2 h3)
end
end Go.Proofs.YtcjfgbcdlcdeaaaGreatDoor
/- The reference's question of kinds. -/
namespace Go.Proofs.YtcjfgbcdlcdeaaaGreatDoor
open Go.RowKit
set_option maxRecDepth 100000
set_option linter.unusedVariables false
set_option linter.unusedSimpArgs false
attribute [local go_sem] ba_get ba_toList ba_extract take_drop_all ByteArray.mk_append_mk

theorem core_kd {k : Kd} (h : kdOk k) : kdOk k.core ∧ kdB k.core = coreB k := by
  refine ⟨⟨by simp [Kd.core], h.2.1, ?_⟩, by simp [kdB, Kd.core]; rfl⟩
  have := h.2.2
  unfold kdB Kd.core coreB at *
  simp at *
  omega
theorem refX_core (xs : List (Ty × Value)) (k : Kd) : refX xs k.core = if k.base = [64] then findX xs k.name else none := by
  unfold refX Kd.core; simp

/-- What looking up leaves, in one form. -/
theorem styR_any {w : World} {v : Value} {xs : List (Ty × Value)} (h : SSc w v xs) {o : Option (Ty × Value)} (ho : ∀ x, o = some x → x ∈ xs) :
    ∃ (s : Int) (nm : ByteArray) (A : Option Addr) (n c : Nat), styR o = .tuple #[.agg #[.int .u8 s, .string nm, .slice A n c], .bool o.isSome] ∧ ∀ x, o = some x → styV x.1 x.2 = .agg #[.int .u8 s, .string nm, .slice A n c] ∧ nm = ⟨x.1.name.toArray⟩ := by
  obtain ⟨_, _, _, _, _, hf⟩ := h
  cases o with
  | none => exact ⟨0, ⟨#[]⟩, none, 0, 0, rfl, fun x h => by cases h⟩
  | some x =>
    obtain ⟨A, c, e, _, _⟩ := hf x (ho x rfl)
    refine ⟨(x.1.sort.toNat : Int), ⟨x.1.name.toArray⟩, A, x.1.fields.length, c, ?_, fun y hy => ?_⟩
    · show Value.tuple #[.agg #[_, _, x.2], .bool true] = _
      rw [e]; rfl
    · injection hy with hy; subst hy; unfold styV; rw [e]; exact ⟨rfl, rfl⟩
theorem evK_plain {S T : List Ty} {n : Nat} {a b : Kd} {m : List Pair} (hs : a.signs = b.signs) (ha : kdOk a) (hb : kdOk b) (h : ¬ (a.base = [64] ∧ b.base = [64])) :
    evK S T (n + 1) a b m = ((coreB a == coreB b) && (!decide (a.base = [64]) && !decide (b.base = [64])), m) := by
  unfold evK
  by_cases h1 : a.base = [64]
  · have h2 : b.base ≠ [64] := fun h2 => h ⟨h1, h2⟩
    rw [if_pos (.inr (by rw [h1]; exact fun e => h2 e.symm))]; simp [h1]
  · by_cases h2 : b.base = [64]
    · rw [if_pos (.inr (by rw [h2]; exact h1))]; simp [h2]
    · have e1 : coreB a = a.base := if_neg h1
      have e2 : coreB b = b.base := if_neg h2
      by_cases h3 : a.base = b.base
      · rw [if_neg (by simp [hs, h3]), if_pos h1, e1, e2, h3]; simp [h2]
      · rw [if_pos (.inr h3), e1, e2]; simp [h3]

set_option maxHeartbeats 2000000 in
theorem sAsk_kinds (w0 : World) (v1 v2 : Value) (xs ys : List (Ty × Value)) (hx : SSc w0 v1 xs) (hy : SSc w0 v2 ys) (n : Nat) (a b : Kd) (m : List Pair) (w : World) (mv : Value)
    (ha : kdOk a) (hb : kdOk b) (hra : refOk (tysOf xs) a) (hrb : refOk (tysOf ys) b) (hm : m.length ≤ 64) (hst : AskSt w0 v1 v2 w m mv)
    (ih : ∀ t fv u gv W mv', (t, fv) ∈ xs → (u, gv) ∈ ys → AskSt w0 v1 v2 W (m ++ [(a.name, b.name)]) mv' → findTy (tysOf xs) a.name = some t → findTy (tysOf ys) b.name = some u → (a.name, b.name) ∉ m →
      Calls Tryz.prog 160 #[.pointer (some ⟨w0.heap.size, 0, none⟩), styV t fv, styV u gv] W (AkPost w0 v1 v2 (evT (tysOf xs) (tysOf ys) (evK (tysOf xs) (tysOf ys) n) t u (m ++ [(a.name, b.name)])) W mv')) :
    Calls Tryz.prog 123 #[.pointer (some ⟨w0.heap.size, 0, none⟩), .string ⟨(kdB a).toArray⟩, .string ⟨(kdB b).toArray⟩] w (AkPost w0 v1 v2 (evK (tysOf xs) (tysOf ys) (n + 1) a b m) w mv) := by
  have HF := Lib.hid (show evK (tysOf xs) (tysOf ys) (n + 1) a b m = (if a.signs ≠ b.signs ∨ a.base ≠ b.base then (false, m)
    else if a.base ≠ [64] then (true, m)
    else match findTy (tysOf xs) a.name, findTy (tysOf ys) b.name with
      | some t, some u => if (a.name, b.name) ∈ m then (true, m) else evT (tysOf xs) (tysOf ys) (evK (tysOf xs) (tysOf ys) n) t u (m ++ [(a.name, b.name)])
      | _, _ => (false, m)) from by rw [evK] <;> rfl)
  have Hca := Lib.hid (fun W => l2CoreK_any a ha W)
  have Hcb := Lib.hid (fun W => l2CoreK_any b hb W)
  have Hst := Lib.hid hst
  have Hx := Lib.hid hx
  have Hy := Lib.hid hy
  have Ih := Lib.hid ih
  obtain ⟨A1, c1, rfl, hxl, _⟩ := hx
  obtain ⟨A2, c2, rfl, hyl, _⟩ := hy
  obtain ⟨A3, n3, c3, rfl⟩ := own_slice hst.2.2.2.2.2.2
  have hla := ha.2.2
  have hlb := hb.2.2
  have ea : kdB a = a.signs ++ coreB a := rfl
  have eb : kdB b = b.signs ++ coreB b := rfl
  rw [ea] at Hca hla ⊢
  rw [eb] at Hcb hlb ⊢
  simp only [List.length_append] at hla hlb
  have hw1 : IntKind.i64.wrap (a.signs.length : Int) = a.signs.length := IntWalk.i64_in _ ⟨by omega, by omega⟩
  have hw2 : IntKind.i64.wrap (b.signs.length : Int) = b.signs.length := IntWalk.i64_in _ ⟨by omega, by omega⟩
  clear hst ih ea eb
  go_enter Tryz.func123, Tryz.ntmps123
  go_wp2_with fail
  refine (Hca.out _).mono ?_
  rintro e w1 ⟨rfl, rfl⟩
  go_wp2_with fail
  refine (Hcb.out _).mono ?_
  rintro e w1 ⟨rfl, rfl⟩
  go_wp2_with fail
  obtain ⟨sb, hsb⟩ : ∃ sb, (!(a.signs == b.signs)) = sb := ⟨_, rfl⟩
  refine wp_region_slots3 [19, 20, 21, 22, 23, 24, 25, 26, 27, 28, 29, 30, 31, 32, 33] (by kernel_rfl) (by kernel_rfl) (by kernel_rfl) (fun u => by dsimp only [frameOf, setMany, List.set, Nat.zero_add, Nat.reduceAdd])
    (fun i v W => match i with | 0 => v = .string ⟨(a.signs ++ coreB a).toArray⟩ | 1 => v = .string ⟨(a.signs ++ coreB a).toArray⟩ | 2 => v = .int .i64 ((a.signs.length : Int) + ((coreB a).length : Int)) | 3 => v = .string ⟨(coreB a).toArray⟩ | 4 => v = .int .i64 ((coreB a).length : Int) | 5 => v = .int .i64 (a.signs.length : Int) | 6 => v = .string ⟨a.signs.toArray⟩ | 7 => v = .string ⟨(b.signs ++ coreB b).toArray⟩ | 8 => v = .string ⟨(b.signs ++ coreB b).toArray⟩ | 9 => v = .int .i64 ((b.signs.length : Int) + ((coreB b).length : Int)) | 10 => v = .string ⟨(coreB b).toArray⟩ | 11 => v = .int .i64 ((coreB b).length : Int) | 12 => v = .int .i64 (b.signs.length : Int) | 13 => v = .string ⟨b.signs.toArray⟩ | 14 => v = .bool sb | _ => True)
    (fun L U W => ∃ q, W = w.drewN q) (fun _ _ => True) (fun _ _ _ _ _ h => h) (⟨1, rfl⟩) ?_ ?_
  · repeat (first | exact Steps.nil | (refine Steps.cons ?_ ?_; rotate_left))
    all_goals
      rintro L U W hL hpre hR hun hdep K hK
      have HR := Lib.hid hR
      obtain ⟨q, rfl⟩ := HR.out
      clear hun hdep hR
      first | (simp [Region.binds] at hpre; done) | simp [Region.binds] at hpre | clear hpre
    iterate 6
      · go_simp
        first | exact hK _ _ _ rfl trivial HR.out rfl | exact hK _ _ _ rfl trivial HR.out (by simp [Act.put, hpre, hw1, hw2, hsb]) | exact hK undef _ _ trivial trivial HR.out (by simp [Act.put, hpre, hw1, hw2, hsb]) | exact hK _ _ _ trivial trivial HR.out rfl | exact hK _ _ _ trivial trivial HR.out (by simp [Act.put, hpre, hw1, hw2, hsb])
    · go_simp
      rw [if_pos (by omega)]
      go_simp
      first | exact hK _ _ _ rfl trivial HR.out rfl | exact hK _ _ _ rfl trivial HR.out (by simp [Act.put, hpre])
    iterate 6
      · go_simp
        first | exact hK _ _ _ rfl trivial HR.out rfl | exact hK _ _ _ rfl trivial HR.out (by simp [Act.put, hpre, hw1, hw2, hsb]) | exact hK undef _ _ trivial trivial HR.out (by simp [Act.put, hpre, hw1, hw2, hsb]) | exact hK _ _ _ trivial trivial HR.out rfl | exact hK _ _ _ trivial trivial HR.out (by simp [Act.put, hpre, hw1, hw2, hsb])
    · go_simp
      rw [if_pos (by omega)]
      go_simp
      first | exact hK _ _ _ rfl trivial HR.out rfl | exact hK _ _ _ rfl trivial HR.out (by simp [Act.put, hpre])
    · go_simp
      first | exact hK _ _ _ rfl trivial HR.out rfl | exact hK _ _ _ rfl trivial HR.out (by simp [Act.put, hpre, hw1, hw2, hsb]) | exact hK undef _ _ trivial trivial HR.out (by simp [Act.put, hpre, hw1, hw2, hsb]) | exact hK _ _ _ trivial trivial HR.out rfl | exact hK _ _ _ trivial trivial HR.out (by simp [Act.put, hpre, hw1, hw2, hsb])
  · rintro L U W hL hφ hR
    have e14 : U 14 = .bool sb := hφ 14 (by decide)
    simp only [e14]
    clear hφ
    obtain ⟨q, rfl⟩ := hR
    have Hstq := Lib.hid (Hst.out.below (below_drewN (Below.refl _ _) q))
    have Hkq := Lib.hid (Kept.of_below (ab := w0.heap.size) (mv := .slice A3 n3 c3) (below_drewN (Below.refl w.heap.size w) q))
    obtain ⟨_, hsz, y0, y1, y2, _, _⟩ := Hstq.out
    clear hL
    have Hsb := Lib.hid hsb
    clear hsb
    cases sb with
    | true =>
      have HF1 := Lib.hid (HF.out.trans (if_pos (.inl (by have := Hsb.out; simpa using this))))
      go_wp2_with fail
      go_ret
      rw [HF1.out]
      exact ⟨rfl, _, Hstq.out, Hkq.out⟩
    | false =>
      have hsg : a.signs = b.signs := by have := Hsb.out; simpa using this
      have Hsg := Lib.hid hsg
      have Hra := Lib.hid (fun W (h : SSc W (.slice A1 xs.length c1) xs) => (core_kd ha).2 ▸ sRef_any _ xs a.core W h (core_kd ha).1)
      have Hrb := Lib.hid (fun W (h : SSc W (.slice A2 ys.length c2) ys) => (core_kd hb).2 ▸ sRef_any _ ys b.core W h (core_kd hb).1)
      rw [refX_core] at Hra Hrb
      clear hsg
      go_wp2_with fail
      have Hoa := Lib.hid (show ((if a.base = [64] then findX xs a.name else none).isSome = decide (a.base = [64])) ∧ ∀ x, (if a.base = [64] then findX xs a.name else none) = some x → a.base = [64] ∧ findX xs a.name = some x from by
        by_cases h : a.base = [64]
        · have := hra h; rw [findX_ty] at this; rw [if_pos h]; exact ⟨by simpa [h] using this, fun x hx => ⟨h, hx⟩⟩
        · rw [if_neg h]; exact ⟨by simp [h], fun x hx => by cases hx⟩)
      have Hob := Lib.hid (show ((if b.base = [64] then findX ys b.name else none).isSome = decide (b.base = [64])) ∧ ∀ x, (if b.base = [64] then findX ys b.name else none) = some x → b.base = [64] ∧ findX ys b.name = some x from by
        by_cases h : b.base = [64]
        · have := hrb h; rw [findX_ty] at this; rw [if_pos h]; exact ⟨by simpa [h] using this, fun x hx => ⟨h, hx⟩⟩
        · rw [if_neg h]; exact ⟨by simp [h], fun x hx => by cases hx⟩)
      generalize (if a.base = [64] then findX xs a.name else none) = oa at Hra Hoa
      generalize (if b.base = [64] then findX ys b.name else none) = ob at Hrb Hob
      obtain ⟨s1, nm1, A4, n4, c4, e1, f1⟩ := styR_any Hx.out (o := oa) (fun x h => (findX_mem (Hoa.out.2 x h).2).1)
      obtain ⟨s2, nm2, A5, n5, c5, e2, f2⟩ := styR_any Hy.out (o := ob) (fun x h => (findX_mem (Hob.out.2 x h).2).1)
      have F1 := Lib.hid f1
      have F2 := Lib.hid f2
      rw [e1, Hoa.out.1] at Hra
      rw [e2, Hob.out.1] at Hrb
      have Hpl := Lib.hid (fun (h : ¬ (a.base = [64] ∧ b.base = [64])) => evK_plain (S := tysOf xs) (T := tysOf ys) (n := n) (m := m) Hsg.out ha hb h)
      have Hpab := Lib.hid (fun h1 h2 => (⟨of_decide_eq_true h1, of_decide_eq_true h2⟩ : a.base = [64] ∧ b.base = [64]))
      have Hpno := Lib.hid (fun (h : decide (a.base = [64]) = false ∨ decide (b.base = [64]) = false) => show ¬ (a.base = [64] ∧ b.base = [64]) from fun e => by rcases h with h | h <;> simp [e.1, e.2] at h)
      clear f1 f2 e1 e2
      generalize decide (a.base = [64]) = pa at *
      generalize decide (b.base = [64]) = pb at *
      obtain ⟨xy, hxy⟩ : ∃ xy, (coreB a == coreB b) = xy := ⟨_, rfl⟩
      rw [hxy] at Hpl
      go_wp2_with fail
      refine (Hra.out _ (Hx.out.below Hstq.out.1)).mono ?_
      rintro e w2 ⟨rfl, hb2⟩
      have Hst2 := Lib.hid (Hstq.out.below hb2)
      have Hk2 := Lib.hid (Hkq.out.trans (Kept.of_below (ab := w0.heap.size) (mv := .slice A3 n3 c3) hb2))
      have z0 : w2.cell? ⟨w0.heap.size, 0, none⟩ = some (.slice A1 xs.length c1) := Hst2.out.2.2.1
      have z1 : w2.cell? ⟨w0.heap.size, 1, none⟩ = some (.slice A2 ys.length c2) := Hst2.out.2.2.2.1
      have hz2 : w0.heap.size < w2.heap.size := Hst2.out.size
      have hn2 : ¬ (w0.heap.size = w2.heap.size) := by omega
      clear hb2
      go_wp2_with fail
      refine (Hrb.out _ (Hy.out.below (Hst2.out.1.alloc (by omega) _))).mono ?_
      rintro e w4 ⟨rfl, hb4⟩
      have Hst4 := Lib.hid ((Hst2.out.below ((Below.refl _ _).alloc (Nat.le_refl _) _)).below hb4)
      have Hk4 := Lib.hid ((Hk2.out.trans (Kept.of_below (ab := w0.heap.size) (mv := .slice A3 n3 c3) ((Below.refl _ _).alloc (Nat.le_refl _) _))).trans (Kept.of_below (ab := w0.heap.size) (mv := .slice A3 n3 c3) hb4))
      have hz4 : w2.heap.size < w4.heap.size := by have := hb4.size; simp at this; omega
      have n0 : w4.cell? ⟨w2.heap.size, 1, none⟩ = some (.string nm1) := by rw [hb4.cell (p := ⟨w2.heap.size, 1, none⟩) (by simp)]; simp
      have hn4 : ¬ (w0.heap.size = w4.heap.size) := by omega
      have hn5 : ¬ (w2.heap.size = w4.heap.size) := by omega
      have Hwz := Lib.hid Hk2.out.size
      have X9 := Lib.hid (show w4.rangeAt w2.heap.size 0 [.int .u8 s1, .string nm1, .slice A4 n4 c4] from rangeAt_below (rangeAt_new w2 [.int .u8 s1, .string nm1, .slice A4 n4 c4] _) (by simp) hb4)
      clear hb4 z0 z1
      cases pa with
      | false =>
        have HF2 := Lib.hid (Hpl.out (Hpno.out (.inl rfl)))
        cases xy with
        | false =>
          go_wp2_with fail
          go_ret
          rw [HF2.out]
          exact ⟨rfl, _, Hst4.out.below ((Below.refl _ _).alloc (Nat.le_refl _) _), Hk4.out.trans (Kept.of_below ((Below.refl _ _).alloc (Nat.le_refl _) _))⟩
        | true => cases pb with
          | false =>
            go_wp2_with fail
            go_ret
            rw [HF2.out]
            exact ⟨rfl, _, Hst4.out.below ((Below.refl _ _).alloc (Nat.le_refl _) _), Hk4.out.trans (Kept.of_below ((Below.refl _ _).alloc (Nat.le_refl _) _))⟩
          | true =>
            go_wp2_with fail
            go_ret
            rw [HF2.out]
            exact ⟨rfl, _, Hst4.out.below ((Below.refl _ _).alloc (Nat.le_refl _) _), Hk4.out.trans (Kept.of_below ((Below.refl _ _).alloc (Nat.le_refl _) _))⟩
      | true => cases pb with
        | false =>
          have HF2 := Lib.hid (Hpl.out (Hpno.out (.inr rfl)))
          cases xy with
          | false =>
            go_wp2_with fail
            go_ret
            rw [HF2.out]
            exact ⟨rfl, _, Hst4.out.below ((Below.refl _ _).alloc (Nat.le_refl _) _), Hk4.out.trans (Kept.of_below ((Below.refl _ _).alloc (Nat.le_refl _) _))⟩
          | true =>
            go_wp2_with fail
            go_ret
            rw [HF2.out]
            exact ⟨rfl, _, Hst4.out.below ((Below.refl _ _).alloc (Nat.le_refl _) _), Hk4.out.trans (Kept.of_below ((Below.refl _ _).alloc (Nat.le_refl _) _))⟩
        | true =>
          go_wp2_with fail
          have hab := (by first | exact Hpab.out rfl rfl | exact Hpab.out trivial trivial : a.base = [64] ∧ b.base = [64])
          obtain ⟨x, hxo⟩ : ∃ x, oa = some x := by
            have := Hoa.out.1
            cases oa with
            | none => cases this
            | some x => exact ⟨x, rfl⟩
          obtain ⟨y, hyo⟩ : ∃ y, ob = some y := by
            have := Hob.out.1
            cases ob with
            | none => cases this
            | some y => exact ⟨y, rfl⟩
          obtain ⟨t, tv⟩ := x
          obtain ⟨u, uv⟩ := y
          obtain ⟨g1, g2⟩ := F1.out _ hxo
          obtain ⟨g3, g4⟩ := F2.out _ hyo
          simp only [] at g1 g2 g3 g4
          have hxf := (Hoa.out.2 _ hxo).2
          have hyf := (Hob.out.2 _ hyo).2
          have Hxm := Lib.hid (findX_mem hxf)
          have Hym := Lib.hid (findX_mem hyf)
          rw [show t.name = a.name from Hxm.out.2.1] at g2
          rw [show u.name = b.name from Hym.out.2.1] at g4
          subst g2 g4
          have G1 := Lib.hid g1
          have G3 := Lib.hid g3
          have HF2 := Lib.hid (show evK (tysOf xs) (tysOf ys) (n + 1) a b m = if (a.name, b.name) ∈ m then (true, m) else evT (tysOf xs) (tysOf ys) (evK (tysOf xs) (tysOf ys) n) t u (m ++ [(a.name, b.name)]) from by
            rw [HF.out, if_neg (by rw [hab.1, hab.2]; simp [Hsg.out]), if_neg (by rw [hab.1]; simp), Hxm.out.2.2, Hym.out.2.2])
          clear g1 g3 hxo hyo hxf hyf hab
          obtain ⟨W6, hW6⟩ : ∃ W6, W6 = (w4.alloc (.cells #[.int .u8 s2, .string ⟨b.name.toArray⟩, .slice A5 n5 c5] 133)).alloc (.cells #[.string ⟨a.name.toArray⟩, .string ⟨b.name.toArray⟩] 224) := ⟨_, rfl⟩
          rw [← hW6]
          have Hb6 := Lib.hid (show Below w4.heap.size w4 W6 from by rw [hW6]; exact ((Below.refl _ _).alloc (Nat.le_refl _) _).alloc (by simp) _)
          have Hst6 := Lib.hid (Hst4.out.below Hb6.out)
          have Hk6 := Lib.hid (Hk4.out.trans (Kept.of_below (ab := w0.heap.size) (mv := .slice A3 n3 c3) Hb6.out))
          have X9' := Lib.hid (rangeAt_below X9.out hz4 Hb6.out)
          have X11 := Lib.hid (show W6.rangeAt w4.heap.size 0 [.int .u8 s2, .string ⟨b.name.toArray⟩, .slice A5 n5 c5] from by rw [hW6]; exact rangeAt_below (rangeAt_new w4 [.int .u8 s2, .string ⟨b.name.toArray⟩, .slice A5 n5 c5] _) (Nat.lt_succ_self _) ((Below.refl _ _).alloc (by simp) _))
          have p0 : W6.cell? ⟨w4.heap.size + 1, 0, none⟩ = some (.string ⟨a.name.toArray⟩) := by rw [hW6]; simp [go_sem]
          have p1 : W6.cell? ⟨w4.heap.size + 1, 1, none⟩ = some (.string ⟨b.name.toArray⟩) := by rw [hW6]; simp [go_sem]
          have hz6 : w4.heap.size + 1 < W6.heap.size := by rw [hW6]; simp
          have Hrow := Lib.hid (RowAt.ownK Hst6.out.2.2.2.2.2.2 (by unfold maxLen; omega))
          have y2' : W6.cell? ⟨w0.heap.size, 2, none⟩ = some (.slice A3 n3 c3) := Hst6.out.2.2.2.2.1
          obtain rfl : n3 = m.length := by
            obtain ⟨A, c, e, _⟩ := Hrow.out
            injection e
          clear hW6 y0 y1 y2 n0
          go_loopw [14] (fun i wr => ∃ j : Nat, i = .int .i64 j ∧ j ≤ m.length ∧ (∃ q, wr = W6.drewN q) ∧ Hid ((a.name, b.name) ∉ m.take j)) (fun i _ => m.length - (intOf i).toNat)
          case atStart => exact ⟨0, rfl, Nat.zero_le _, ⟨0, rfl⟩, by simp [Hid]⟩
          case round =>
            obtain ⟨j, rfl, hj, ⟨q6, rfl⟩, hin⟩ := hrel
            have j1 : (0 : Int) ≤ (j : Int) := by omega
            by_cases hlt : j < m.length
            · have j2 : (j : Int) < (m.length : Int) := by omega
              obtain ⟨A, c, e3, hra⟩ := Hrow.out
              have hA : A3 = A := by injection e3
              have hc : c3 = c := by injection e3
              subst hA hc
              clear e3
              obtain ⟨bb, off, rfl, hbb, hcc⟩ := RowAt.elem pairc_len (by decide) hra hlt
              have r0 := hcc 0 _ rfl
              have r1 := hcc 1 _ rfl
              simp only [Nat.add_zero, ← Nat.add_assoc] at r0 r1
              have Hts := Lib.hid (take_snoc m j hlt)
              have Hpm := Lib.hid (List.getElem_mem hlt)
              generalize m[j] = pj at r0 r1 Hts Hpm
              clear hra hcc
              obtain ⟨be, hbe⟩ : ∃ be, decide (pj = (a.name, b.name)) = be := ⟨_, rfl⟩
              go_wp2_with fail
              refine wp_region_slots3 [83, 84, 85, 86, 87, 88, 89, 90, 91] (by kernel_rfl) (by kernel_rfl) (by kernel_rfl) (fun u => by dsimp only [frameOf, setMany, List.set, Nat.zero_add, Nat.reduceAdd])
                (fun i v W => match i with | 0 => v = .pointer (some ⟨w0.heap.size, 0, none⟩) | 1 => v = .pointer (some ⟨w0.heap.size, 0, none⟩) | 2 => v = .pointer (some ⟨w0.heap.size, 2, none⟩) | 3 => v = .slice (some ⟨bb, off, none⟩) m.length c3 | 4 => v = .int .i64 j | 5 => v = .pointer (some ⟨bb, off + j * 2, none⟩) | 6 => v = .agg #[.string ⟨pj.1.toArray⟩, .string ⟨pj.2.toArray⟩] | 7 => v = .agg #[.string ⟨a.name.toArray⟩, .string ⟨b.name.toArray⟩] | 8 => v = .bool be | _ => True)
                (fun L U W => ∃ q, W = W6.drewN q) (fun _ _ => True) (fun _ _ _ _ _ h => h) (⟨q6 + 1, rfl⟩) ?_ ?_
              · repeat (first | exact Steps.nil | (refine Steps.cons ?_ ?_; rotate_left))
                all_goals
                  rintro L U W hL hpre hR hun hdep K hK
                  have HR := Lib.hid hR
                  obtain ⟨q, rfl⟩ := HR.out
                  clear hun hdep hR
                  first | (simp [Region.binds] at hpre; done) | simp [Region.binds] at hpre | clear hpre
                iterate 8
                  · go_simp
                    first | exact hK _ _ _ rfl trivial HR.out rfl | exact hK _ _ _ rfl trivial HR.out (by simp [Act.put, hpre]) | exact hK undef _ _ trivial trivial HR.out (by simp [Act.put, hpre]) | exact hK _ _ _ trivial trivial HR.out rfl | exact hK _ _ _ trivial trivial HR.out (by simp [Act.put, hpre])
                · go_simp
                  by_cases h1 : pj.1 = a.name
                  · by_cases h2 : pj.2 = b.name
                    · obtain rfl : be = true := by rw [← hbe]; exact decide_eq_true (Prod.ext h1 h2)
                      rw [if_pos h1, if_pos h2]
                      go_simp
                      exact hK _ _ _ rfl trivial HR.out (by simp [Act.put, hpre, h1, h2])
                    · obtain rfl : be = false := by rw [← hbe]; exact decide_eq_false (fun e => h2 (by rw [e]))
                      rw [if_pos h1, if_neg h2]
                      go_simp
                      exact hK _ _ _ rfl trivial HR.out (by simp [Act.put, hpre, h1])
                  · obtain rfl : be = false := by rw [← hbe]; exact decide_eq_false (fun e => h1 (by rw [e]))
                    rw [if_neg h1]
                    go_simp
                    exact hK _ _ _ rfl trivial HR.out (by simp [Act.put, hpre])
              · rintro L U W hL hφ hR
                have e8 : U 8 = .bool be := hφ 8 (by decide)
                simp only [e8]
                clear hφ
                obtain ⟨q7, rfl⟩ := hR
                have Hbe := Lib.hid hbe
                clear hL hbe
                cases be with
                | true =>
                  have Hmem := Lib.hid (show (a.name, b.name) ∈ m from by have := of_decide_eq_true Hbe.out; rw [← this]; exact Hpm.out)
                  have Hfin := Lib.hid (HF2.out.trans (if_pos Hmem.out))
                  go_wp2_with fail
                  go_ret
                  rw [Hfin.out]
                  exact ⟨rfl, _, Hst6.out.below (below_drewN (Below.refl _ _) q7), Hk6.out.trans (Kept.of_below (below_drewN (Below.refl _ _) q7))⟩
                | false =>
                  have Hnin := Lib.hid (show (a.name, b.name) ∉ m.take (j + 1) from by
                    rw [Hts.out]
                    intro h
                    rcases List.mem_append.1 h with h | h
                    · exact hin.out h
                    · exact of_decide_eq_false Hbe.out (List.mem_singleton.1 h).symm)
                  go_wp2_with fail
                  go_roundw
                  case rel => exact ⟨j + 1, by go_num, by omega, ⟨q7, rfl⟩, Hnin.out⟩
                  case measure => simp [intOf]; omega
            · have Hnin := Lib.hid (show (a.name, b.name) ∉ m from by have := hin.out; rwa [List.take_of_length_le (by omega)] at this)
              have Hfin := Lib.hid (HF2.out.trans (if_neg Hnin.out))
              go_wp2_with fail
              obtain ⟨W7, hW7⟩ : ∃ W7, W7 = (W6.drewN q6).drew := ⟨_, rfl⟩
              have Hb7 := Lib.hid (show Below W6.heap.size W6 W7 from by rw [hW7]; exact (below_drewN (Below.refl _ _) q6).drew)
              have Hst7 := Lib.hid (Hst6.out.below Hb7.out)
              have Hk7 := Lib.hid (Hk6.out.trans (Kept.of_below Hb7.out))
              have y27 : W7.cell? ⟨w0.heap.size, 2, none⟩ = some (.slice A3 m.length c3) := Hst7.out.2.2.2.2.1
              have p07 : W7.cell? ⟨w4.heap.size + 1, 0, none⟩ = some (.string ⟨a.name.toArray⟩) := (Hb7.out.cell (p := ⟨w4.heap.size + 1, 0, none⟩) hz6).trans p0
              have p17 : W7.cell? ⟨w4.heap.size + 1, 1, none⟩ = some (.string ⟨b.name.toArray⟩) := (Hb7.out.cell (p := ⟨w4.heap.size + 1, 1, none⟩) hz6).trans p1
              have hz7 : W6.heap.size ≤ W7.heap.size := Hb7.out.size
              have X9b := Lib.hid (rangeAt_below X9'.out (show w2.heap.size < W6.heap.size by omega) Hb7.out)
              have X11b := Lib.hid (rangeAt_below X11.out (show w4.heap.size < W6.heap.size by omega) Hb7.out)
              have HW7 := Lib.hid hW7
              clear y2' p0 p1 hW7
              refine wp_region_slots3 [92, 93, 94, 95, 96, 97, 98, 99, 100, 101, 999] (by kernel_rfl) (by kernel_rfl) (by kernel_rfl) (fun u => by dsimp only [frameOf, setMany, List.set, Nat.zero_add, Nat.reduceAdd])
                (fun i v W => match i with | 0 => v = .pointer (some ⟨w0.heap.size, 0, none⟩) | 1 => v = .pointer (some ⟨w0.heap.size, 0, none⟩) | 2 => v = .pointer (some ⟨w0.heap.size, 0, none⟩) | 3 => v = .pointer (some ⟨w0.heap.size, 2, none⟩) | 4 => v = .slice A3 m.length c3 | 5 => v = .agg #[.string ⟨a.name.toArray⟩, .string ⟨b.name.toArray⟩] | 6 => v = .slice (some ⟨W7.heap.size, 0, none⟩) 1 1 | 7 => ∃ A n c, v = .slice A n c | 8 => v = .pointer (some ⟨w0.heap.size, 0, none⟩) | 9 => v = .pointer (some ⟨w0.heap.size, 2, none⟩) | _ => True)
                (fun L U W => (L 6 = false → W = W7) ∧ (L 6 = true → L 7 = false → W = W7.alloc (.cells ([.string ⟨a.name.toArray⟩, .string ⟨b.name.toArray⟩] : List Value).toArray 224)) ∧
              (L 7 = true → L 10 = false → W.ownsRow (w0.heap.size + 1) 224 2 (U 7) (m.length + 1) (m.flatMap pairc ++ pairc (a.name, b.name)) ∧ W7.grownBy W (Value.slice A3 m.length c3).ownBlock ∧ ((U 7).ownBlock = (Value.slice A3 m.length c3).ownBlock ∨ ∃ k, (U 7).ownBlock = some k ∧ W7.heap.size ≤ k)) ∧
              (L 10 = true → ∃ mv5, AskSt w0 (.slice A1 xs.length c1) (.slice A2 ys.length c2) W (m ++ [(a.name, b.name)]) mv5 ∧ Kept w0.heap.size (.slice A3 m.length c3) W7 W mv5)) (fun _ _ => True) (fun _ _ _ _ _ h => h) (⟨fun _ => HW7.out.symm, (fun h => Bool.noConfusion h), (fun h => Bool.noConfusion h), (fun h => Bool.noConfusion h)⟩) ?_ ?_
              · repeat (first | exact Steps.nil | (refine Steps.cons ?_ ?_; rotate_left))
                all_goals
                  rintro L U W hL hpre hR hun hdep K hK
                  have HR := Lib.hid hR
                  obtain ⟨R1, R2, R3, R4⟩ := HR.out
                  have Hdep := Lib.hid hdep
                  clear hun hdep hR
                  first | (simp [Region.binds] at hpre; done) | simp [Region.binds] at hpre | clear hpre
                iterate 4
                  · go_simp
                    first | exact hK _ _ _ rfl trivial HR.out rfl | exact hK _ _ _ rfl trivial HR.out (by simp [Act.put, hpre]) | exact hK undef _ _ trivial trivial HR.out (by simp [Act.put, hpre]) | exact hK _ _ _ trivial trivial HR.out rfl | exact hK _ _ _ trivial trivial HR.out (by simp [Act.put, hpre])
                · have h7 : L 7 = false := Hdep.out 7 _ rfl { on := 4, ground := Ground.data } (by simp) (by rfl) hL
                  cases h6 : L 6 with
                  | false =>
                    obtain rfl := R1 h6
                    go_simp
                    first | exact hK _ _ _ rfl trivial HR.out rfl | exact hK _ _ _ rfl trivial HR.out (by simp [Act.put, hpre])
                  | true =>
                    obtain rfl := R2 h6 h7
                    have y2a : (W7.alloc (.cells ([.string ⟨a.name.toArray⟩, .string ⟨b.name.toArray⟩] : List Value).toArray 224)).cell? ⟨w0.heap.size, 2, none⟩ = some (.slice A3 m.length c3) := by rw [World.cell?_alloc_old _ _ _ (show w0.heap.size ≠ W7.heap.size by omega)]; exact y27
                    go_simp
                    first | exact hK _ _ _ rfl trivial HR.out rfl | exact hK _ _ _ rfl trivial HR.out (by simp [Act.put, hpre])
                · have h6 : L 6 = false := Hdep.out 6 _ rfl { on := 5, ground := Ground.data } (by simp) (by rfl) hL
                  obtain rfl := R1 h6
                  go_simp
                  first | exact hK _ _ _ rfl trivial HR.out rfl | exact hK _ _ _ rfl trivial HR.out (by simp [Act.put, hpre])
                · have h7 : L 7 = false := Hdep.out 7 _ rfl { on := 6, ground := Ground.data } (by simp) (by rfl) hL
                  obtain rfl := R1 hL
                  go_simp
                  refine hK _ _ _ rfl trivial ⟨fun h => by simp at h, fun _ _ => rfl, fun h => absurd (h7.symm.trans (by simpa using h)) (by decide), fun h => ?_⟩ (by simp [Act.put, hpre])
                  exact absurd ((Hdep.out 10 _ rfl { on := 6, ground := Ground.phase } (by simp) (by rfl) hL).symm.trans (by simpa using h)) (by decide)
                · obtain ⟨⟨l4, u4⟩, l6, u6⟩ := hpre
                  obtain rfl := R2 l6 hL
                  rw [if_pos (by rfl)]
                  refine wp_appKW W7 (.tmp 96) (.tmp 98) 193 rfl (w0.heap.size + 1) 224 (.agg #[.string ⟨#[]⟩, .string ⟨#[]⟩]) 2 32 Tryz.underlying193 Tryz.infoPair rfl (by decide) (pairc (a.name, b.name)) rfl (by intro y hy; simp [pairc] at hy; rcases hy with rfl | rfl <;> rfl) (.slice A3 m.length c3) m.length (m.flatMap pairc) u4 u6 Hst7.out.2.2.2.2.2.2 (by unfold maxLen; omega) (by omega) (by omega) ?_
                  intro v' w' hown hg hwh
                  obtain ⟨A5', n5', c5', rfl⟩ := own_slice hown
                  refine hK _ _ _ ⟨A5', n5', c5', rfl⟩ trivial ⟨fun h => absurd (l6.symm.trans (by simpa using h)) (by decide), fun _ h => by simp at h, fun _ _ => ⟨hown, hg, hwh⟩, fun h => ?_⟩ rfl
                  exact absurd ((Hdep.out 10 _ rfl { on := 7, ground := Ground.phase } (by simp) (by rfl) hL).symm.trans (by simpa using h)) (by decide)
                iterate 2
                  · go_simp
                    first | exact hK _ _ _ rfl trivial HR.out rfl | exact hK _ _ _ rfl trivial HR.out (by simp [Act.put, hpre]) | exact hK undef _ _ trivial trivial HR.out (by simp [Act.put, hpre]) | exact hK _ _ _ trivial trivial HR.out rfl | exact hK _ _ _ trivial trivial HR.out (by simp [Act.put, hpre])
                · obtain ⟨l7, A5', n5', c5', u7⟩ : L 7 = true ∧ ∃ A n c, U 7 = .slice A n c := by
                    first | exact hpre.1 | exact hpre.2.1 | exact ⟨hpre.1.1, hpre.1.2⟩ | exact ⟨hpre.2.1.1, hpre.2.1.2⟩
                  have hpre6 : L 6 = true := by
                    cases h6 : L 6 with
                    | true => rfl
                    | false =>
                      have := Hdep.out 7 _ rfl { on := 6, ground := Ground.data } (by simp) (by rfl) h6
                      rw [l7] at this
                      cases this
                  obtain ⟨hown, hg, hwh⟩ := R3 l7 hL
                  rw [u7] at hown hwh
                  have hb8 : Below (w0.heap.size + 1) W7 W := (Below.refl _ _).grown hg (by omega) (fun k hk => (Hst7.out.2.2.2.2.2.2.lt k hk).1)
                  have hT8 := there_below Hst7.out.2.2.2.2.2.1 (show w0.heap.size < w0.heap.size + 1 by omega) hb8
                  have f8 : W.frozen? ⟨w0.heap.size, 2, none⟩ = false := (by simpa using (hT8 2 (by decide)).2)
                  obtain ⟨x8, hx8⟩ := Option.isSome_iff_exists.1 ((by simpa using (hT8 2 (by decide)).1 : (W.cell? ⟨w0.heap.size, 2, none⟩).isSome = true))
                  have HP := Lib.hid (AskSt.push (p := (a.name, b.name)) Hst7.out hown hg hwh)
                  clear hown hg hwh hb8 hT8 R1 R2 R3 R4
                  go_simp
                  refine hK undef _ _ trivial trivial ⟨fun h => absurd (hpre6.symm.trans (by simpa using h)) (by decide), fun _ h => absurd (l7.symm.trans (by simpa using h)) (by decide), fun _ h => by simp at h, fun _ => ⟨_, HP.out⟩⟩ (by simp [Act.put, hpre, u7])
              · rintro L U W hL hφ hR
                clear hφ
                obtain ⟨mv5, hst8, hk8⟩ := hR.2.2.2 (hL 10 (by decide))
                have x9 := Kept.range hk8 X9b.out (show w2.heap.size < W7.heap.size by omega) (show w2.heap.size ≠ w0.heap.size by omega) (Hst.out.far _ Hwz.out)
                have x11 := Kept.range hk8 X11b.out (show w4.heap.size < W7.heap.size by omega) (show w4.heap.size ≠ w0.heap.size by omega) (Hst.out.far _ (by have := Hwz.out; omega))
                have a0 : W.cell? ⟨w2.heap.size, 0, none⟩ = some (.int .u8 s1) := by simpa using rangeAt_cell x9 0 rfl
                have a1 : W.cell? ⟨w2.heap.size, 1, none⟩ = some (.string ⟨a.name.toArray⟩) := by simpa using rangeAt_cell x9 1 rfl
                have a2 : W.cell? ⟨w2.heap.size, 2, none⟩ = some (.slice A4 n4 c4) := by simpa using rangeAt_cell x9 2 rfl
                have d0 : W.cell? ⟨w4.heap.size, 0, none⟩ = some (.int .u8 s2) := by simpa using rangeAt_cell x11 0 rfl
                have d1 : W.cell? ⟨w4.heap.size, 1, none⟩ = some (.string ⟨b.name.toArray⟩) := by simpa using rangeAt_cell x11 1 rfl
                have d2 : W.cell? ⟨w4.heap.size, 2, none⟩ = some (.slice A5 n5 c5) := by simpa using rangeAt_cell x11 2 rfl
                have Hcall := Ih.out t tv u uv W mv5 Hxm.out.1 Hym.out.1 hst8 Hxm.out.2.2 Hym.out.2.2 Hnin.out
                rw [G1.out, G3.out] at Hcall
                generalize evT (tysOf xs) (tysOf ys) (evK (tysOf xs) (tysOf ys) n) t u (m ++ [(a.name, b.name)]) = r at *
                have Hc := Lib.hid Hcall
                have Hk8 := Lib.hid (Hk7.out.trans hk8)
                clear hL hR hst8 hk8 x9 x11 Hcall
                go_wp2_with fail
                refine Hc.out.mono ?_
                rintro e w9 ⟨rfl, mv9, hst9, hk9⟩
                have Hst9 := Lib.hid hst9
                have Hk9 := Lib.hid (Hk8.out.trans hk9)
                clear hst9 hk9
                go_wp2_with fail
                go_ret
                rw [Hfin.out]
                exact ⟨rfl, mv9, Hst9.out, Hk9.out⟩
end Go.Proofs.YtcjfgbcdlcdeaaaGreatDoor
