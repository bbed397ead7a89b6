/- Texts joined: SStand, SStand2, SStand3, IStand, IStand2, IStand3, SL6, IAsk. Conditions: as each theorem names them. -/
import Derived.DeepKeys4
import Derived.Test.YtdhinlhafoiaiaaGreatDoorK01
import Derived.Test.YtdhinlhafoiaiaaGreatDoorK03
import Derived.Test.YtdhinlhafoiaiaaGreatDoorK09
import Derived.Test.YtdhinlhafoiaiaaGreatDoorK13
import Derived.Test.YtdhinlhafoiaiaaGreatDoorK15
import Derived.Test.YtdhinlhafoiaiaaGreatDoorK17
/- The reference's standing values of kinds and fields. -/
namespace Go.Proofs.YtdhinlhafoiaiaaGreatDoor
open Go.RowKit
set_option maxRecDepth 100000
set_option linter.unusedVariables false
set_option linter.unusedSimpArgs false
attribute [local go_sem] ba_get ba_toList ba_extract take_drop_all ByteArray.mk_append_mk

theorem standN_len (S : List Ty) (hT : ∀ t ∈ S, tyOk t) : ∀ (n : Nat) (k : Kd), (standN S n k).length ≤ 6 * n
  | 0, _ => by simp [standN]
  | n + 1, k => by
    unfold standN
    split
    · simp; omega
    · split
      · simp; omega
      · split
        · simp; omega
        · split
          · simp; omega
          · split
            · simp; omega
            · cases hf : findTy S k.name with
              | none => simp
              | some t =>
                simp only
                split
                · simp; omega
                · cases hfs : t.fields with
                  | nil => simp
                  | cons f fs =>
                    have h1 := ((hT t (findTy_some hf).1).2.2.1.1 f (by rw [hfs]; simp)).2.1
                    have h2 := decB_len 2 f.tag (by have e : 10 ^ (2 + 1) = 1000 := rfl; omega)
                    have ih := standN_len S hT n f.kind
                    simp only
                    split
                    · simp; omega
                    · simp; omega
/-- The standing value of a letter. -/
def plainL (b : List UInt8) : List UInt8 := if b = [110] then [48] else if b = [116] then [39, 39] else [110, 111]
theorem l3PlainK_any (b : List UInt8) (w : World) (hb : b = [110] ∨ b = [116] ∨ b = [102]) :
    Calls Tryz.prog 205 #[.string ⟨b.toArray⟩] w fun e w' => e = .returned (.string ⟨(plainL b).toArray⟩) ∧ w = w' := by
  rcases hb with rfl | rfl | rfl
  · go_enter Tryz.func205, Tryz.ntmps205
    go_wp2_with fail
    go_ret
    exact ⟨rfl, rfl⟩
  · go_enter Tryz.func205, Tryz.ntmps205
    go_wp2_with fail
    go_ret
    exact ⟨rfl, rfl⟩
  · go_enter Tryz.func205, Tryz.ntmps205
    go_wp2_with fail
    go_ret
    exact ⟨rfl, rfl⟩
def signL (c : UInt8) : List UInt8 := if c = 91 then [91, 93] else [45]
theorem sStands_sign (v : Value) (c : UInt8) (t : List UInt8) (w : World) (hc : c = 91 ∨ c = 63) (hl : t.length ≤ 1000) :
    Calls Tryz.prog 191 #[v, .string ⟨(c :: t).toArray⟩] w fun e w' => e = .returned (.string ⟨(signL c).toArray⟩) ∧ w = w' := by
  rcases hc with rfl | rfl
  · go_enter Tryz.func191, Tryz.ntmps191
    go_wp2_with fail
    go_ret
    exact ⟨rfl, rfl⟩
  · go_enter Tryz.func191, Tryz.ntmps191
    go_wp2_with fail
    go_ret
    exact ⟨rfl, rfl⟩
theorem kd_letter {k : Kd} (h : kdOk k) (hs : k.signs = []) (hb : k.base ≠ [64]) : kdB k = k.base ∧ (k.base = [110] ∨ k.base = [116] ∨ k.base = [102]) := by
  refine ⟨by unfold kdB coreB; rw [hs, if_neg hb]; rfl, ?_⟩
  rcases h.2.1 with h | h
  · exact absurd h.1 hb
  · exact h.1
theorem sStands_letter (v : Value) (xs : List (Ty × Value)) (k : Kd) (w : World) (hsc : SSc w v xs) (hk : kdOk k) (hs : k.signs = []) (hb : k.base ≠ [64]) :
    Calls Tryz.prog 191 #[v, .string ⟨(kdB k).toArray⟩] w fun e w' => e = .returned (.string ⟨(plainL k.base).toArray⟩) ∧ Below w.heap.size w w' := by
  have Hr := Lib.hid (fun W h => sRef_any v xs k W h hk)
  have hx : refX xs k = none := if_neg (fun h => hb h.2)
  rw [hx] at Hr
  obtain ⟨e1, e2⟩ := kd_letter hk hs hb
  rw [e1] at Hr ⊢
  have Hsc := Lib.hid hsc
  have Hp := Lib.hid (fun W => l3PlainK_any k.base W e2)
  have He2 := Lib.hid e2
  unfold styR sty0 at Hr
  generalize k.base = b at *
  clear hs hb e1 hsc hx
  obtain ⟨c, hc, t1, t2⟩ : ∃ c, b = [c] ∧ ((c.toNat : Int) == 91) = false ∧ ((c.toNat : Int) == 63) = false := by
    rcases e2 with rfl | rfl | rfl
    · exact ⟨110, rfl, by decide, by decide⟩
    · exact ⟨116, rfl, by decide, by decide⟩
    · exact ⟨102, rfl, by decide, by decide⟩
  clear e2
  subst hc
  go_enter Tryz.func191, Tryz.ntmps191
  go_wp2_with fail
  refine (Hr.out _ Hsc.out).mono ?_
  rintro e w1 ⟨rfl, hb1⟩
  go_wp2_with fail
  refine (Hp.out _).mono ?_
  rintro e w2 ⟨rfl, rfl⟩
  go_wp2_with fail
  go_ret
  exact ⟨rfl, hb1.alloc hb1.size _⟩
end Go.Proofs.YtdhinlhafoiaiaaGreatDoor
/- The reference's standing values, of kinds that name a type. -/
namespace Go.Proofs.YtdhinlhafoiaiaaGreatDoor
open Go.RowKit
set_option maxRecDepth 100000
set_option linter.unusedVariables false
set_option linter.unusedSimpArgs false
attribute [local go_sem] ba_get ba_toList ba_extract take_drop_all ByteArray.mk_append_mk

/-- What reading a standing value leaves. -/
def SdPost (l : List UInt8) (w : World) (e : Ending) (w' : World) : Prop := e = .returned (.string ⟨l.toArray⟩) ∧ Below w.heap.size w w'

set_option maxHeartbeats 1000000 in
theorem sStands_name (xv : Value) (xs : List (Ty × Value)) (hok : ∀ x ∈ xs, tyOk x.1) (n : Nat) (k : Kd) (w : World) (hsc : SSc w xv xs) (hk : kdOk k) (hs : k.signs = []) (hb : k.base = [64]) (t : Ty) (fv : Value) (hx : findX xs k.name = some (t, fv))
    (hn : n ≤ 9) (ih : t.sort = 85 → ∀ f fs, t.fields = f :: fs → ∀ W, SSc W xv xs → Calls Tryz.prog 191 #[xv, .string ⟨(kdB f.kind).toArray⟩] W (SdPost (standN (tysOf xs) n f.kind) W)) :
    Calls Tryz.prog 191 #[xv, .string ⟨(kdB k).toArray⟩] w (SdPost (standN (tysOf xs) (n + 1) k) w) := by
  have Hr := Lib.hid (fun W h => sRef_any xv xs k W h hk)
  have Hlen := Lib.hid (standN_len (tysOf xs) (fun t ht => by obtain ⟨x, hx, rfl⟩ := List.mem_map.1 ht; exact hok x hx))
  have hrx : refX xs k = some (t, fv) := (if_pos ⟨hs, hb⟩).trans hx
  have HF := Lib.hid (show standN (tysOf xs) (n + 1) k = if t.sort = 82 then [123, 125] else match t.fields with | [] => [] | f :: _ => if t.sort = 69 then 35 :: decB f.tag else 60 :: (decB f.tag ++ 61 :: (standN (tysOf xs) n f.kind ++ [62])) from by
    rw [standN, if_neg (by rw [hs]; decide), if_neg (by rw [hs]; decide), if_neg (by rw [hb]; decide), if_neg (by rw [hb]; decide), if_neg (by rw [hb]; decide), findX_ty, hx]; rfl)
  have hto := hok _ (findX_mem hx).1
  have hkb : kdB k = 64 :: (k.name ++ [59]) := by unfold kdB coreB; rw [hs, if_pos hb]; rfl
  have hnl : k.name.length ≤ 3 := by
    rcases hk.2.1 with h | h
    · exact (nameOk_iff.1 h.2).2.1
    · rw [hb] at h; exact absurd h.1 (by decide)
  have hfd : SFds w fv t.fields := by obtain ⟨_, _, _, _, _, hf⟩ := hsc; exact hf _ (findX_mem hx).1
  rw [hrx] at Hr
  rw [hkb] at Hr ⊢
  obtain ⟨A, c, rfl, hfl, hrow⟩ := hfd
  have Hsc := Lib.hid hsc
  have Hrow := Lib.hid hrow
  have Hto := Lib.hid hto
  have Ih := Lib.hid ih
  unfold styR styV at Hr
  simp only [] at hto
  clear hsc hk hs hb hx hkb hrow hto hrx ih hok
  by_cases h82 : t.sort = 82
  · have t82 : ((t.sort.toNat : Int) == 82) = true := byte_eq (d := 82) h82
    have HF2 := Lib.hid (HF.out.trans (if_pos h82))
    clear h82 HF
    go_enter Tryz.func191, Tryz.ntmps191
    go_wp2_with fail
    refine (Hr.out _ Hsc.out).mono ?_
    rintro e w1 ⟨rfl, hb1⟩
    go_wp2_with fail
    go_ret
    exact ⟨by rw [HF2.out]; rfl, hb1.alloc hb1.size _⟩
  · have t82 : ((t.sort.toNat : Int) == 82) = false := byte_ne (d := 82) h82
    have HF2 := Lib.hid (HF.out.trans (if_neg h82))
    have hne : t.fields ≠ [] := fun h => h82 (Hto.out.2.2.2.2 h)
    obtain ⟨f, fs, hfs⟩ : ∃ f fs, t.fields = f :: fs := by
      cases h : t.fields with
      | nil => exact absurd h hne
      | cons f fs => exact ⟨f, fs, rfl⟩
    have hf0 : 0 < t.fields.length := by rw [hfs]; simp
    have hge : t.fields[0] = f := by simp [hfs]
    have hft := Hto.out.2.2.1.1 f (by rw [hfs]; simp)
    have htag : f.tag ≤ 200 := hft.2.1
    have hdl := decB_len 2 f.tag (by have e : 10 ^ (2 + 1) = 1000 := rfl; omega)
    have Hd := Lib.hid (fun W => l6Dec_any f.tag f.tag W (Nat.le_refl _) (by omega))
    have hi0 : (0 : Int) < (t.fields.length : Int) := by omega
    have HF3 := Lib.hid (show standN (tysOf xs) (n + 1) k = if t.sort = 69 then 35 :: decB f.tag else 60 :: (decB f.tag ++ 61 :: (standN (tysOf xs) n f.kind ++ [62])) from by rw [HF2.out, hfs])
    have Hfs := Lib.hid hfs
    have Hge := Lib.hid hge
    obtain ⟨b, off, rfl, hbl, g0, g1, g2, g3⟩ := SFds.at_ Hrow.out hf0
    rw [hge] at g0 g1 g2 g3
    simp only [Nat.zero_mul, Nat.add_zero] at g0 g1 g2 g3
    have H82 := Lib.hid h82
    clear HF2 HF h82 hne hfs hge hft g1 g3
    by_cases h69 : t.sort = 69
    · have t69 : ((t.sort.toNat : Int) == 69) = true := byte_eq (d := 69) h69
      have HF4 := Lib.hid (HF3.out.trans (if_pos h69))
      clear h69 HF3
      go_enter Tryz.func191, Tryz.ntmps191
      go_wp2_with fail
      refine (Hr.out _ Hsc.out).mono ?_
      rintro e w1 ⟨rfl, hb1⟩
      have g0' := (hb1.cell (p := ⟨b, off, none⟩) hbl).trans g0
      have hbl1 : b < w1.heap.size := Nat.lt_of_lt_of_le hbl hb1.size
      have hbn : ¬ (b = w1.heap.size) := by omega
      have Hb1 := Lib.hid hb1
      clear hb1 g0 g2
      go_wp2_with fail
      refine (Hd.out _).mono ?_
      rintro e w2 ⟨rfl, hb2⟩
      go_wp2_with fail
      go_ret
      exact ⟨by rw [HF4.out]; simp, (Hb1.out.alloc Hb1.out.size _).trans (hb2.mono (by have := Hb1.out.size; simp; omega))⟩
    · have t69 : ((t.sort.toNat : Int) == 69) = false := byte_ne (d := 69) h69
      have HF4 := Lib.hid (HF3.out.trans (if_neg h69))
      have h85 : t.sort = 85 := by
        rcases Hto.out.1 with h | h | h
        · exact absurd h H82.out
        · exact h
        · exact absurd h h69
      have Ih2 := Lib.hid (Ih.out h85 f fs Hfs.out)
      have hsl := Hlen.out n f.kind
      generalize standN (tysOf xs) n f.kind = sl at *
      generalize kdB f.kind = kd at *
      clear h69 HF3 h85 Ih
      go_enter Tryz.func191, Tryz.ntmps191
      go_wp2_with fail
      refine (Hr.out _ Hsc.out).mono ?_
      rintro e w1 ⟨rfl, hb1⟩
      have g0' := (hb1.cell (p := ⟨b, off, none⟩) hbl).trans g0
      have g2' := (hb1.cell (p := ⟨b, off + 2, none⟩) hbl).trans g2
      have hbl1 : b < w1.heap.size := Nat.lt_of_lt_of_le hbl hb1.size
      have hbn : ¬ (b = w1.heap.size) := by omega
      have Hb1 := Lib.hid hb1
      clear hb1 g0 g2
      go_wp2_with fail
      obtain ⟨W0, hW0⟩ : ∃ W0, W0 = w1.alloc (.cells #[.int .u8 (t.sort.toNat : Int), .string ⟨t.name.toArray⟩, .slice (some ⟨b, off, none⟩) t.fields.length c] 86) := ⟨_, rfl⟩
      rw [← hW0]
      have y2 : W0.cell? ⟨w1.heap.size, 2, none⟩ = some (.slice (some ⟨b, off, none⟩) t.fields.length c) := by rw [hW0]; simp
      have y0 : W0.cell? ⟨b, off, none⟩ = some (.int .i64 (f.tag : Int)) := by rw [hW0, World.cell?_alloc_old _ _ _ hbn]; exact g0'
      have y3 : W0.cell? ⟨b, off + 2, none⟩ = some (.string ⟨kd.toArray⟩) := by rw [hW0, World.cell?_alloc_old _ _ _ hbn]; exact g2'
      have hz0 : W0.heap.size = w1.heap.size + 1 := by rw [hW0]; simp
      have hB5 : w1.heap.size < W0.heap.size := by omega
      have hb5 : b < W0.heap.size := by omega
      have Hb0 := Lib.hid (show Below w.heap.size w W0 from by rw [hW0]; exact Hb1.out.alloc Hb1.out.size _)
      have Hsc0 := Lib.hid (Hsc.out.below Hb0.out)
      generalize w1.heap.size = B5 at *
      clear hW0 hz0 g0' g2'
      refine wp_region_slots3 [39, 40, 41, 42, 43, 44, 45, 46, 47, 48, 49, 50, 51, 52, 53, 54, 55, 4] (by kernel_rfl) (by kernel_rfl) (by kernel_rfl) (fun u => by dsimp only [frameOf, setMany, List.set, Nat.zero_add, Nat.reduceAdd])
        (fun i v W => match i with | 0 => v = .pointer (some ⟨B5, 2, none⟩) | 1 => v = .slice (some ⟨b, off, none⟩) t.fields.length c | 2 => v = .pointer (some ⟨b, off, none⟩) | 3 => v = .pointer (some ⟨b, off, none⟩) | 4 => v = .int .i64 (f.tag : Int) | 5 => v = .string ⟨(decB f.tag).toArray⟩ | 6 => v = .string ⟨(60 :: decB f.tag).toArray⟩ | 7 => v = .string ⟨(60 :: (decB f.tag ++ [61])).toArray⟩ | 8 => v = xv | 9 => v = .pointer (some ⟨B5, 2, none⟩) | 10 => v = .slice (some ⟨b, off, none⟩) t.fields.length c | 11 => v = .pointer (some ⟨b, off, none⟩) | 12 => v = .pointer (some ⟨b, off + 2, none⟩) | 13 => v = .string ⟨kd.toArray⟩ | 14 => v = .string ⟨sl.toArray⟩ | 15 => v = .string ⟨(60 :: (decB f.tag ++ 61 :: sl)).toArray⟩ | 16 => v = .string ⟨(60 :: (decB f.tag ++ 61 :: (sl ++ [62]))).toArray⟩ | 17 => v = .string ⟨(60 :: (decB f.tag ++ 61 :: (sl ++ [62]))).toArray⟩ | _ => True)
        (fun L U W => Below W0.heap.size W0 W) (fun _ _ => True) (fun _ _ _ _ _ h => h) ((Below.refl _ _).drew) ?_ ?_
      · repeat (first | exact Steps.nil | (refine Steps.cons ?_ ?_; rotate_left))
        all_goals
          rintro L U W hL hpre hR hun hdep K hK
          have HR := Lib.hid hR
          have hB := HR.out
          have c2 := (hB.cell (p := ⟨B5, 2, none⟩) hB5).trans y2
          have c0 := (hB.cell (p := ⟨b, off, none⟩) hb5).trans y0
          have c3 := (hB.cell (p := ⟨b, off + 2, none⟩) hb5).trans y3
          clear hun hdep hR
          first | (simp [Region.binds] at hpre; done) | simp [Region.binds] at hpre | clear hpre
        iterate 5
          · go_simp
            first | exact hK _ _ _ rfl trivial HR.out rfl | exact hK _ _ _ rfl trivial HR.out (by simp [Act.put, hpre]) | exact hK undef _ _ trivial trivial HR.out (by simp [Act.put, hpre]) | exact hK _ _ _ trivial trivial HR.out rfl | exact hK _ _ _ trivial trivial HR.out (by simp [Act.put, hpre])
        · go_simp
          refine (Hd.out _).mono ?_
          rintro e w3 ⟨rfl, hb3⟩
          exact hK _ _ _ rfl trivial (hB.trans (hb3.mono hB.size)) (by simp [Act.put, hpre])
        · go_simp
          rw [if_neg (by first | omega | (simp; omega))]
          go_simp
          first | exact hK _ _ _ rfl trivial HR.out rfl | exact hK _ _ _ rfl trivial HR.out (by simp [Act.put, hpre])
        · go_simp
          rw [if_neg (by first | omega | (simp; omega))]
          go_simp
          first | exact hK _ _ _ rfl trivial HR.out rfl | exact hK _ _ _ rfl trivial HR.out (by simp [Act.put, hpre])
        iterate 6
          · go_simp
            first | exact hK _ _ _ rfl trivial HR.out rfl | exact hK _ _ _ rfl trivial HR.out (by simp [Act.put, hpre]) | exact hK undef _ _ trivial trivial HR.out (by simp [Act.put, hpre]) | exact hK _ _ _ trivial trivial HR.out rfl | exact hK _ _ _ trivial trivial HR.out (by simp [Act.put, hpre])
        · go_simp
          refine (Ih2.out _ (Hsc0.out.below hB)).mono ?_
          rintro e w3 ⟨rfl, hb3⟩
          exact hK _ _ _ rfl trivial (hB.trans (hb3.mono hB.size)) (by simp [Act.put, hpre])
        · go_simp
          rw [if_neg (by first | omega | (simp; omega))]
          go_simp
          first | exact hK _ _ _ rfl trivial HR.out rfl | exact hK _ _ _ rfl trivial HR.out (by simp [Act.put, hpre])
        · go_simp
          rw [if_neg (by first | omega | (simp; omega))]
          go_simp
          first | exact hK _ _ _ rfl trivial HR.out rfl | exact hK _ _ _ rfl trivial HR.out (by simp [Act.put, hpre])
        · go_simp
          first | exact hK _ _ _ rfl trivial HR.out rfl | exact hK _ _ _ rfl trivial HR.out (by simp [Act.put, hpre]) | exact hK undef _ _ trivial trivial HR.out (by simp [Act.put, hpre]) | exact hK _ _ _ trivial trivial HR.out rfl | exact hK _ _ _ trivial trivial HR.out (by simp [Act.put, hpre])
      · rintro L U W hL hφ hR
        have e17 : U 17 = .string ⟨(60 :: (decB f.tag ++ 61 :: (sl ++ [62]))).toArray⟩ := hφ 17 (by decide)
        simp only [e17]
        clear hφ
        have Hb9 := Lib.hid (Hb0.out.trans (hR.mono Hb0.out.size))
        clear hR
        go_wp2_with fail
        go_ret
        exact ⟨by rw [HF4.out]; rfl, Hb9.out⟩
end Go.Proofs.YtdhinlhafoiaiaaGreatDoor
/- The reference's standing values: of each kind, of each field. -/
namespace Go.Proofs.YtdhinlhafoiaiaaGreatDoor
open Go.RowKit
set_option maxRecDepth 100000
set_option linter.unusedVariables false
set_option linter.unusedSimpArgs false
attribute [local go_sem] ba_get ba_toList ba_extract take_drop_all ByteArray.mk_append_mk

theorem standN_sign (S : List Ty) (n : Nat) (k : Kd) (c : UInt8) (t : List UInt8) (h : k.signs = c :: t) (hc : c = 91 ∨ c = 63) : standN S (n + 1) k = signL c := by
  unfold standN signL
  rw [h]
  rcases hc with rfl | rfl
  · rfl
  · rfl
theorem standN_letter (S : List Ty) (n : Nat) (k : Kd) (h : k.signs = []) (hb : k.base = [110] ∨ k.base = [116] ∨ k.base = [102]) : standN S (n + 1) k = plainL k.base := by
  unfold standN plainL
  rw [h]
  rcases hb with hb | hb | hb <;> rw [hb] <;> rfl
theorem sign_cases {k : Kd} (h : kdOk k) {c : UInt8} {t : List UInt8} (hs : k.signs = c :: t) : c = 91 ∨ c = 63 := by
  have := h.1
  rw [hs, List.all_cons, Bool.and_eq_true] at this
  have := this.1
  unfold isSign at this
  simpa using this

theorem sStands_any (xv : Value) (xs : List (Ty × Value)) (hok : ∀ x ∈ xs, tyOk x.1) (hS : kindsOk (tysOf xs)) : ∀ (n : Nat), n ≤ 9 → ∀ (k : Kd) (w : World), SSc w xv xs → kdOk k → refOk (tysOf xs) k → kdEnds (tysOf xs) n k →
    Calls Tryz.prog 191 #[xv, .string ⟨(kdB k).toArray⟩] w (SdPost (standN (tysOf xs) (n + 1) k) w) := by
  intro n
  induction n with
  | zero =>
    intro _ k w hsc hk hr he
    cases hs : k.signs with
    | cons c t =>
      have hc := sign_cases hk hs
      have hkb : kdB k = c :: (t ++ coreB k) := by unfold kdB; rw [hs]; rfl
      have hl := hk.2.2
      rw [hkb] at hl ⊢
      rw [standN_sign _ _ k c t hs hc]
      refine (sStands_sign xv c (t ++ coreB k) w hc (by simp at hl ⊢; omega)).mono ?_
      rintro e w' ⟨rfl, rfl⟩
      exact ⟨rfl, Below.refl _ _⟩
    | nil =>
      by_cases hb : k.base = [64]
      · obtain ⟨t, _, h⟩ := he hs hb
        exact absurd h (by simp [endsN])
      · rw [standN_letter _ _ k hs (kd_letter hk hs hb).2]
        exact sStands_letter xv xs k w hsc hk hs hb
  | succ n ih =>
    intro hn k w hsc hk hr he
    cases hs : k.signs with
    | cons c t =>
      have hc := sign_cases hk hs
      have hkb : kdB k = c :: (t ++ coreB k) := by unfold kdB; rw [hs]; rfl
      have hl := hk.2.2
      rw [hkb] at hl ⊢
      rw [standN_sign _ _ k c t hs hc]
      refine (sStands_sign xv c (t ++ coreB k) w hc (by simp at hl ⊢; omega)).mono ?_
      rintro e w' ⟨rfl, rfl⟩
      exact ⟨rfl, Below.refl _ _⟩
    | nil =>
      by_cases hb : k.base = [64]
      · have h1 := hr hb
        rw [findX_ty] at h1
        cases hx : findX xs k.name with
        | none => rw [hx] at h1; cases h1
        | some x =>
          obtain ⟨t, fv⟩ := x
          have hft : findTy (tysOf xs) k.name = some t := (findX_mem hx).2.2
          have hto : tyOk t := hok _ (findX_mem hx).1
          refine sStands_name xv xs hok (n + 1) k w hsc hk hs hb t fv hx hn (fun h85 f fs hfs W hW => ?_)
          have hrf : refOk (tysOf xs) f.kind := hS t (findTy_some hft).1 (by rw [h85]; decide) f (by rw [hfs]; simp)
          have hkf : kdOk f.kind := ((hto.2.2.1.1 f (by rw [hfs]; simp)).2.2.2.2 (by rw [h85]; decide)).1
          exact ih (by omega) f.kind W hW hkf hrf (kdEnds_next he hs hb hft h85 hfs hrf)
      · rw [standN_letter _ _ k hs (kd_letter hk hs hb).2]
        exact sStands_letter xv xs k w hsc hk hs hb
/-- In a schema that is valid each kind ends. -/
theorem kdEnds_ok {S : List Ty} (h : scOk S) {k : Kd} (hr : refOk S k) : kdEnds S 9 k := by
  intro hs hb
  have h1 := hr hb
  cases hf : findTy S k.name with
  | none => rw [hf] at h1; cases h1
  | some t => exact ⟨t, rfl, h.2.2 t (findTy_some hf).1⟩
theorem sStandL_any (xv : Value) (xs : List (Ty × Value)) (h : scOk (tysOf xs)) (k : Kd) (w : World) (hsc : SSc w xv xs) (hk : kdOk k) (hr : refOk (tysOf xs) k) :
    Calls Tryz.prog 191 #[xv, .string ⟨(kdB k).toArray⟩] w (SdPost (standL (tysOf xs) k) w) :=
  sStands_any xv xs (fun x hx => h.1.1 x.1 (List.mem_map_of_mem hx)) h.2.1 9 (Nat.le_refl _) k w hsc hk hr (kdEnds_ok h hr)

set_option maxHeartbeats 1000000 in
theorem sStand_any (xv : Value) (xs : List (Ty × Value)) (h : scOk (tysOf xs)) (f : Fd) (w : World) (hsc : SSc w xv xs) (hk : kdOk f.kind) (hr : refOk (tysOf xs) f.kind) (hl : f.given.length ≤ 1000) :
    Calls Tryz.prog 172 #[xv, sfV f] w (SdPost (ofL (tysOf xs) f) w) := by
  have HF := Lib.hid (show ofL (tysOf xs) f = if f.given = [] then standL (tysOf xs) f.kind else f.given from rfl)
  have Hs := Lib.hid (fun W (h1 : SSc W xv xs) => sStandL_any xv xs h f.kind W h1 hk hr)
  have Hsc := Lib.hid hsc
  unfold sfV
  generalize kdB f.kind = kd at *
  clear h hk hr hsc
  by_cases hg : f.given = []
  · have HF2 := Lib.hid (HF.out.trans (if_pos hg))
    rw [hg]
    clear hg HF
    go_enter Tryz.func172, Tryz.ntmps172
    go_wp2_with fail
    refine (Hs.out _ (Hsc.out.below ((Below.refl _ _).alloc (Nat.le_refl _) _))).mono ?_
    rintro e w1 ⟨rfl, hb1⟩
    go_wp2_with fail
    go_ret
    exact ⟨by rw [HF2.out]; rfl, ((Below.refl _ _).alloc (Nat.le_refl _) _).trans (hb1.mono (by simp))⟩
  · have HF2 := Lib.hid (HF.out.trans (if_neg hg))
    have t1 : f.given.isEmpty = false := by simpa using hg
    have t2 : (!f.given.isEmpty) = true := by simp [t1]
    clear hg HF
    go_enter Tryz.func172, Tryz.ntmps172
    go_wp2_with fail
    go_ret
    exact ⟨by rw [HF2.out]; rfl, (Below.refl _ _).alloc (Nat.le_refl _) _⟩
end Go.Proofs.YtdhinlhafoiaiaaGreatDoor
/- The program's standing values; the field of a tag. -/
namespace Go.Proofs.YtdhinlhafoiaiaaGreatDoor
open Go.RowKit
set_option maxRecDepth 100000
set_option linter.unusedVariables false
set_option linter.unusedSimpArgs false
attribute [local go_sem] ba_get ba_toList ba_extract take_drop_all ByteArray.mk_append_mk

/-- What looking for a field gives: a pointer to its cells. -/
def FldPtr (B : Nat) (w : World) (v : Value) : Option Fd → Prop
  | none => v = .pointer none
  | some f => ∃ b o, v = .pointer (some ⟨b, o, none⟩) ∧ b < B ∧ w.rangeAt b o (ifc f)
theorem FldPtr.below {B : Nat} {w w' : World} {v : Value} {o : Option Fd} (h : FldPtr B w v o) (hb : Below B w w') : FldPtr B w' v o := by
  cases o with
  | none => exact h
  | some f => obtain ⟨b, o, e, h1, h2⟩ := h; exact ⟨b, o, e, h1, rangeAt_below h2 h1 hb⟩
def IfpPost (B : Nat) (o : Option Fd) (w : World) (e : Ending) (w' : World) : Prop := ∃ v, e = .returned v ∧ FldPtr B w v o ∧ w = w'

set_option maxHeartbeats 1000000 in
theorem iField_any (w0 : World) (x : PT) (hx : ITy w0 x) (n : Nat) (w : World) (hb : Below w0.heap.size w0 w) (hn : n ≤ 1000000000) :
    Calls Tryz.prog 164 #[.pointer (some ⟨x.blk, 0, none⟩), .int .i64 n] w (IfpPost w0.heap.size (fieldT x.ty.fields n) w) := by
  obtain ⟨z0, _, _, _, z3, _, A, c, hfv, hl, hr⟩ := hx
  rw [hfv] at z3
  have c2 : w.cell? ⟨x.blk, 2, none⟩ = some (.slice A x.ty.fields.length c) := (hb.cell (p := ⟨x.blk, 2, none⟩) z0).trans z3
  have Hr := Lib.hid hr
  have Hb := Lib.hid hb
  clear hr hfv z3 hb
  go_enter Tryz.func164, Tryz.ntmps164
  go_wp2_with fail
  go_loop [11] (fun i => ∃ k : Nat, i = .int .i64 k ∧ k ≤ x.ty.fields.length ∧ Hid (∀ f ∈ x.ty.fields.take k, decide (f.tag = n) = false)) (fun i => x.ty.fields.length - (intOf i).toNat)
  case atStart => exact ⟨0, rfl, Nat.zero_le _, by intro f hf; simp at hf⟩
  case round =>
    obtain ⟨k, rfl, hk, hin⟩ := hrel
    by_cases hlt : k < x.ty.fields.length
    · obtain ⟨b, off, rfl, hbl, hrg⟩ := IFds.range Hr.out hlt
      have hrw := rangeAt_below hrg hbl Hb.out
      have Hts := Lib.hid (take_snoc x.ty.fields k hlt)
      have Hft := Lib.hid (find_take (p := fun f => decide (f.tag = n)) hlt hin.out)
      generalize x.ty.fields[k] = f at hrg hrw Hts Hft
      have c0 : w.cell? ⟨b, off + k * 6, none⟩ = some (.int .i64 (f.tag : Int)) := by simpa using rangeAt_cell hrw 0 rfl
      have Hrw := Lib.hid hrw
      clear hrw hrg
      have k1 : (0 : Int) ≤ (k : Int) := by omega
      have k2 : (k : Int) < (x.ty.fields.length : Int) := by omega
      by_cases he : f.tag = n
      · have t1 : ((f.tag : Int) == (n : Int)) = true := by simp [he]
        have Hfin := Lib.hid (show fieldT x.ty.fields n = some f by unfold fieldT; rw [Hft.out, if_pos (by simpa using he)])
        clear he
        go_wp2_with fail
        go_ret
        exact ⟨_, rfl, by rw [Hfin.out]; exact ⟨b, off + k * 6, rfl, hbl, Hrw.out⟩, rfl⟩
      · have t1 : ((f.tag : Int) == (n : Int)) = false := by rw [beq_eq_false_iff_ne]; omega
        have Hin := Lib.hid (show ∀ g ∈ x.ty.fields.take (k + 1), decide (g.tag = n) = false by
          intro g hg
          rw [Hts.out] at hg
          rcases List.mem_append.1 hg with hg | hg
          · exact hin.out g hg
          · simp at hg; subst hg; simpa using he)
        clear he
        go_wp2_with fail
        go_round
        case rel => exact ⟨k + 1, by go_num, by omega, Hin.out⟩
        case measure => simp [intOf]; omega
    · have Hfin := Lib.hid (show fieldT x.ty.fields n = none from find_all_none (fun f hf => hin.out f (by rw [List.take_of_length_le (by omega)]; exact hf)))
      go_wp2_with fail
      go_ret
      exact ⟨_, rfl, by rw [Hfin.out]; rfl, rfl⟩

theorem iSign_nil (b nm : ByteArray) (w : World) : Calls Tryz.prog 204 #[.agg #[.string ⟨#[]⟩, .string b, .string nm]] w fun e w' => e = .returned (.int .u8 0) ∧ Below w.heap.size w w' := by
  go_enter Tryz.func204, Tryz.ntmps204
  go_wp2_with fail
  go_ret
  exact ⟨rfl, (Below.refl _ _).alloc (Nat.le_refl _) _⟩
theorem iSign_cons (c : UInt8) (t : List UInt8) (hl : t.length ≤ 1000) (b nm : ByteArray) (w : World) : Calls Tryz.prog 204 #[.agg #[.string ⟨(c :: t).toArray⟩, .string b, .string nm]] w fun e w' => e = .returned (.int .u8 (c.toNat : Int)) ∧ Below w.heap.size w w' := by
  go_enter Tryz.func204, Tryz.ntmps204
  go_wp2_with fail
  go_ret
  exact ⟨rfl, (Below.refl _ _).alloc (Nat.le_refl _) _⟩

theorem iStands_sign (p : Value) (c : UInt8) (t : List UInt8) (b nm : ByteArray) (w : World) (hc : c = 91 ∨ c = 63) (hl : t.length ≤ 1000) :
    Calls Tryz.prog 189 #[p, .agg #[.string ⟨(c :: t).toArray⟩, .string b, .string nm]] w (SdPost (signL c) w) := by
  rcases hc with rfl | rfl
  · go_enter Tryz.func189, Tryz.ntmps189
    go_wp2_with fail
    refine (iSign_cons 91 t hl _ _ _).mono ?_
    rintro e w1 ⟨rfl, hb1⟩
    go_wp2_with fail
    go_ret
    exact ⟨rfl, ((Below.refl _ _).alloc (Nat.le_refl _) _).trans (hb1.mono (by simp))⟩
  · go_enter Tryz.func189, Tryz.ntmps189
    go_wp2_with fail
    refine (iSign_cons 63 t hl _ _ _).mono ?_
    rintro e w1 ⟨rfl, hb1⟩
    go_wp2_with fail
    go_ret
    exact ⟨rfl, ((Below.refl _ _).alloc (Nat.le_refl _) _).trans (hb1.mono (by simp))⟩
theorem iStands_letter (p : Value) (b : List UInt8) (nm : ByteArray) (w : World) (hb : b = [110] ∨ b = [116] ∨ b = [102]) :
    Calls Tryz.prog 189 #[p, .agg #[.string ⟨#[]⟩, .string ⟨b.toArray⟩, .string nm]] w (SdPost (plainL b) w) := by
  rcases hb with rfl | rfl | rfl <;>
  · go_enter Tryz.func189, Tryz.ntmps189
    go_wp2_with fail
    refine (iSign_nil _ _ _).mono ?_
    rintro e w1 ⟨rfl, hb1⟩
    obtain ⟨hc1, _, _⟩ := bcell hb1
    have y1 := hc1 w.heap.size 1 (by simp)
    simp at y1
    clear hc1
    have Hb1 := Lib.hid (((Below.refl w.heap.size w).alloc (Nat.le_refl _) _).trans (hb1.mono (by simp)))
    clear hb1
    go_wp2_with fail
    go_ret
    exact ⟨rfl, Hb1.out⟩
end Go.Proofs.YtdhinlhafoiaiaaGreatDoor
/- The program's standing values, of kinds that name a type. -/
namespace Go.Proofs.YtdhinlhafoiaiaaGreatDoor
open Go.RowKit
set_option maxRecDepth 100000
set_option linter.unusedVariables false
set_option linter.unusedSimpArgs false
attribute [local go_sem] ba_get ba_toList ba_extract take_drop_all ByteArray.mk_append_mk

set_option maxHeartbeats 2000000 in
theorem iStands_name (p : Value) (xs : List PT) (hok : ∀ y ∈ xs, tyOk y.ty) (n : Nat) (k : Kd) (w : World) (hsc : ISc w p xs) (hk : kdOk k) (hs : k.signs = []) (hb : k.base = [64]) (x : PT) (hx : findP xs k.name = some x)
    (hn : n ≤ 9) (ih : x.ty.sort = 85 → ∀ f fs, x.ty.fields = f :: fs → ∀ W, ISc W p xs → Calls Tryz.prog 189 #[p, kdV f.kind] W (SdPost (standN (ptysOf xs) n f.kind) W)) :
    Calls Tryz.prog 189 #[p, kdV k] w (SdPost (standN (ptysOf xs) (n + 1) k) w) := by
  have Hlen := Lib.hid (standN_len (ptysOf xs) (fun t ht => by obtain ⟨y, hy, rfl⟩ := List.mem_map.1 ht; exact hok y hy))
  have HF := Lib.hid (show standN (ptysOf xs) (n + 1) k = if x.ty.sort = 82 then [123, 125] else match x.ty.fields with | [] => [] | f :: _ => if x.ty.sort = 69 then 35 :: decB f.tag else 60 :: (decB f.tag ++ 61 :: (standN (ptysOf xs) n f.kind ++ [62])) from by
    rw [standN, if_neg (by rw [hs]; decide), if_neg (by rw [hs]; decide), if_neg (by rw [hb]; decide), if_neg (by rw [hb]; decide), if_neg (by rw [hb]; decide), findP_ty, hx]; rfl)
  have hxm := (findP_mem hx).1
  have Hto := Lib.hid (hok _ hxm)
  have hnl := name_short hk
  have Hsc := Lib.hid hsc
  obtain ⟨pb, A, cc, mb, rfl, q0, q1, q2, q3, q4, htys, _⟩ := hsc
  obtain ⟨z0, _, z1, z2, z3, z4, A8, c, hz8, hl8', hrow8⟩ := htys x hxm
  rw [hz8] at z3
  have Hrow := Lib.hid hrow8
  have Ih := Lib.hid ih
  have Hlk := Lib.hid (fun W (h : Below w.heap.size w W) => show (Instr.lookup 130 (.map (some mb)) (.string ⟨k.name.toArray⟩) false).run Tryz.prog W = .ok (.pointer (some ⟨x.blk, 0, none⟩)) W from by
    have := named_look (FMap.below q4 h) k.name (by omega); rw [hx] at this; exact this)
  have hmb := q4.lt
  unfold kdV
  rw [hs, hb]
  clear hk hs hb hx q1 q3 q4 htys hrow8 ih hok hz8 z2 z4 hxm
  go_enter Tryz.func189, Tryz.ntmps189
  go_wp2_with fail
  refine (iSign_nil _ _ _).mono ?_
  rintro e w1 ⟨rfl, hb1⟩
  obtain ⟨hc1, _, hzz⟩ := bcell hb1
  have y1 : w1.cell? ⟨w.heap.size, 1, none⟩ = some (.string ⟨#[64]⟩) := (hc1 w.heap.size 1 (by simp)).trans (by simp)
  have y2 : w1.cell? ⟨w.heap.size, 2, none⟩ = some (.string ⟨k.name.toArray⟩) := (hc1 w.heap.size 2 (by simp)).trans (by simp)
  have Hb1 := Lib.hid (show Below w.heap.size w w1 from ((Below.refl w.heap.size w).alloc (Nat.le_refl _) _).trans (hb1.mono (by simp)))
  have hz1 : w.heap.size < w1.heap.size := by have := hb1.size; simp at this; omega
  have m1 : w1.cell? ⟨pb, 1, none⟩ = some (.map (some mb)) := (Hb1.out.cell (p := ⟨pb, 1, none⟩) q0).trans q2
  have u0 : w1.cell? ⟨x.blk, 0, none⟩ = some (.int .u8 (x.ty.sort.toNat : Int)) := (Hb1.out.cell (p := ⟨x.blk, 0, none⟩) z0).trans z1
  have u2 : w1.cell? ⟨x.blk, 2, none⟩ = some (.slice A8 x.ty.fields.length c) := (Hb1.out.cell (p := ⟨x.blk, 2, none⟩) z0).trans z3
  have Hlook := Lib.hid (fun q => Hlk.out (w1.drewN q) (Hb1.out.trans ((below_drewN (Below.refl _ _) q).mono Hb1.out.size)))
  clear hc1 hzz hb1 q2 z1 z3
  go_wp2_with fail
  refine wp_region_slots3 [20, 21, 22, 23, 24, 25, 26, 5] (by kernel_rfl) (by kernel_rfl) (by kernel_rfl) (fun u => by dsimp only [frameOf, setMany, List.set, Nat.zero_add, Nat.reduceAdd])
    (fun i v W => match i with | 0 => v = .pointer (some ⟨pb, 0, none⟩) | 1 => v = .pointer (some ⟨pb, 0, none⟩) | 2 => v = .pointer (some ⟨pb, 1, none⟩) | 3 => v = .map (some mb) | 4 => v = .pointer (some ⟨w.heap.size, 2, none⟩) | 5 => v = .string ⟨k.name.toArray⟩ | 6 => v = .pointer (some ⟨x.blk, 0, none⟩) | 7 => v = .pointer (some ⟨x.blk, 0, none⟩) | _ => True)
    (fun L U W => ∃ q, W = w1.drewN q) (fun _ _ => True) (fun _ _ _ _ _ h => h) (⟨1, rfl⟩) ?_ ?_
  · repeat (first | exact Steps.nil | (refine Steps.cons ?_ ?_; rotate_left))
    all_goals
      rintro L U W hL hpre hR hun hdep K hK
      have HR := Lib.hid hR
      obtain ⟨q, rfl⟩ := HR.out
      have hlq := Hlook.out q
      clear hun hdep hR
      first | (simp [Region.binds] at hpre; done) | simp [Region.binds] at hpre | clear hpre
    iterate 8
      · go_simp
        first | exact hK _ _ _ rfl trivial HR.out rfl | exact hK _ _ _ rfl trivial HR.out (by simp [Act.put, hpre]) | exact hK undef _ _ trivial trivial HR.out (by simp [Act.put, hpre]) | exact hK _ _ _ trivial trivial HR.out rfl | exact hK _ _ _ trivial trivial HR.out (by simp [Act.put, hpre])
  · rintro L U W hL hφ hR
    have e7 : U 7 = .pointer (some ⟨x.blk, 0, none⟩) := hφ 7 (by decide)
    simp only [e7]
    clear hφ
    obtain ⟨q, rfl⟩ := hR
    have Hbq := Lib.hid (Hb1.out.trans ((below_drewN (Below.refl w1.heap.size w1) q).mono Hb1.out.size))
    clear hL y1 y2 m1
    by_cases h82 : x.ty.sort = 82
    · have t82 : ((x.ty.sort.toNat : Int) == 82) = true := byte_eq (d := 82) h82
      have HF2 := Lib.hid (HF.out.trans (if_pos h82))
      clear h82 HF
      go_wp2_with fail
      go_ret
      exact ⟨by rw [HF2.out]; rfl, Hbq.out⟩
    · have t82 : ((x.ty.sort.toNat : Int) == 82) = false := byte_ne (d := 82) h82
      have HF2 := Lib.hid (HF.out.trans (if_neg h82))
      have hne : x.ty.fields ≠ [] := fun h => h82 (Hto.out.2.2.2.2 h)
      obtain ⟨f, fs, hfs⟩ : ∃ f fs, x.ty.fields = f :: fs := by
        cases h : x.ty.fields with
        | nil => exact absurd h hne
        | cons f fs => exact ⟨f, fs, rfl⟩
      have hf0 : 0 < x.ty.fields.length := by rw [hfs]; simp
      have hge : x.ty.fields[0] = f := by simp [hfs]
      have hft := Hto.out.2.2.1.1 f (by rw [hfs]; simp)
      have htag : f.tag ≤ 200 := hft.2.1
      have hdl := decB_len 2 f.tag (by have e : 10 ^ (2 + 1) = 1000 := rfl; omega)
      have Hd := Lib.hid (fun W => decimal_any f.tag f.tag W (Nat.le_refl _) (by omega))
      have hi0 : (0 : Int) < (x.ty.fields.length : Int) := by omega
      have HF3 := Lib.hid (show standN (ptysOf xs) (n + 1) k = if x.ty.sort = 69 then 35 :: decB f.tag else 60 :: (decB f.tag ++ 61 :: (standN (ptysOf xs) n f.kind ++ [62])) from by rw [HF2.out, hfs])
      have Hfs := Lib.hid hfs
      obtain ⟨b, off, rfl, hbl, hrg⟩ := IFds.range Hrow.out hf0
      rw [hge] at hrg
      have hrq := rangeAt_below hrg hbl Hbq.out
      simp only [Nat.zero_mul, Nat.add_zero] at hrq
      have g0 : (w1.drewN q).cell? ⟨b, off, none⟩ = some (.int .i64 (f.tag : Int)) := by simpa using rangeAt_cell hrq 0 rfl
      have G2 := Lib.hid (rangeAt_cell hrq 2 rfl)
      have G3 := Lib.hid (rangeAt_cell hrq 3 rfl)
      have G4 := Lib.hid (rangeAt_cell hrq 4 rfl)
      have H82 := Lib.hid h82
      clear HF2 HF h82 hne hfs hge hft hrg hrq
      by_cases h69 : x.ty.sort = 69
      · have t69 : ((x.ty.sort.toNat : Int) == 69) = true := byte_eq (d := 69) h69
        have HF4 := Lib.hid (HF3.out.trans (if_pos h69))
        clear h69 HF3
        go_wp2_with fail
        refine (Hd.out _).mono ?_
        rintro e w2 ⟨rfl, hb2⟩
        go_wp2_with fail
        go_ret
        exact ⟨by rw [HF4.out]; simp, Hbq.out.trans (hb2.mono Hbq.out.size)⟩
      · have t69 : ((x.ty.sort.toNat : Int) == 69) = false := byte_ne (d := 69) h69
        have HF4 := Lib.hid (HF3.out.trans (if_neg h69))
        have h85 : x.ty.sort = 85 := by
          rcases Hto.out.1 with h | h | h
          · exact absurd h H82.out
          · exact h
          · exact absurd h h69
        have Ih2 := Lib.hid (Ih.out h85 f fs Hfs.out)
        unfold kdV at Ih2
        have hsl := Hlen.out n f.kind
        generalize standN (ptysOf xs) n f.kind = sl at *
        clear h69 HF3 h85 Ih
        go_wp2_with fail
        obtain ⟨W0, hW0⟩ : ∃ W0, W0 = w1.drewN q := ⟨_, rfl⟩
        rw [← hW0] at Hbq g0 G2 G3 G4 ⊢
        have Y2 := Lib.hid (show W0.cell? ⟨x.blk, 2, none⟩ = some (.slice (some ⟨b, off, none⟩) x.ty.fields.length c) from by rw [hW0]; exact u2)
        have Y0 := Lib.hid g0
        have Y3 := Lib.hid (show W0.cell? ⟨b, off + 2, none⟩ = some (.string ⟨f.kind.signs.toArray⟩) from G2.out)
        have Y4 := Lib.hid (show W0.cell? ⟨b, off + 3, none⟩ = some (.string ⟨f.kind.base.toArray⟩) from G3.out)
        have Y5 := Lib.hid (show W0.cell? ⟨b, off + 4, none⟩ = some (.string ⟨f.kind.name.toArray⟩) from G4.out)
        have Hx5 := Lib.hid (show x.blk < W0.heap.size from Nat.lt_of_lt_of_le z0 Hbq.out.size)
        have Hb5 := Lib.hid (show b < W0.heap.size from Nat.lt_of_lt_of_le hbl Hbq.out.size)
        have Hsc0 := Lib.hid (Hsc.out.below Hbq.out)
        clear hW0 g0 u0 u2
        refine wp_region_slots3 [44, 45, 46, 47, 48, 49, 50, 51, 52, 53, 54, 55, 56, 57, 58, 59, 60, 61, 62, 63, 64, 4] (by kernel_rfl) (by kernel_rfl) (by kernel_rfl) (fun u => by dsimp only [frameOf, setMany, List.set, Nat.zero_add, Nat.reduceAdd])
          (fun i v W => match i with | 0 => v = .pointer (some ⟨x.blk, 0, none⟩) | 1 => v = .pointer (some ⟨x.blk, 0, none⟩) | 2 => v = .pointer (some ⟨x.blk, 2, none⟩) | 3 => v = .slice (some ⟨b, off, none⟩) x.ty.fields.length c | 4 => v = .pointer (some ⟨b, off, none⟩) | 5 => v = .pointer (some ⟨b, off, none⟩) | 6 => v = .int .i64 (f.tag : Int) | 7 => v = .string ⟨(decB f.tag).toArray⟩ | 8 => v = .string ⟨(60 :: decB f.tag).toArray⟩ | 9 => v = .string ⟨(60 :: (decB f.tag ++ [61])).toArray⟩ | 10 => v = .pointer (some ⟨pb, 0, none⟩) | 11 => v = .pointer (some ⟨x.blk, 0, none⟩) | 12 => v = .pointer (some ⟨x.blk, 0, none⟩) | 13 => v = .pointer (some ⟨x.blk, 2, none⟩) | 14 => v = .slice (some ⟨b, off, none⟩) x.ty.fields.length c | 15 => v = .pointer (some ⟨b, off, none⟩) | 16 => v = .pointer (some ⟨b, off + 2, none⟩) | 17 => v = .agg #[.string ⟨f.kind.signs.toArray⟩, .string ⟨f.kind.base.toArray⟩, .string ⟨f.kind.name.toArray⟩] | 18 => v = .string ⟨(sl).toArray⟩ | 19 => v = .string ⟨(60 :: (decB f.tag ++ 61 :: sl)).toArray⟩ | 20 => v = .string ⟨(60 :: (decB f.tag ++ 61 :: (sl ++ [62]))).toArray⟩ | 21 => v = .string ⟨(60 :: (decB f.tag ++ 61 :: (sl ++ [62]))).toArray⟩ | _ => True)
          (fun L U W => Below W0.heap.size W0 W) (fun _ _ => True) (fun _ _ _ _ _ h => h) ((Below.refl _ _).drew) ?_ ?_
        · repeat (first | exact Steps.nil | (refine Steps.cons ?_ ?_; rotate_left))
          all_goals
            rintro L U W hL hpre hR hun hdep K hK
            have HR := Lib.hid hR
            have hB := HR.out
            have c2 := (hB.cell (p := ⟨x.blk, 2, none⟩) Hx5.out).trans Y2.out
            have c0 := (hB.cell (p := ⟨b, off, none⟩) Hb5.out).trans Y0.out
            have c3 := (hB.cell (p := ⟨b, off + 2, none⟩) Hb5.out).trans Y3.out
            have c4 := (hB.cell (p := ⟨b, off + 3, none⟩) Hb5.out).trans Y4.out
            have c5 := (hB.cell (p := ⟨b, off + 4, none⟩) Hb5.out).trans Y5.out
            have c4' : W.cell? ⟨b, off + 2 + 1, none⟩ = _ := c4
            have c5' : W.cell? ⟨b, off + 2 + 1 + 1, none⟩ = _ := c5
            have c5'' : W.cell? ⟨b, off + 2 + 2, none⟩ = _ := c5
            clear hun hdep hR
            first | (simp [Region.binds] at hpre; done) | simp [Region.binds] at hpre | clear hpre
          iterate 7
            · go_simp
              first | exact hK _ _ _ rfl trivial HR.out rfl | exact hK _ _ _ rfl trivial HR.out (by simp [Act.put, hpre]) | exact hK undef _ _ trivial trivial HR.out (by simp [Act.put, hpre]) | exact hK _ _ _ trivial trivial HR.out rfl | exact hK _ _ _ trivial trivial HR.out (by simp [Act.put, hpre])
          · go_simp
            refine (Hd.out _).mono ?_
            rintro e w3 ⟨rfl, hb3⟩
            exact hK _ _ _ rfl trivial (hB.trans (hb3.mono hB.size)) (by simp [Act.put, hpre])
          · go_simp
            rw [if_neg (by first | omega | (simp; omega))]
            go_simp
            first | exact hK _ _ _ rfl trivial HR.out rfl | exact hK _ _ _ rfl trivial HR.out (by simp [Act.put, hpre])
          · go_simp
            rw [if_neg (by first | omega | (simp; omega))]
            go_simp
            first | exact hK _ _ _ rfl trivial HR.out rfl | exact hK _ _ _ rfl trivial HR.out (by simp [Act.put, hpre])
          iterate 8
            · go_simp
              first | exact hK _ _ _ rfl trivial HR.out rfl | exact hK _ _ _ rfl trivial HR.out (by simp [Act.put, hpre]) | exact hK undef _ _ trivial trivial HR.out (by simp [Act.put, hpre]) | exact hK _ _ _ trivial trivial HR.out rfl | exact hK _ _ _ trivial trivial HR.out (by simp [Act.put, hpre])
          · go_simp
            refine (Ih2.out _ (Hsc0.out.below hB)).mono ?_
            rintro e w3 ⟨rfl, hb3⟩
            exact hK _ _ _ rfl trivial (hB.trans (hb3.mono hB.size)) (by simp [Act.put, hpre])
          · go_simp
            rw [if_neg (by first | omega | (simp; omega))]
            go_simp
            first | exact hK _ _ _ rfl trivial HR.out rfl | exact hK _ _ _ rfl trivial HR.out (by simp [Act.put, hpre])
          · go_simp
            rw [if_neg (by first | omega | (simp; omega))]
            go_simp
            first | exact hK _ _ _ rfl trivial HR.out rfl | exact hK _ _ _ rfl trivial HR.out (by simp [Act.put, hpre])
          · go_simp
            first | exact hK _ _ _ rfl trivial HR.out rfl | exact hK _ _ _ rfl trivial HR.out (by simp [Act.put, hpre]) | exact hK undef _ _ trivial trivial HR.out (by simp [Act.put, hpre]) | exact hK _ _ _ trivial trivial HR.out rfl | exact hK _ _ _ trivial trivial HR.out (by simp [Act.put, hpre])
        · rintro L U W hL hφ hR
          have e21 : U 21 = .string ⟨(60 :: (decB f.tag ++ 61 :: (sl ++ [62]))).toArray⟩ := hφ 21 (by decide)
          simp only [e21]
          clear hφ
          have Hb9 := Lib.hid (Hbq.out.trans (hR.mono Hbq.out.size))
          clear hR
          go_wp2_with fail
          go_ret
          exact ⟨by rw [HF4.out]; rfl, Hb9.out⟩
end Go.Proofs.YtdhinlhafoiaiaaGreatDoor
/- The program's standing values: of each kind, of each field. -/
namespace Go.Proofs.YtdhinlhafoiaiaaGreatDoor
open Go.RowKit
set_option maxRecDepth 100000
set_option linter.unusedVariables false
set_option linter.unusedSimpArgs false
attribute [local go_sem] ba_get ba_toList ba_extract take_drop_all ByteArray.mk_append_mk

theorem iStands_base (p : Value) (S : List Ty) (n : Nat) (k : Kd) (w : World) (hk : kdOk k) (h : ¬ (k.signs = [] ∧ k.base = [64])) :
    Calls Tryz.prog 189 #[p, kdV k] w (SdPost (standN S (n + 1) k) w) := by
  unfold kdV
  cases hs : k.signs with
  | cons c t =>
    have hc := sign_cases hk hs
    have hl := hk.2.2
    unfold kdB at hl
    rw [hs] at hl
    rw [standN_sign _ _ k c t hs hc]
    exact iStands_sign p c t _ _ w hc (by simp at hl; omega)
  | nil =>
    have hb : k.base ≠ [64] := fun hb => h ⟨hs, hb⟩
    rw [standN_letter _ _ k hs (kd_letter hk hs hb).2]
    exact iStands_letter p k.base _ w (kd_letter hk hs hb).2
theorem iStands_any (p : Value) (xs : List PT) (hok : ∀ x ∈ xs, tyOk x.ty) (hS : kindsOk (ptysOf xs)) : ∀ (n : Nat), n ≤ 9 → ∀ (k : Kd) (w : World), ISc w p xs → kdOk k → refOk (ptysOf xs) k → kdEnds (ptysOf xs) n k →
    Calls Tryz.prog 189 #[p, kdV k] w (SdPost (standN (ptysOf xs) (n + 1) k) w) := by
  intro n
  induction n with
  | zero =>
    intro _ k w hsc hk hr he
    refine iStands_base p _ 0 k w hk (fun h => ?_)
    obtain ⟨t, _, h2⟩ := he h.1 h.2
    exact absurd h2 (by simp [endsN])
  | succ n ih =>
    intro hn k w hsc hk hr he
    by_cases hsb : k.signs = [] ∧ k.base = [64]
    · obtain ⟨hs, hb⟩ := hsb
      have h1 := hr hb
      rw [findP_ty] at h1
      cases hx : findP xs k.name with
      | none => rw [hx] at h1; cases h1
      | some x =>
        have hft : findTy (ptysOf xs) k.name = some x.ty := (findP_mem hx).2.2
        have hto : tyOk x.ty := hok _ (findP_mem hx).1
        refine iStands_name p xs hok (n + 1) k w hsc hk hs hb x hx hn (fun h85 f fs hfs W hW => ?_)
        have hrf : refOk (ptysOf xs) f.kind := hS x.ty (findTy_some hft).1 (by rw [h85]; decide) f (by rw [hfs]; simp)
        have hkf : kdOk f.kind := ((hto.2.2.1.1 f (by rw [hfs]; simp)).2.2.2.2 (by rw [h85]; decide)).1
        exact ih (by omega) f.kind W hW hkf hrf (kdEnds_next he hs hb hft h85 hfs hrf)
    · exact iStands_base p _ (n + 1) k w hk hsb
theorem iStandL_any (p : Value) (xs : List PT) (h : scOk (ptysOf xs)) (k : Kd) (w : World) (hsc : ISc w p xs) (hk : kdOk k) (hr : refOk (ptysOf xs) k) :
    Calls Tryz.prog 189 #[p, kdV k] w (SdPost (standL (ptysOf xs) k) w) :=
  iStands_any p xs (fun x hx => h.1.1 x.ty (List.mem_map_of_mem hx)) h.2.1 9 (Nat.le_refl _) k w hsc hk hr (kdEnds_ok h hr)

set_option maxHeartbeats 1000000 in
theorem iOf_any (p : Value) (xs : List PT) (h : scOk (ptysOf xs)) (f : Fd) (b o : Nat) (w : World) (hsc : ISc w p xs) (hf : w.rangeAt b o (ifc f)) (hk : kdOk f.kind) (hr : refOk (ptysOf xs) f.kind) (hl : f.given.length ≤ 1000) :
    Calls Tryz.prog 165 #[p, .pointer (some ⟨b, o, none⟩)] w (SdPost (ofL (ptysOf xs) f) w) := by
  have HF := Lib.hid (show ofL (ptysOf xs) f = if f.given = [] then standL (ptysOf xs) f.kind else f.given from rfl)
  have Hs := Lib.hid (fun W (h1 : ISc W p xs) => iStandL_any p xs h f.kind W h1 hk hr)
  have Hsc := Lib.hid hsc
  unfold kdV at Hs
  have c2 : w.cell? ⟨b, o + 2, none⟩ = some (.string ⟨f.kind.signs.toArray⟩) := rangeAt_cell hf 2 rfl
  have c3 : w.cell? ⟨b, o + 3, none⟩ = some (.string ⟨f.kind.base.toArray⟩) := rangeAt_cell hf 3 rfl
  have c4 : w.cell? ⟨b, o + 4, none⟩ = some (.string ⟨f.kind.name.toArray⟩) := rangeAt_cell hf 4 rfl
  have c5 : w.cell? ⟨b, o + 5, none⟩ = some (.string ⟨f.given.toArray⟩) := rangeAt_cell hf 5 rfl
  have c3' : w.cell? ⟨b, o + 2 + 1, none⟩ = some (.string ⟨f.kind.base.toArray⟩) := c3
  have c4' : w.cell? ⟨b, o + 2 + 1 + 1, none⟩ = some (.string ⟨f.kind.name.toArray⟩) := c4
  have c4'' : w.cell? ⟨b, o + 2 + 2, none⟩ = some (.string ⟨f.kind.name.toArray⟩) := c4
  clear h hk hr hsc hf
  by_cases hg : f.given = []
  · have HF2 := Lib.hid (HF.out.trans (if_pos hg))
    rw [hg] at c5
    clear hg HF
    go_enter Tryz.func165, Tryz.ntmps165
    go_wp2_with fail
    refine (Hs.out _ Hsc.out).mono ?_
    rintro e w1 ⟨rfl, hb1⟩
    go_wp2_with fail
    go_ret
    exact ⟨by rw [HF2.out]; rfl, hb1⟩
  · have HF2 := Lib.hid (HF.out.trans (if_neg hg))
    have t1 : f.given.isEmpty = false := by simpa using hg
    have t2 : (!f.given.isEmpty) = true := by simp [t1]
    clear hg HF
    go_enter Tryz.func165, Tryz.ntmps165
    go_wp2_with fail
    go_ret
    exact ⟨by rw [HF2.out]; rfl, Below.refl _ _⟩
end Go.Proofs.YtdhinlhafoiaiaaGreatDoor
/- Plain laws of evolution: what reads what, with what was asked in mind; a kind reads itself. No program in sight. -/
namespace Go.Proofs.YtdhinlhafoiaiaaGreatDoor

abbrev Pair := Name × Name
/-- The fields of an older type, one by one, where K tells of kinds. -/
def evF (S T : List Ty) (K : Kd → Kd → List Pair → Bool × List Pair) (t : Ty) (st : UInt8) : List Fd → List Pair → Bool × List Pair
  | [], m => (true, m)
  | g :: gs, m => match fieldT t.fields g.tag with
    | none => if st = 82 then evF S T K t st gs m else (false, m)
    | some f => if st = 69 then evF S T K t st gs m else
        if (K f.kind g.kind m).1 = false then (false, (K f.kind g.kind m).2)
        else if st = 82 ∧ ofL S f ≠ ofL T g then (false, (K f.kind g.kind m).2)
        else evF S T K t st gs (K f.kind g.kind m).2
/-- A type reads another one. -/
def evT (S T : List Ty) (K : Kd → Kd → List Pair → Bool × List Pair) (t u : Ty) (m : List Pair) : Bool × List Pair :=
  if t.sort ≠ u.sort then (false, m) else evF S T K t u.sort u.fields m
/-- A kind reads another one; m: the types that were asked for. -/
def evK (S T : List Ty) : Nat → Kd → Kd → List Pair → Bool × List Pair
  | 0, _, _, m => (true, m)
  | n + 1, a, b, m =>
    if a.signs ≠ b.signs ∨ a.base ≠ b.base then (false, m)
    else if a.base ≠ [64] then (true, m)
    else match findTy S a.name, findTy T b.name with
      | some t, some u => if (a.name, b.name) ∈ m then (true, m) else evT S T (evK S T n) t u (m ++ [(a.name, b.name)])
      | _, _ => (false, m)

/-- What was asked for: types of both, each pair once. -/
def Asks (S T : List Ty) (m : List Pair) : Prop := m.Nodup ∧ ∀ p ∈ m, p.1 ∈ namesOf S ∧ p.2 ∈ namesOf T
theorem Asks.nil (S T : List Ty) : Asks S T [] := ⟨List.nodup_nil, by simp⟩
theorem Asks.snoc {S T : List Ty} {m : List Pair} {a b : Name} (h : Asks S T m) (ha : a ∈ namesOf S) (hb : b ∈ namesOf T) (hn : (a, b) ∉ m) : Asks S T (m ++ [(a, b)]) := by
  refine ⟨?_, ?_⟩
  · rw [List.nodup_append]
    refine ⟨h.1, by simp, ?_⟩
    intro x hx y hy
    simp only [List.mem_singleton] at hy
    subst hy
    rintro rfl
    exact hn hx
  · intro p hp
    rcases List.mem_append.1 hp with hp | hp
    · exact h.2 p hp
    · simp only [List.mem_singleton] at hp
      subst hp
      exact ⟨ha, hb⟩
theorem sub_lenP : ∀ (l m : List Pair), l.Nodup → (∀ x ∈ l, x ∈ m) → l.length ≤ m.length
  | [], m, _, _ => by simp
  | x :: l, m, hn, hs => by
    have hx := hs x (by simp)
    have := sub_lenP l (m.erase x) (List.nodup_cons.1 hn).2 (fun y hy => (List.mem_erase_of_ne (by rintro rfl; exact (List.nodup_cons.1 hn).1 hy)).2 (hs y (by simp [hy])))
    rw [List.length_erase_of_mem hx] at this
    have := List.length_pos_of_mem hx
    simp only [List.length_cons]; omega
def prodN (a b : List Name) : List Pair := a.flatMap fun x => b.map fun y => (x, y)
theorem prodN_len (b : List Name) : ∀ a, (prodN a b).length = a.length * b.length
  | [] => by simp [prodN]
  | x :: a => by
    have := prodN_len b a
    unfold prodN at this ⊢
    rw [List.flatMap_cons, List.length_append, List.length_map, this, List.length_cons, Nat.add_mul]; omega
theorem Asks.len {S T : List Ty} {m : List Pair} (h : Asks S T m) : m.length ≤ S.length * T.length := by
  have := sub_lenP m (prodN (namesOf S) (namesOf T)) h.1 (fun x hx => by
    obtain ⟨a, b⟩ := x
    have := h.2 _ hx
    unfold prodN
    rw [List.mem_flatMap]
    exact ⟨a, this.1, List.mem_map.2 ⟨b, this.2, rfl⟩⟩)
  rw [prodN_len] at this
  simpa [namesOf] using this

/-- What kinds do to what was asked: it grows, and stays good. -/
def Grows (S T : List Ty) (K : Kd → Kd → List Pair → Bool × List Pair) : Prop := ∀ a b m, Asks S T m → Asks S T (K a b m).2 ∧ ∃ l, (K a b m).2 = m ++ l
theorem evF_grows {S T : List Ty} {K : Kd → Kd → List Pair → Bool × List Pair} (hK : Grows S T K) (t : Ty) (st : UInt8) : ∀ (gs : List Fd) (m : List Pair), Asks S T m → Asks S T (evF S T K t st gs m).2 ∧ ∃ l, (evF S T K t st gs m).2 = m ++ l
  | [], m, h => ⟨h, [], by simp [evF]⟩
  | g :: gs, m, h => by
    unfold evF
    cases fieldT t.fields g.tag with
    | none =>
      simp only
      split
      · exact evF_grows hK t st gs m h
      · exact ⟨h, [], by simp⟩
    | some f =>
      simp only
      split
      · exact evF_grows hK t st gs m h
      · obtain ⟨h1, l1, e1⟩ := hK f.kind g.kind m h
        split
        · exact ⟨h1, l1, e1⟩
        · split
          · exact ⟨h1, l1, e1⟩
          · obtain ⟨h2, l2, e2⟩ := evF_grows hK t st gs _ h1
            exact ⟨h2, l1 ++ l2, by rw [e2, e1, List.append_assoc]⟩
theorem evK_grows (S T : List Ty) : ∀ n, Grows S T (evK S T n)
  | 0 => fun a b m h => ⟨h, [], by simp [evK]⟩
  | n + 1 => fun a b m h => by
    unfold evK
    split
    · exact ⟨h, [], by simp⟩
    · split
      · exact ⟨h, [], by simp⟩
      · cases hs : findTy S a.name with
        | none => exact ⟨h, [], by simp⟩
        | some t => cases ht : findTy T b.name with
          | none => exact ⟨h, [], by simp⟩
          | some u =>
            simp only
            split
            · exact ⟨h, [], by simp⟩
            · rename_i hn
              have h1 := h.snoc (findTy_isSome.1 (by rw [hs]; rfl)) (findTy_isSome.1 (by rw [ht]; rfl)) hn
              unfold evT
              split
              · exact ⟨h1, _, rfl⟩
              · obtain ⟨h2, l2, e2⟩ := evF_grows (evK_grows S T n) t u.sort u.fields _ h1
                exact ⟨h2, [(a.name, b.name)] ++ l2, by rw [e2]; simp⟩

/-- A kind reads another one. -/
def readsK (S T : List Ty) (a b : Kd) : Bool := (evK S T 65 a b []).1
/-- .. as texts. -/
def evolveL (x y : Option (List Ty × Kd)) : Bool := match x, y with
  | some (S, a), some (T, b) => readsK S T a b
  | _, _ => false

/-! ### a kind reads itself -/
theorem evF_self {S : List Ty} {K : Kd → Kd → List Pair → Bool × List Pair} {t : Ty} (hd : t.fields.Pairwise fun g f => g.name ≠ f.name ∧ g.tag < f.tag) (hK : ∀ f ∈ t.fields, ∀ m, t.sort ≠ 69 → (K f.kind f.kind m).1 = true) :
    ∀ (gs : List Fd), (∀ g ∈ gs, g ∈ t.fields) → ∀ m, (evF S S K t t.sort gs m).1 = true
  | [], _, m => rfl
  | g :: gs, hg, m => by
    have hgm := hg g (by simp)
    have hf : fieldT t.fields g.tag = some g := by
      cases h : fieldT t.fields g.tag with
      | none =>
        have := List.find?_eq_none.1 h g hgm
        simp at this
      | some f =>
        have hm := List.mem_of_find?_eq_some h
        have ht := List.find?_some h
        simp only [decide_eq_true_eq] at ht
        obtain ⟨i, hi, rfl⟩ := List.mem_iff_getElem.1 hm
        obtain ⟨j, hj, rfl⟩ := List.mem_iff_getElem.1 hgm
        rw [List.pairwise_iff_getElem] at hd
        rcases Nat.lt_trichotomy i j with hij | hij | hij
        · have := (hd i j hi hj hij).2; omega
        · subst hij; rfl
        · have := (hd j i hj hi hij).2; omega
    unfold evF
    rw [hf]
    simp only
    have ih := evF_self (S := S) hd hK gs (fun x hx => hg x (by simp [hx]))
    split
    · exact ih m
    · rename_i hs
      rw [if_neg (by rw [hK g hgm m hs]; decide), if_neg (by simp)]
      exact ih _
theorem evK_self {S : List Ty} (hS : scOk S) : ∀ (n : Nat) (k : Kd) (m : List Pair), refOk S k → (evK S S n k k m).1 = true
  | 0, _, _, _ => rfl
  | n + 1, k, m, hr => by
    unfold evK
    rw [if_neg (by simp)]
    split
    · rfl
    · rename_i hb
      have hb' : k.base = [64] := by simpa using hb
      have h1 := hr hb'
      cases h : findTy S k.name with
      | none => rw [h] at h1; cases h1
      | some t =>
        simp only
        split
        · rfl
        · have htm := (findTy_some h).1
          have hto := hS.1.1 t htm
          unfold evT
          rw [if_neg (by simp)]
          exact evF_self hto.2.2.1.2 (fun f hf m' hs => evK_self hS n f.kind m' (hS.2.1 t htm hs f hf)) t.fields (fun _ h => h) _
theorem readsK_self {S : List Ty} (hS : scOk S) {k : Kd} (hr : refOk S k) : readsK S S k k = true := evK_self hS 65 k [] hr
end Go.Proofs.YtdhinlhafoiaiaaGreatDoor
/- What the program's evolution keeps while it asks: two schemas, and a map of the pairs that were asked for. -/
namespace Go.Proofs.YtdhinlhafoiaiaaGreatDoor
open Go.RowKit
set_option maxRecDepth 100000
set_option linter.unusedVariables false
set_option linter.unusedSimpArgs false

theorem Tryz.laidOutI : laidOutB Tryz.prog = true := by kernel_rfl
/-- A pair of names as a key. -/
def pairK (p : Pair) : List UInt8 := keyBytes [.string p.1, .string p.2]
theorem Tryz.keyPairs : Go.Maps.Keyed Tryz.prog 207 := Go.Maps.Keyed.of_law (deep_law_laid Tryz.laidOutI (m := 2) (by omega) (of_decide_eq_true (by kernel_rfl)) (by kernel_rfl) (by kernel_rfl))
theorem Tryz.typesPos : 0 < Tryz.prog.types.size := of_decide_eq_true (by kernel_rfl)
theorem pairK_inj {p q : Pair} (hp : p.1.length ≤ 100 ∧ p.2.length ≤ 100) (hq : q.1.length ≤ 100 ∧ q.2.length ≤ 100) (h : pairK p = pairK q) : p = q := by
  have := keyBytes_inj (l := [.string p.1, .string p.2]) (l' := [.string q.1, .string q.2]) ⟨trivial, trivial, trivial⟩
    (by intro a ha; simp at ha; rcases ha with rfl | rfl <;> (unfold Lit.keyWf maxLen; omega)) (by intro a ha; simp at ha; rcases ha with rfl | rfl <;> (unfold Lit.keyWf maxLen; omega)) h
  simp at this
  exact Prod.ext this.1 this.2
theorem Tryz.keyPair {a b : Name} (ha : a.length ≤ 100) (hb : b.length ≤ 100) : keyOf Tryz.prog 207 (.agg #[.string ⟨a.toArray⟩, .string ⟨b.toArray⟩]) = some (.string (pairK (a, b))) := by
  have hkt : Tryz.prog.keyType 207 = true := by kernel_rfl
  have hc : Tryz.prog.cellsOf 207 = 2 := by kernel_rfl
  have hs : Tryz.prog.cellsOf 9 = 1 := by kernel_rfl
  have h0 : 0 < Tryz.prog.types.size := Tryz.typesPos
  obtain ⟨d, hd⟩ := Nat.exists_eq_succ_of_ne_zero (Nat.pos_iff_ne_zero.1 h0)
  have e1 : (⟨a.toArray⟩ : ByteArray).size = a.length := by simp [ByteArray.size]
  have e2 : (⟨b.toArray⟩ : ByteArray).size = b.length := by simp [ByteArray.size]
  have l1 : a.length ≤ 9223372036854775807 := by omega
  have l2 : b.length ≤ 9223372036854775807 := by omega
  unfold keyOf
  simp only [Tryz.underlying207]
  have hL : Tryz.prog.keyLits (Tryz.prog.types.size + 1) 207 [.string ⟨a.toArray⟩, .string ⟨b.toArray⟩] = some [.string a, .string b] := by
    rw [hd]
    simp only [Program.keyLits, Tryz.underlying207, Tryz.underlying9, hc, hs, e1, e2, maxLen]
    simp [Program.keyLits, Tryz.underlying207, Tryz.underlying9, hc, hs, e1, e2, l1, l2, maxLen]
  have hf : (Value.agg #[.string ⟨a.toArray⟩, .string ⟨b.toArray⟩]).formed Tryz.prog 207 = true := by
    simp [Value.formed, Tryz.underlying207, hc]
  simp only [hkt, hf, Bool.and_self, if_true, Value.cells, hL, Option.map_some]
  rfl

/-- What the map of pairs gives. -/
def askedF (m : List Pair) (l : Lit) : Value := .bool (m.any fun p => l.sameKey (.string (pairK p)))
theorem askedF_snoc (m : List Pair) (p : Pair) (l : Lit) : (if l.sameKey (.string (pairK p)) = true then .bool true else askedF m l) = askedF (m ++ [p]) l := by
  unfold askedF
  rw [List.any_append]
  cases h : l.sameKey (.string (pairK p)) <;> simp [h]
theorem askedF_at {m : List Pair} {p : Pair} (hp : p.1.length ≤ 100 ∧ p.2.length ≤ 100) (hm : ∀ q ∈ m, q.1.length ≤ 100 ∧ q.2.length ≤ 100) : askedF m (.string (pairK p)) = .bool (decide (p ∈ m)) := by
  unfold askedF
  congr 1
  rw [Bool.eq_iff_iff, List.any_eq_true, decide_eq_true_eq]
  constructor
  · rintro ⟨q, hq, h⟩
    have : pairK p = pairK q := by simpa [Lit.sameKey] using h
    rw [pairK_inj hp (hm q hq) this]; exact hq
  · intro h
    exact ⟨p, h, by simp [Lit.sameKey]⟩
theorem Tryz.zeroBool (w : World) : (zeroValue 4).run Tryz.prog w = .ok (.bool false) w := by kernel_rfl

/-- The map of pairs lies at block w0.heap.size, the question's struct behind it. -/
def IAskSt (w0 : World) (p1 p2 : Value) (w : World) (m : List Pair) : Prop :=
  Below w0.heap.size w0 w ∧ w0.heap.size + 2 ≤ w.heap.size ∧ w.cell? ⟨w0.heap.size + 1, 0, none⟩ = some p1 ∧ w.cell? ⟨w0.heap.size + 1, 1, none⟩ = some p2 ∧ w.cell? ⟨w0.heap.size + 1, 2, none⟩ = some (.map (some w0.heap.size)) ∧
    FMap Tryz.prog 207 (.bool false) w w0.heap.size m.length (askedF m)
theorem IAskSt.below {w0 w w' : World} {p1 p2 : Value} {m : List Pair} (h : IAskSt w0 p1 p2 w m) (hb : Below w.heap.size w w') : IAskSt w0 p1 p2 w' m := by
  obtain ⟨h1, h2, h3, h4, h5, h6⟩ := h
  exact ⟨h1.trans (hb.mono (by omega)), Nat.le_trans h2 hb.size, (hb.cell (p := ⟨w0.heap.size + 1, 0, none⟩) (show w0.heap.size + 1 < _ by omega)).trans h3, (hb.cell (p := ⟨w0.heap.size + 1, 1, none⟩) (show w0.heap.size + 1 < _ by omega)).trans h4,
    (hb.cell (p := ⟨w0.heap.size + 1, 2, none⟩) (show w0.heap.size + 1 < _ by omega)).trans h5, h6.below hb⟩
theorem grown_of_below {w w' : World} (h : Below w.heap.size w w') (row : Option Nat) : w.grownBy w' row := ⟨h.os, h.tape, h.output, h.size, fun k hk _ => h.block k hk⟩
theorem IAskSt.push {w0 w w5 : World} {p1 p2 : Value} {m : List Pair} {p : Pair} (h : IAskSt w0 p1 p2 w m) (hg : w.grownBy w5 (some w0.heap.size)) (hf : FMap Tryz.prog 207 (.bool false) w5 w0.heap.size (m.length + 1) (fun l => if l.sameKey (.string (pairK p)) = true then .bool true else askedF m l)) : IAskSt w0 p1 p2 w5 (m ++ [p]) := by
  obtain ⟨h1, h2, h3, h4, h5, h6⟩ := h
  have hc : ∀ j, w5.cell? ⟨w0.heap.size + 1, j, none⟩ = w.cell? ⟨w0.heap.size + 1, j, none⟩ := fun j => hg.cell_far ⟨w0.heap.size + 1, j, none⟩ (show w0.heap.size + 1 < _ by omega) (by simp)
  refine ⟨h1.grown hg (by omega) (fun k hk => by injection hk with hk; omega), Nat.le_trans h2 hg.size, (hc 0).trans h3, (hc 1).trans h4, (hc 2).trans h5, ?_⟩
  rw [List.length_append]
  exact hf.of_eq (fun l hl => askedF_snoc m p l)
/-- What asking leaves. -/
def IaPost (w0 : World) (p1 p2 : Value) (r : Bool × List Pair) (w : World) (e : Ending) (w' : World) : Prop := e = .returned (.bool r.1) ∧ IAskSt w0 p1 p2 w' r.2 ∧ w.grownBy w' (some w0.heap.size)
/-- A type reads another one, by name first. -/
def evP (S T : List Ty) (K : Kd → Kd → List Pair → Bool × List Pair) (t u : Ty) (m : List Pair) : Bool × List Pair :=
  if (t.name, u.name) ∈ m then (true, m) else evT S T K t u (m ++ [(t.name, u.name)])
end Go.Proofs.YtdhinlhafoiaiaaGreatDoor
