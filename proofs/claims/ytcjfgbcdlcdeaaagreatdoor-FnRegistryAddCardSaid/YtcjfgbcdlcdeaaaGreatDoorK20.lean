/- Texts joined: IStand2, IStand3, IAsk, IAskK. Conditions: as each theorem names them. -/
import Derived.DeepKeys4
import Derived.Test.YtcjfgbcdlcdeaaaGreatDoorK15
import Derived.Test.YtcjfgbcdlcdeaaaGreatDoorK19
/- The program's standing values, of kinds that name a type. -/
namespace Go.Proofs.YtcjfgbcdlcdeaaaGreatDoor
open Go.RowKit
set_option maxRecDepth 100000
set_option linter.unusedVariables false
set_option linter.unusedSimpArgs false
attribute [local go_sem] ba_get ba_toList ba_extract take_drop_all ByteArray.mk_append_mk

set_option maxHeartbeats 2000000 in
theorem iStands_name (p : Value) (xs : List PT) (hok : ∀ y ∈ xs, tyOk y.ty) (n : Nat) (k : Kd) (w : World) (hsc : ISc w p xs) (hk : kdOk k) (hs : k.signs = []) (hb : k.base = [64]) (x : PT) (hx : findP xs k.name = some x)
    (hn : n ≤ 9) (ih : x.ty.sort = 85 → ∀ f fs, x.ty.fields = f :: fs → ∀ W, ISc W p xs → Calls Tryz.prog 107 #[p, kdV f.kind] W (SdPost (standN (ptysOf xs) n f.kind) W)) :
    Calls Tryz.prog 107 #[p, kdV k] w (SdPost (standN (ptysOf xs) (n + 1) k) w) := by
  have Hlen := Lib.hid (standN_len (ptysOf xs) (fun t ht => by obtain ⟨y, hy, rfl⟩ := List.mem_map.1 ht; exact hok y hy))
  have HF := Lib.hid (show standN (ptysOf xs) (n + 1) k = if x.ty.sort = 82 then [123, 125] else match x.ty.fields with | [] => [] | f :: _ => if x.ty.sort = 69 then 35 :: decB f.tag else 60 :: (decB f.tag ++ 61 :: (standN (ptysOf xs) n f.kind ++ [62])) from by
    rw [standN, if_neg (by rw [hs]; decide), if_neg (by rw [hs]; decide), if_neg (by rw [hb]; decide), if_neg (by rw [hb]; decide), if_neg (by rw [hb]; decide), findP_ty, hx]; rfl)
  have hxm := (findP_mem hx).1
  have Hto := Lib.hid (hok _ hxm)
  have hnl := name_short hk
  have Hsc := Lib.hid hsc
  obtain ⟨pb, A, cc, mb, rfl, q0, q1, q2, q3, q4, htys, _⟩ := hsc
  obtain ⟨z0, _, z1, z2, z3, z4, A8, c, hz8, hl8', hrow8⟩ := htys x hxm
  rw [hz8] at z3
  have Hrow := Lib.hid hrow8
  have Ih := Lib.hid ih
  have Hlk := Lib.hid (fun W (h : Below w.heap.size w W) => show (Instr.lookup 174 (.map (some mb)) (.string ⟨k.name.toArray⟩) false).run Tryz.prog W = .ok (.pointer (some ⟨x.blk, 0, none⟩)) W from by
    have := named_look (FMap.below q4 h) k.name (by omega); rw [hx] at this; exact this)
  have hmb := q4.lt
  unfold kdV
  rw [hs, hb]
  clear hk hs hb hx q1 q3 q4 htys hrow8 ih hok hz8 z2 z4 hxm
  go_enter Tryz.func107, Tryz.ntmps107
  go_wp2_with fail
  refine (iSign_nil _ _ _).mono ?_
  rintro e w1 ⟨rfl, hb1⟩
  obtain ⟨hc1, _, hzz⟩ := bcell hb1
  have y1 : w1.cell? ⟨w.heap.size, 1, none⟩ = some (.string ⟨#[64]⟩) := (hc1 w.heap.size 1 (by simp)).trans (by simp)
  have y2 : w1.cell? ⟨w.heap.size, 2, none⟩ = some (.string ⟨k.name.toArray⟩) := (hc1 w.heap.size 2 (by simp)).trans (by simp)
  have Hb1 := Lib.hid (show Below w.heap.size w w1 from ((Below.refl w.heap.size w).alloc (Nat.le_refl _) _).trans (hb1.mono (by simp)))
  have hz1 : w.heap.size < w1.heap.size := by have := hb1.size; simp at this; omega
  have m1 : w1.cell? ⟨pb, 1, none⟩ = some (.map (some mb)) := (Hb1.out.cell (p := ⟨pb, 1, none⟩) q0).trans q2
  have u0 : w1.cell? ⟨x.blk, 0, none⟩ = some (.int .u8 (x.ty.sort.toNat : Int)) := (Hb1.out.cell (p := ⟨x.blk, 0, none⟩) z0).trans z1
  have u2 : w1.cell? ⟨x.blk, 2, none⟩ = some (.slice A8 x.ty.fields.length c) := (Hb1.out.cell (p := ⟨x.blk, 2, none⟩) z0).trans z3
  have Hlook := Lib.hid (fun q => Hlk.out (w1.drewN q) (Hb1.out.trans ((below_drewN (Below.refl _ _) q).mono Hb1.out.size)))
  clear hc1 hzz hb1 q2 z1 z3
  go_wp2_with fail
  refine wp_region_slots3 [20, 21, 22, 23, 24, 25, 26, 5] (by kernel_rfl) (by kernel_rfl) (by kernel_rfl) (fun u => by dsimp only [frameOf, setMany, List.set, Nat.zero_add, Nat.reduceAdd])
    (fun i v W => match i with | 0 => v = .pointer (some ⟨pb, 0, none⟩) | 1 => v = .pointer (some ⟨pb, 0, none⟩) | 2 => v = .pointer (some ⟨pb, 1, none⟩) | 3 => v = .map (some mb) | 4 => v = .pointer (some ⟨w.heap.size, 2, none⟩) | 5 => v = .string ⟨k.name.toArray⟩ | 6 => v = .pointer (some ⟨x.blk, 0, none⟩) | 7 => v = .pointer (some ⟨x.blk, 0, none⟩) | _ => True)
    (fun L U W => ∃ q, W = w1.drewN q) (fun _ _ => True) (fun _ _ _ _ _ h => h) (⟨1, rfl⟩) ?_ ?_
  · repeat (first | exact Steps.nil | (refine Steps.cons ?_ ?_; rotate_left))
    all_goals
      rintro L U W hL hpre hR hun hdep K hK
      have HR := Lib.hid hR
      obtain ⟨q, rfl⟩ := HR.out
      have hlq := Hlook.out q
      clear hun hdep hR
      first | (simp [Region.binds] at hpre; done) | simp [Region.binds] at hpre | clear hpre
    iterate 8
      · go_simp
        first | exact hK _ _ _ rfl trivial HR.out rfl | exact hK _ _ _ rfl trivial HR.out (by simp [Act.put, hpre]) | exact hK undef _ _ trivial trivial HR.out (by simp [Act.put, hpre]) | exact hK _ _ _ trivial trivial HR.out rfl | exact hK _ _ _ trivial trivial HR.out (by simp [Act.put, hpre])
  · rintro L U W hL hφ hR
    have e7 : U 7 = .pointer (some ⟨x.blk, 0, none⟩) := hφ 7 (by decide)
    simp only [e7]
    clear hφ
    obtain ⟨q, rfl⟩ := hR
    have Hbq := Lib.hid (Hb1.out.trans ((below_drewN (Below.refl w1.heap.size w1) q).mono Hb1.out.size))
    clear hL y1 y2 m1
    by_cases h82 : x.ty.sort = 82
    · have t82 : ((x.ty.sort.toNat : Int) == 82) = true := byte_eq (d := 82) h82
      have HF2 := Lib.hid (HF.out.trans (if_pos h82))
      clear h82 HF
      go_wp2_with fail
      go_ret
      exact ⟨by rw [HF2.out]; rfl, Hbq.out⟩
    · have t82 : ((x.ty.sort.toNat : Int) == 82) = false := byte_ne (d := 82) h82
      have HF2 := Lib.hid (HF.out.trans (if_neg h82))
      have hne : x.ty.fields ≠ [] := fun h => h82 (Hto.out.2.2.2.2 h)
      obtain ⟨f, fs, hfs⟩ : ∃ f fs, x.ty.fields = f :: fs := by
        cases h : x.ty.fields with
        | nil => exact absurd h hne
        | cons f fs => exact ⟨f, fs, rfl⟩
      have hf0 : 0 < x.ty.fields.length := by rw [hfs]; simp
      have hge : x.ty.fields[0] = f := by simp [hfs]
      have hft := Hto.out.2.2.1.1 f (by rw [hfs]; simp)
      have htag : f.tag ≤ 200 := hft.2.1
      have hdl := decB_len 2 f.tag (by have e : 10 ^ (2 + 1) = 1000 := rfl; omega)
      have Hd := Lib.hid (fun W => decimal_any f.tag f.tag W (Nat.le_refl _) (by omega))
      have hi0 : (0 : Int) < (x.ty.fields.length : Int) := by omega
      have HF3 := Lib.hid (show standN (ptysOf xs) (n + 1) k = if x.ty.sort = 69 then 35 :: decB f.tag else 60 :: (decB f.tag ++ 61 :: (standN (ptysOf xs) n f.kind ++ [62])) from by rw [HF2.out, hfs])
      have Hfs := Lib.hid hfs
      obtain ⟨b, off, rfl, hbl, hrg⟩ := IFds.range Hrow.out hf0
      rw [hge] at hrg
      have hrq := rangeAt_below hrg hbl Hbq.out
      simp only [Nat.zero_mul, Nat.add_zero] at hrq
      have g0 : (w1.drewN q).cell? ⟨b, off, none⟩ = some (.int .i64 (f.tag : Int)) := by simpa using rangeAt_cell hrq 0 rfl
      have G2 := Lib.hid (rangeAt_cell hrq 2 rfl)
      have G3 := Lib.hid (rangeAt_cell hrq 3 rfl)
      have G4 := Lib.hid (rangeAt_cell hrq 4 rfl)
      have H82 := Lib.hid h82
      clear HF2 HF h82 hne hfs hge hft hrg hrq
      by_cases h69 : x.ty.sort = 69
      · have t69 : ((x.ty.sort.toNat : Int) == 69) = true := byte_eq (d := 69) h69
        have HF4 := Lib.hid (HF3.out.trans (if_pos h69))
        clear h69 HF3
        go_wp2_with fail
        refine (Hd.out _).mono ?_
        rintro e w2 ⟨rfl, hb2⟩
        go_wp2_with fail
        go_ret
        exact ⟨by rw [HF4.out]; simp, Hbq.out.trans (hb2.mono Hbq.out.size)⟩
      · have t69 : ((x.ty.sort.toNat : Int) == 69) = false := byte_ne (d := 69) h69
        have HF4 := Lib.hid (HF3.out.trans (if_neg h69))
        have h85 : x.ty.sort = 85 := by
          rcases Hto.out.1 with h | h | h
          · exact absurd h H82.out
          · exact h
          · exact absurd h h69
        have Ih2 := Lib.hid (Ih.out h85 f fs Hfs.out)
        unfold kdV at Ih2
        have hsl := Hlen.out n f.kind
        generalize standN (ptysOf xs) n f.kind = sl at *
        clear h69 HF3 h85 Ih
        go_wp2_with fail
        obtain ⟨W0, hW0⟩ : ∃ W0, W0 = w1.drewN q := ⟨_, rfl⟩
        rw [← hW0] at Hbq g0 G2 G3 G4 ⊢
        have Y2 := Lib.hid (show W0.cell? ⟨x.blk, 2, none⟩ = some (.slice (some ⟨b, off, none⟩) x.ty.fields.length c) from by rw [hW0]; exact u2)
        have Y0 := Lib.hid g0
        have Y3 := Lib.hid (show W0.cell? ⟨b, off + 2, none⟩ = some (.string ⟨f.kind.signs.toArray⟩) from G2.out)
        have Y4 := Lib.hid (show W0.cell? ⟨b, off + 3, none⟩ = some (.string ⟨f.kind.base.toArray⟩) from G3.out)
        have Y5 := Lib.hid (show W0.cell? ⟨b, off + 4, none⟩ = some (.string ⟨f.kind.name.toArray⟩) from G4.out)
        have Hx5 := Lib.hid (show x.blk < W0.heap.size from Nat.lt_of_lt_of_le z0 Hbq.out.size)
        have Hb5 := Lib.hid (show b < W0.heap.size from Nat.lt_of_lt_of_le hbl Hbq.out.size)
        have Hsc0 := Lib.hid (Hsc.out.below Hbq.out)
        clear hW0 g0 u0 u2
        refine wp_region_slots3 [44, 45, 46, 47, 48, 49, 50, 51, 52, 53, 54, 55, 56, 57, 58, 59, 60, 61, 62, 63, 64, 4] (by kernel_rfl) (by kernel_rfl) (by kernel_rfl) (fun u => by dsimp only [frameOf, setMany, List.set, Nat.zero_add, Nat.reduceAdd])
          (fun i v W => match i with | 0 => v = .pointer (some ⟨x.blk, 0, none⟩) | 1 => v = .pointer (some ⟨x.blk, 0, none⟩) | 2 => v = .pointer (some ⟨x.blk, 2, none⟩) | 3 => v = .slice (some ⟨b, off, none⟩) x.ty.fields.length c | 4 => v = .pointer (some ⟨b, off, none⟩) | 5 => v = .pointer (some ⟨b, off, none⟩) | 6 => v = .int .i64 (f.tag : Int) | 7 => v = .string ⟨(decB f.tag).toArray⟩ | 8 => v = .string ⟨(60 :: decB f.tag).toArray⟩ | 9 => v = .string ⟨(60 :: (decB f.tag ++ [61])).toArray⟩ | 10 => v = .pointer (some ⟨pb, 0, none⟩) | 11 => v = .pointer (some ⟨x.blk, 0, none⟩) | 12 => v = .pointer (some ⟨x.blk, 0, none⟩) | 13 => v = .pointer (some ⟨x.blk, 2, none⟩) | 14 => v = .slice (some ⟨b, off, none⟩) x.ty.fields.length c | 15 => v = .pointer (some ⟨b, off, none⟩) | 16 => v = .pointer (some ⟨b, off + 2, none⟩) | 17 => v = .agg #[.string ⟨f.kind.signs.toArray⟩, .string ⟨f.kind.base.toArray⟩, .string ⟨f.kind.name.toArray⟩] | 18 => v = .string ⟨(sl).toArray⟩ | 19 => v = .string ⟨(60 :: (decB f.tag ++ 61 :: sl)).toArray⟩ | 20 => v = .string ⟨(60 :: (decB f.tag ++ 61 :: (sl ++ [62]))).toArray⟩ | 21 => v = .string ⟨(60 :: (decB f.tag ++ 61 :: (sl ++ [62]))).toArray⟩ | _ => True)
          (fun L U W => Below W0.heap.size W0 W) (fun _ _ => True) (fun _ _ _ _ _ h => h) ((Below.refl _ _).drew) ?_ ?_
        · repeat (first | exact Steps.nil | (refine Steps.cons ?_ ?_; rotate_left))
          all_goals
            rintro L U W hL hpre hR hun hdep K hK
            have HR := Lib.hid hR
            have hB := HR.out
            have c2 := (hB.cell (p := ⟨x.blk, 2, none⟩) Hx5.out).trans Y2.out
            have c0 := (hB.cell (p := ⟨b, off, none⟩) Hb5.out).trans Y0.out
            have c3 := (hB.cell (p := ⟨b, off + 2, none⟩) Hb5.out).trans Y3.out
            have c4 := (hB.cell (p := ⟨b, off + 3, none⟩) Hb5.out).trans Y4.out
            have c5 := (hB.cell (p := ⟨b, off + 4, none⟩) Hb5.out).trans Y5.out
            have c4' : W.cell? ⟨b, off + 2 + 1, none⟩ = _ := c4
            have c5' : W.cell? ⟨b, off + 2 + 1 + 1, none⟩ = _ := c5
            have c5'' : W.cell? ⟨b, off + 2 + 2, none⟩ = _ := c5
            clear hun hdep hR
            first | (simp [Region.binds] at hpre; done) | simp [Region.binds] at hpre | clear hpre
          iterate 7
            · go_simp
              first | exact hK _ _ _ rfl trivial HR.out rfl | exact hK _ _ _ rfl trivial HR.out (by simp [Act.put, hpre]) | exact hK undef _ _ trivial trivial HR.out (by simp [Act.put, hpre]) | exact hK _ _ _ trivial trivial HR.out rfl | exact hK _ _ _ trivial trivial HR.out (by simp [Act.put, hpre])
          · go_simp
            refine (Hd.out _).mono ?_
            rintro e w3 ⟨rfl, hb3⟩
            exact hK _ _ _ rfl trivial (hB.trans (hb3.mono hB.size)) (by simp [Act.put, hpre])
          · go_simp
            rw [if_neg (by first | omega | (simp; omega))]
            go_simp
            first | exact hK _ _ _ rfl trivial HR.out rfl | exact hK _ _ _ rfl trivial HR.out (by simp [Act.put, hpre])
          · go_simp
            rw [if_neg (by first | omega | (simp; omega))]
            go_simp
            first | exact hK _ _ _ rfl trivial HR.out rfl | exact hK _ _ _ rfl trivial HR.out (by simp [Act.put, hpre])
          iterate 8
            · go_simp
              first | exact hK _ _ _ rfl trivial HR.out rfl | exact hK _ _ _ rfl trivial HR.out (by simp [Act.put, hpre]) | exact hK undef _ _ trivial trivial HR.out (by simp [Act.put, hpre]) | exact hK _ _ _ trivial trivial HR.out rfl | exact hK _ _ _ trivial trivial HR.out (by simp [Act.put, hpre])
          · go_simp
            refine (Ih2.out _ (Hsc0.out.below hB)).mono ?_
            rintro e w3 ⟨rfl, hb3⟩
            exact hK _ _ _ rfl trivial (hB.trans (hb3.mono hB.size)) (by simp [Act.put, hpre])
          · go_simp
            rw [if_neg (by first | omega | (simp; omega))]
            go_simp
            first | exact hK _ _ _ rfl trivial HR.out rfl | exact hK _ _ _ rfl trivial HR.out (by simp [Act.put, hpre])
          · go_simp
            rw [if_neg (by first | omega | (simp; omega))]
            go_simp
            first | exact hK _ _ _ rfl trivial HR.out rfl | exact hK _ _ _ rfl trivial HR.out (by simp [Act.put, hpre])
          · go_simp
            first | exact hK _ _ _ rfl trivial HR.out rfl | exact hK _ _ _ rfl trivial HR.out (by simp [Act.put, hpre]) | exact hK undef _ _ trivial trivial HR.out (by simp [Act.put, hpre]) | exact hK _ _ _ trivial trivial HR.out rfl | exact hK _ _ _ trivial trivial HR.out (by simp [Act.put, hpre])
        · rintro L U W hL hφ hR
          have e21 : U 21 = .string ⟨(60 :: (decB f.tag ++ 61 :: (sl ++ [62]))).toArray⟩ := hφ 21 (by decide)
          simp only [e21]
          clear hφ
          have Hb9 := Lib.hid (Hbq.out.trans (hR.mono Hbq.out.size))
          clear hR
          go_wp2_with fail
          go_ret
          exact ⟨by rw [HF4.out]; rfl, Hb9.out⟩
end Go.Proofs.YtcjfgbcdlcdeaaaGreatDoor
/- The program's standing values: of each kind, of each field. -/
namespace Go.Proofs.YtcjfgbcdlcdeaaaGreatDoor
open Go.RowKit
set_option maxRecDepth 100000
set_option linter.unusedVariables false
set_option linter.unusedSimpArgs false
attribute [local go_sem] ba_get ba_toList ba_extract take_drop_all ByteArray.mk_append_mk

theorem iStands_base (p : Value) (S : List Ty) (n : Nat) (k : Kd) (w : World) (hk : kdOk k) (h : ¬ (k.signs = [] ∧ k.base = [64])) :
    Calls Tryz.prog 107 #[p, kdV k] w (SdPost (standN S (n + 1) k) w) := by
  unfold kdV
  cases hs : k.signs with
  | cons c t =>
    have hc := sign_cases hk hs
    have hl := hk.2.2
    unfold kdB at hl
    rw [hs] at hl
    rw [standN_sign _ _ k c t hs hc]
    exact iStands_sign p c t _ _ w hc (by simp at hl; omega)
  | nil =>
    have hb : k.base ≠ [64] := fun hb => h ⟨hs, hb⟩
    rw [standN_letter _ _ k hs (kd_letter hk hs hb).2]
    exact iStands_letter p k.base _ w (kd_letter hk hs hb).2
theorem iStands_any (p : Value) (xs : List PT) (hok : ∀ x ∈ xs, tyOk x.ty) (hS : kindsOk (ptysOf xs)) : ∀ (n : Nat), n ≤ 9 → ∀ (k : Kd) (w : World), ISc w p xs → kdOk k → refOk (ptysOf xs) k → kdEnds (ptysOf xs) n k →
    Calls Tryz.prog 107 #[p, kdV k] w (SdPost (standN (ptysOf xs) (n + 1) k) w) := by
  intro n
  induction n with
  | zero =>
    intro _ k w hsc hk hr he
    refine iStands_base p _ 0 k w hk (fun h => ?_)
    obtain ⟨t, _, h2⟩ := he h.1 h.2
    exact absurd h2 (by simp [endsN])
  | succ n ih =>
    intro hn k w hsc hk hr he
    by_cases hsb : k.signs = [] ∧ k.base = [64]
    · obtain ⟨hs, hb⟩ := hsb
      have h1 := hr hb
      rw [findP_ty] at h1
      cases hx : findP xs k.name with
      | none => rw [hx] at h1; cases h1
      | some x =>
        have hft : findTy (ptysOf xs) k.name = some x.ty := (findP_mem hx).2.2
        have hto : tyOk x.ty := hok _ (findP_mem hx).1
        refine iStands_name p xs hok (n + 1) k w hsc hk hs hb x hx hn (fun h85 f fs hfs W hW => ?_)
        have hrf : refOk (ptysOf xs) f.kind := hS x.ty (findTy_some hft).1 (by rw [h85]; decide) f (by rw [hfs]; simp)
        have hkf : kdOk f.kind := ((hto.2.2.1.1 f (by rw [hfs]; simp)).2.2.2.2 (by rw [h85]; decide)).1
        exact ih (by omega) f.kind W hW hkf hrf (kdEnds_next he hs hb hft h85 hfs hrf)
    · exact iStands_base p _ (n + 1) k w hk hsb
theorem iStandL_any (p : Value) (xs : List PT) (h : scOk (ptysOf xs)) (k : Kd) (w : World) (hsc : ISc w p xs) (hk : kdOk k) (hr : refOk (ptysOf xs) k) :
    Calls Tryz.prog 107 #[p, kdV k] w (SdPost (standL (ptysOf xs) k) w) :=
  iStands_any p xs (fun x hx => h.1.1 x.ty (List.mem_map_of_mem hx)) h.2.1 9 (Nat.le_refl _) k w hsc hk hr (kdEnds_ok h hr)

set_option maxHeartbeats 1000000 in
theorem iOf_any (p : Value) (xs : List PT) (h : scOk (ptysOf xs)) (f : Fd) (b o : Nat) (w : World) (hsc : ISc w p xs) (hf : w.rangeAt b o (ifc f)) (hk : kdOk f.kind) (hr : refOk (ptysOf xs) f.kind) (hl : f.given.length ≤ 1000) :
    Calls Tryz.prog 77 #[p, .pointer (some ⟨b, o, none⟩)] w (SdPost (ofL (ptysOf xs) f) w) := by
  have HF := Lib.hid (show ofL (ptysOf xs) f = if f.given = [] then standL (ptysOf xs) f.kind else f.given from rfl)
  have Hs := Lib.hid (fun W (h1 : ISc W p xs) => iStandL_any p xs h f.kind W h1 hk hr)
  have Hsc := Lib.hid hsc
  unfold kdV at Hs
  have c2 : w.cell? ⟨b, o + 2, none⟩ = some (.string ⟨f.kind.signs.toArray⟩) := rangeAt_cell hf 2 rfl
  have c3 : w.cell? ⟨b, o + 3, none⟩ = some (.string ⟨f.kind.base.toArray⟩) := rangeAt_cell hf 3 rfl
  have c4 : w.cell? ⟨b, o + 4, none⟩ = some (.string ⟨f.kind.name.toArray⟩) := rangeAt_cell hf 4 rfl
  have c5 : w.cell? ⟨b, o + 5, none⟩ = some (.string ⟨f.given.toArray⟩) := rangeAt_cell hf 5 rfl
  have c3' : w.cell? ⟨b, o + 2 + 1, none⟩ = some (.string ⟨f.kind.base.toArray⟩) := c3
  have c4' : w.cell? ⟨b, o + 2 + 1 + 1, none⟩ = some (.string ⟨f.kind.name.toArray⟩) := c4
  have c4'' : w.cell? ⟨b, o + 2 + 2, none⟩ = some (.string ⟨f.kind.name.toArray⟩) := c4
  clear h hk hr hsc hf
  by_cases hg : f.given = []
  · have HF2 := Lib.hid (HF.out.trans (if_pos hg))
    rw [hg] at c5
    clear hg HF
    go_enter Tryz.func77, Tryz.ntmps77
    go_wp2_with fail
    refine (Hs.out _ Hsc.out).mono ?_
    rintro e w1 ⟨rfl, hb1⟩
    go_wp2_with fail
    go_ret
    exact ⟨by rw [HF2.out]; rfl, hb1⟩
  · have HF2 := Lib.hid (HF.out.trans (if_neg hg))
    have t1 : f.given.isEmpty = false := by simpa using hg
    have t2 : (!f.given.isEmpty) = true := by simp [t1]
    clear hg HF
    go_enter Tryz.func77, Tryz.ntmps77
    go_wp2_with fail
    go_ret
    exact ⟨by rw [HF2.out]; rfl, Below.refl _ _⟩
end Go.Proofs.YtcjfgbcdlcdeaaaGreatDoor
/- What the program's evolution keeps while it asks: two schemas, and a map of the pairs that were asked for. -/
namespace Go.Proofs.YtcjfgbcdlcdeaaaGreatDoor
open Go.RowKit
set_option maxRecDepth 100000
set_option linter.unusedVariables false
set_option linter.unusedSimpArgs false

theorem Tryz.laidOutI : laidOutB Tryz.prog = true := by kernel_rfl
/-- A pair of names as a key. -/
def pairK (p : Pair) : List UInt8 := keyBytes [.string p.1, .string p.2]
theorem Tryz.keyPairs : Go.Maps.Keyed Tryz.prog 242 := Go.Maps.Keyed.of_law (deep_law_laid Tryz.laidOutI (m := 2) (by omega) (of_decide_eq_true (by kernel_rfl)) (by kernel_rfl) (by kernel_rfl))
theorem Tryz.typesPos : 0 < Tryz.prog.types.size := of_decide_eq_true (by kernel_rfl)
theorem pairK_inj {p q : Pair} (hp : p.1.length ≤ 100 ∧ p.2.length ≤ 100) (hq : q.1.length ≤ 100 ∧ q.2.length ≤ 100) (h : pairK p = pairK q) : p = q := by
  have := keyBytes_inj (l := [.string p.1, .string p.2]) (l' := [.string q.1, .string q.2]) ⟨trivial, trivial, trivial⟩
    (by intro a ha; simp at ha; rcases ha with rfl | rfl <;> (unfold Lit.keyWf maxLen; omega)) (by intro a ha; simp at ha; rcases ha with rfl | rfl <;> (unfold Lit.keyWf maxLen; omega)) h
  simp at this
  exact Prod.ext this.1 this.2
theorem Tryz.keyPair {a b : Name} (ha : a.length ≤ 100) (hb : b.length ≤ 100) : keyOf Tryz.prog 242 (.agg #[.string ⟨a.toArray⟩, .string ⟨b.toArray⟩]) = some (.string (pairK (a, b))) := by
  have hkt : Tryz.prog.keyType 242 = true := by kernel_rfl
  have hc : Tryz.prog.cellsOf 242 = 2 := by kernel_rfl
  have hs : Tryz.prog.cellsOf 9 = 1 := by kernel_rfl
  have h0 : 0 < Tryz.prog.types.size := Tryz.typesPos
  obtain ⟨d, hd⟩ := Nat.exists_eq_succ_of_ne_zero (Nat.pos_iff_ne_zero.1 h0)
  have e1 : (⟨a.toArray⟩ : ByteArray).size = a.length := by simp [ByteArray.size]
  have e2 : (⟨b.toArray⟩ : ByteArray).size = b.length := by simp [ByteArray.size]
  have l1 : a.length ≤ 9223372036854775807 := by omega
  have l2 : b.length ≤ 9223372036854775807 := by omega
  unfold keyOf
  simp only [Tryz.underlying242]
  have hL : Tryz.prog.keyLits (Tryz.prog.types.size + 1) 242 [.string ⟨a.toArray⟩, .string ⟨b.toArray⟩] = some [.string a, .string b] := by
    rw [hd]
    simp only [Program.keyLits, Tryz.underlying242, Tryz.underlying9, hc, hs, e1, e2, maxLen]
    simp [Program.keyLits, Tryz.underlying242, Tryz.underlying9, hc, hs, e1, e2, l1, l2, maxLen]
  have hf : (Value.agg #[.string ⟨a.toArray⟩, .string ⟨b.toArray⟩]).formed Tryz.prog 242 = true := by
    simp [Value.formed, Tryz.underlying242, hc]
  simp only [hkt, hf, Bool.and_self, if_true, Value.cells, hL, Option.map_some]
  rfl

/-- What the map of pairs gives. -/
def askedF (m : List Pair) (l : Lit) : Value := .bool (m.any fun p => l.sameKey (.string (pairK p)))
theorem askedF_snoc (m : List Pair) (p : Pair) (l : Lit) : (if l.sameKey (.string (pairK p)) = true then .bool true else askedF m l) = askedF (m ++ [p]) l := by
  unfold askedF
  rw [List.any_append]
  cases h : l.sameKey (.string (pairK p)) <;> simp [h]
theorem askedF_at {m : List Pair} {p : Pair} (hp : p.1.length ≤ 100 ∧ p.2.length ≤ 100) (hm : ∀ q ∈ m, q.1.length ≤ 100 ∧ q.2.length ≤ 100) : askedF m (.string (pairK p)) = .bool (decide (p ∈ m)) := by
  unfold askedF
  congr 1
  rw [Bool.eq_iff_iff, List.any_eq_true, decide_eq_true_eq]
  constructor
  · rintro ⟨q, hq, h⟩
    have : pairK p = pairK q := by simpa [Lit.sameKey] using h
    rw [pairK_inj hp (hm q hq) this]; exact hq
  · intro h
    exact ⟨p, h, by simp [Lit.sameKey]⟩
theorem Tryz.zeroBool (w : World) : (zeroValue 4).run Tryz.prog w = .ok (.bool false) w := by kernel_rfl

/-- The map of pairs lies at block w0.heap.size, the question's struct behind it. -/
def IAskSt (w0 : World) (p1 p2 : Value) (w : World) (m : List Pair) : Prop :=
  Below w0.heap.size w0 w ∧ w0.heap.size + 2 ≤ w.heap.size ∧ w.cell? ⟨w0.heap.size + 1, 0, none⟩ = some p1 ∧ w.cell? ⟨w0.heap.size + 1, 1, none⟩ = some p2 ∧ w.cell? ⟨w0.heap.size + 1, 2, none⟩ = some (.map (some w0.heap.size)) ∧
    FMap Tryz.prog 242 (.bool false) w w0.heap.size m.length (askedF m)
theorem IAskSt.below {w0 w w' : World} {p1 p2 : Value} {m : List Pair} (h : IAskSt w0 p1 p2 w m) (hb : Below w.heap.size w w') : IAskSt w0 p1 p2 w' m := by
  obtain ⟨h1, h2, h3, h4, h5, h6⟩ := h
  exact ⟨h1.trans (hb.mono (by omega)), Nat.le_trans h2 hb.size, (hb.cell (p := ⟨w0.heap.size + 1, 0, none⟩) (show w0.heap.size + 1 < _ by omega)).trans h3, (hb.cell (p := ⟨w0.heap.size + 1, 1, none⟩) (show w0.heap.size + 1 < _ by omega)).trans h4,
    (hb.cell (p := ⟨w0.heap.size + 1, 2, none⟩) (show w0.heap.size + 1 < _ by omega)).trans h5, h6.below hb⟩
theorem grown_of_below {w w' : World} (h : Below w.heap.size w w') (row : Option Nat) : w.grownBy w' row := ⟨h.os, h.tape, h.output, h.size, fun k hk _ => h.block k hk⟩
theorem IAskSt.push {w0 w w5 : World} {p1 p2 : Value} {m : List Pair} {p : Pair} (h : IAskSt w0 p1 p2 w m) (hg : w.grownBy w5 (some w0.heap.size)) (hf : FMap Tryz.prog 242 (.bool false) w5 w0.heap.size (m.length + 1) (fun l => if l.sameKey (.string (pairK p)) = true then .bool true else askedF m l)) : IAskSt w0 p1 p2 w5 (m ++ [p]) := by
  obtain ⟨h1, h2, h3, h4, h5, h6⟩ := h
  have hc : ∀ j, w5.cell? ⟨w0.heap.size + 1, j, none⟩ = w.cell? ⟨w0.heap.size + 1, j, none⟩ := fun j => hg.cell_far ⟨w0.heap.size + 1, j, none⟩ (show w0.heap.size + 1 < _ by omega) (by simp)
  refine ⟨h1.grown hg (by omega) (fun k hk => by injection hk with hk; omega), Nat.le_trans h2 hg.size, (hc 0).trans h3, (hc 1).trans h4, (hc 2).trans h5, ?_⟩
  rw [List.length_append]
  exact hf.of_eq (fun l hl => askedF_snoc m p l)
/-- What asking leaves. -/
def IaPost (w0 : World) (p1 p2 : Value) (r : Bool × List Pair) (w : World) (e : Ending) (w' : World) : Prop := e = .returned (.bool r.1) ∧ IAskSt w0 p1 p2 w' r.2 ∧ w.grownBy w' (some w0.heap.size)
/-- A type reads another one, by name first. -/
def evP (S T : List Ty) (K : Kd → Kd → List Pair → Bool × List Pair) (t u : Ty) (m : List Pair) : Bool × List Pair :=
  if (t.name, u.name) ∈ m then (true, m) else evT S T K t u (m ++ [(t.name, u.name)])
end Go.Proofs.YtcjfgbcdlcdeaaaGreatDoor
/- The program's question of kinds. -/
namespace Go.Proofs.YtcjfgbcdlcdeaaaGreatDoor
open Go.RowKit
set_option maxRecDepth 100000
set_option linter.unusedVariables false
set_option linter.unusedSimpArgs false
attribute [local go_sem] ba_get ba_toList ba_extract take_drop_all ByteArray.mk_append_mk

set_option maxHeartbeats 2000000 in
theorem iAsk_kinds (w0 : World) (p1 p2 : Value) (xs ys : List PT) (hx : ISc w0 p1 xs) (hy : ISc w0 p2 ys) (n : Nat) (a b : Kd) (m : List Pair) (w : World)
    (ha : kdOk a) (hb : kdOk b) (hra : refOk (ptysOf xs) a) (hrb : refOk (ptysOf ys) b) (hst : IAskSt w0 p1 p2 w m)
    (ih : ∀ x y W, x ∈ xs → y ∈ ys → IAskSt w0 p1 p2 W m → 
      Calls Tryz.prog 159 #[.pointer (some ⟨w0.heap.size + 1, 0, none⟩), .pointer (some ⟨x.blk, 0, none⟩), .pointer (some ⟨y.blk, 0, none⟩)] W (IaPost w0 p1 p2 (evP (ptysOf xs) (ptysOf ys) (evK (ptysOf xs) (ptysOf ys) n) x.ty y.ty m) W)) :
    Calls Tryz.prog 122 #[.pointer (some ⟨w0.heap.size + 1, 0, none⟩), kdV a, kdV b] w (IaPost w0 p1 p2 (evK (ptysOf xs) (ptysOf ys) (n + 1) a b m) w) := by
  have HF := Lib.hid (show evK (ptysOf xs) (ptysOf ys) (n + 1) a b m = (if a.signs ≠ b.signs ∨ a.base ≠ b.base then (false, m)
    else if a.base ≠ [64] then (true, m)
    else match findTy (ptysOf xs) a.name, findTy (ptysOf ys) b.name with
      | some t, some u => if (a.name, b.name) ∈ m then (true, m) else evT (ptysOf xs) (ptysOf ys) (evK (ptysOf xs) (ptysOf ys) n) t u (m ++ [(a.name, b.name)])
      | _, _ => (false, m)) from by rw [evK]; rfl)
  have Hst := Lib.hid hst
  have hna := name_short ha
  have hnb := name_short hb
  have hsz := hst.2.1
  unfold kdV
  by_cases hsg : a.signs = b.signs
  · have t1 : (!(a.signs == b.signs)) = false := by simp [hsg]
    have t2 : (a.signs == b.signs) = true := by simp [hsg]
    by_cases hbs : a.base = b.base
    · have t3 : (!(a.base == b.base)) = false := by simp [hbs]
      have t4 : (a.base == b.base) = true := by simp [hbs]
      have HF1 := Lib.hid (HF.out.trans (if_neg (by simp [hsg, hbs])))
      by_cases h64 : a.base = [64]
      · have HF2 := Lib.hid (HF1.out.trans (if_neg (by simp [h64])))
        have h64b : b.base = [64] := hbs ▸ h64
        have h1 := hra h64
        have h2 := hrb h64b
        rw [findP_ty] at h1 h2
        obtain ⟨x, hxf⟩ := Option.isSome_iff_exists.1 (by simpa using h1 : (findP xs a.name).isSome = true)
        obtain ⟨y, hyf⟩ := Option.isSome_iff_exists.1 (by simpa using h2 : (findP ys b.name).isSome = true)
        have hxm := findP_mem hxf
        have hym := findP_mem hyf
        have HF3 := Lib.hid (show evK (ptysOf xs) (ptysOf ys) (n + 1) a b m = evP (ptysOf xs) (ptysOf ys) (evK (ptysOf xs) (ptysOf ys) n) x.ty y.ty m from by
          rw [HF2.out, hxm.2.2, hym.2.2]; unfold evP; rw [hxm.2.1, hym.2.1])
        have Hcall := Lib.hid (fun W (h : IAskSt w0 p1 p2 W m) => ih x y W hxm.1 hym.1 h)
        obtain ⟨pb1, _, _, mb1, rfl, q0, _, q2, _, q4, _, _⟩ := hx
        obtain ⟨pb2, _, _, mb2, rfl, s0, _, s2, _, s4, _, _⟩ := hy
        have Hl1 := Lib.hid (fun W (h : Below w0.heap.size w0 W) => show (Instr.lookup 174 (.map (some mb1)) (.string ⟨a.name.toArray⟩) false).run Tryz.prog W = .ok (.pointer (some ⟨x.blk, 0, none⟩)) W from by
          have := named_look (FMap.below q4 h) a.name (by omega); rw [hxf] at this; exact this)
        have Hl2 := Lib.hid (fun W (h : Below w0.heap.size w0 W) => show (Instr.lookup 174 (.map (some mb2)) (.string ⟨b.name.toArray⟩) false).run Tryz.prog W = .ok (.pointer (some ⟨y.blk, 0, none⟩)) W from by
          have := named_look (FMap.below s4 h) b.name (by omega); rw [hyf] at this; exact this)
        have P1 := Lib.hid q0
        have P2 := Lib.hid s0
        have M1 := Lib.hid q2
        have M2 := Lib.hid s2
        rw [hsg, h64, h64b]
        generalize evP (ptysOf xs) (ptysOf ys) (evK (ptysOf xs) (ptysOf ys) n) x.ty y.ty m = r at *
        obtain ⟨r1, r2⟩ := r
        clear ha hb hra hrb hst ih hsg hbs t1 t2 t3 t4 h64 h64b h1 h2 hxf hyf hxm hym q0 q2 q4 s0 s2 s4
        go_enter Tryz.func122, Tryz.ntmps122
        have t5 : (!(b.signs == b.signs)) = false := by simp
        go_wp2_with fail
        obtain ⟨W2, hW2⟩ : ∃ W2, W2 = (w.alloc (.cells #[.string ⟨b.signs.toArray⟩, .string ⟨#[64]⟩, .string ⟨a.name.toArray⟩] 83)).alloc (.cells #[.string ⟨b.signs.toArray⟩, .string ⟨#[64]⟩, .string ⟨b.name.toArray⟩] 83) := ⟨_, rfl⟩
        rw [← hW2]
        have hb2 : Below w.heap.size w W2 := by rw [hW2]; exact ((Below.refl _ _).alloc (Nat.le_refl _) _).alloc (by simp) _
        have Hst2 := Lib.hid (Hst.out.below hb2)
        have Hg2 := Lib.hid (grown_of_below hb2 (some w0.heap.size))
        have hz2 : W2.heap.size = w.heap.size + 2 := by rw [hW2]; simp
        have X41 := Lib.hid (show W2.cell? ⟨w.heap.size, 1, none⟩ = some (.string ⟨#[64]⟩) from by rw [hW2]; simp [go_sem])
        have X42 := Lib.hid (show W2.cell? ⟨w.heap.size, 2, none⟩ = some (.string ⟨a.name.toArray⟩) from by rw [hW2]; simp [go_sem])
        have X52 := Lib.hid (show W2.cell? ⟨w.heap.size + 1, 2, none⟩ = some (.string ⟨b.name.toArray⟩) from by rw [hW2]; simp [go_sem])
        have B4 := Lib.hid (show w.heap.size < W2.heap.size by omega)
        have B5 := Lib.hid (show w.heap.size + 1 < W2.heap.size by omega)
        have B4n := Lib.hid (show some w.heap.size ≠ some w0.heap.size from by simp; omega)
        have B5n := Lib.hid (show some (w.heap.size + 1) ≠ some w0.heap.size from by simp; omega)
        clear hW2 hb2
        refine wp_region_slots3 [19, 20, 21, 22, 23, 24, 25, 26, 27, 28, 29, 30, 31, 32, 33, 34, 35, 36, 37, 38, 39, 40, 41, 42, 43, 44, 45, 6] (by kernel_rfl) (by kernel_rfl) (by kernel_rfl) (fun u => by dsimp only [frameOf, setMany, List.set, Nat.zero_add, Nat.reduceAdd])
          (fun i v W => match i with | 0 => v = .pointer (some ⟨w.heap.size, 1, none⟩) | 1 => v = .string ⟨#[64]⟩ | 2 => v = .bool false | 3 => v = .bool false | 4 => v = .pointer (some ⟨w0.heap.size + 1, 0, none⟩) | 5 => v = .pointer (some ⟨w0.heap.size + 1, 0, none⟩) | 6 => v = .pointer (some ⟨w0.heap.size + 1, 0, none⟩) | 7 => v = .pointer (some ⟨w0.heap.size + 1, 0, none⟩) | 8 => v = .pointer (some ⟨pb1, 0, none⟩) | 9 => v = .pointer (some ⟨pb1, 0, none⟩) | 10 => v = .pointer (some ⟨pb1, 1, none⟩) | 11 => v = .map (some mb1) | 12 => v = .pointer (some ⟨w.heap.size, 2, none⟩) | 13 => v = .string ⟨a.name.toArray⟩ | 14 => v = .pointer (some ⟨x.blk, 0, none⟩) | 15 => v = .pointer (some ⟨w0.heap.size + 1, 0, none⟩) | 16 => v = .pointer (some ⟨w0.heap.size + 1, 0, none⟩) | 17 => v = .pointer (some ⟨w0.heap.size + 1, 1, none⟩) | 18 => v = .pointer (some ⟨pb2, 0, none⟩) | 19 => v = .pointer (some ⟨pb2, 0, none⟩) | 20 => v = .pointer (some ⟨pb2, 1, none⟩) | 21 => v = .map (some mb2) | 22 => v = .pointer (some ⟨w.heap.size + 1, 2, none⟩) | 23 => v = .string ⟨b.name.toArray⟩ | 24 => v = .pointer (some ⟨y.blk, 0, none⟩) | 25 => v = .bool r1 | 26 => v = .bool r1 | 27 => v = .bool r1 | _ => True)
          (fun L U W => ∃ mm, IAskSt w0 (.pointer (some ⟨pb1, 0, none⟩)) (.pointer (some ⟨pb2, 0, none⟩)) W mm ∧ W2.grownBy W (some w0.heap.size) ∧ (L 25 = true → mm = r2) ∧ (L 25 = false → mm = m)) (fun _ _ => True) (fun _ _ _ _ _ h => h) (⟨m, Hst2.out.below ((Below.refl _ _).drew), grown_of_below ((Below.refl _ _).drew) _, fun h => Bool.noConfusion h, fun _ => rfl⟩) ?_ ?_
        · repeat (first | exact Steps.nil | (refine Steps.cons ?_ ?_; rotate_left))
          all_goals
            rintro L U W hL hpre hR hun hdep K hK
            have HR := Lib.hid hR
            obtain ⟨mm, ha9, hk9, r5, r6⟩ := HR.out
            have a0 : W.cell? ⟨w0.heap.size + 1, 0, none⟩ = some (.pointer (some ⟨pb1, 0, none⟩)) := ha9.2.2.1
            have a1 : W.cell? ⟨w0.heap.size + 1, 1, none⟩ = some (.pointer (some ⟨pb2, 0, none⟩)) := ha9.2.2.2.1
            have b1 : W.cell? ⟨pb1, 1, none⟩ = some (.map (some mb1)) := (ha9.1.cell (p := ⟨pb1, 1, none⟩) P1.out).trans M1.out
            have b2 : W.cell? ⟨pb2, 1, none⟩ = some (.map (some mb2)) := (ha9.1.cell (p := ⟨pb2, 1, none⟩) P2.out).trans M2.out
            have x1 : W.cell? ⟨w.heap.size, 1, none⟩ = some (.string ⟨#[64]⟩) := (hk9.cell_far ⟨w.heap.size, 1, none⟩ B4.out B4n.out).trans X41.out
            have x2 : W.cell? ⟨w.heap.size, 2, none⟩ = some (.string ⟨a.name.toArray⟩) := (hk9.cell_far ⟨w.heap.size, 2, none⟩ B4.out B4n.out).trans X42.out
            have x3 : W.cell? ⟨w.heap.size + 1, 2, none⟩ = some (.string ⟨b.name.toArray⟩) := (hk9.cell_far ⟨w.heap.size + 1, 2, none⟩ B5.out B5n.out).trans X52.out
            have l1 := Hl1.out W ha9.1
            have l2 := Hl2.out W ha9.1
            clear hun hdep hR
            first | (simp [Region.binds] at hpre; done) | simp [Region.binds] at hpre | clear hpre
          iterate 25
            · go_simp
              first | exact hK _ _ _ rfl trivial HR.out rfl | exact hK _ _ _ rfl trivial HR.out (by simp [Act.put, hpre]) | exact hK undef _ _ trivial trivial HR.out (by simp [Act.put, hpre]) | exact hK _ _ _ trivial trivial HR.out rfl | exact hK _ _ _ trivial trivial HR.out (by simp [Act.put, hpre])
          · go_simp
            obtain rfl := r6 hL
            refine (Hcall.out W ha9).mono ?_
            rintro e w5 ⟨rfl, ha5, hk5⟩
            exact hK _ _ _ rfl trivial ⟨_, ha5, hk9.trans hk5, fun _ => rfl, fun h => by simp at h⟩ (by simp [Act.put, hpre])
          iterate 2
            · go_simp
              first | exact hK _ _ _ rfl trivial HR.out rfl | exact hK _ _ _ rfl trivial HR.out (by simp [Act.put, hpre]) | exact hK undef _ _ trivial trivial HR.out (by simp [Act.put, hpre]) | exact hK _ _ _ trivial trivial HR.out rfl | exact hK _ _ _ trivial trivial HR.out (by simp [Act.put, hpre])
        · rintro L U W hL hφ hR
          have e27 : U 27 = .bool r1 := hφ 27 (by decide)
          simp only [e27]
          clear hφ
          obtain ⟨mm, ha9, hk9, h1, _⟩ := hR
          obtain rfl := h1 (hL 25 (by decide))
          have Ha9 := Lib.hid ha9
          have Hk9 := Lib.hid (Hg2.out.trans hk9)
          clear hL ha9 hk9 h1
          go_wp2_with fail
          go_ret
          rw [HF3.out]
          exact ⟨rfl, Ha9.out, Hk9.out⟩
      · have HF2 := Lib.hid (HF1.out.trans (if_pos h64))
        have t5 : (a.base == [64]) = false := by simpa using h64
        have t6 : (a.base != [64]) = true := by simpa using h64
        clear ha hb hra hrb hst ih h64 hx hy
        rw [← hsg, ← hbs]
        clear hsg hbs t1 t2 t3 t4
        go_enter Tryz.func122, Tryz.ntmps122
        go_wp2_with fail
        obtain ⟨W2, hW2⟩ : ∃ W2, W2 = (w.alloc (.cells #[.string ⟨a.signs.toArray⟩, .string ⟨a.base.toArray⟩, .string ⟨a.name.toArray⟩] 83)).alloc (.cells #[.string ⟨a.signs.toArray⟩, .string ⟨a.base.toArray⟩, .string ⟨b.name.toArray⟩] 83) := ⟨_, rfl⟩
        rw [← hW2]
        have hb2 : Below w.heap.size w W2 := by rw [hW2]; exact ((Below.refl _ _).alloc (Nat.le_refl _) _).alloc (by simp) _
        have Hb2 := Lib.hid hb2
        have x1 : W2.cell? ⟨w.heap.size, 1, none⟩ = some (.string ⟨a.base.toArray⟩) := by rw [hW2]; simp [go_sem]
        clear hW2 hb2
        refine wp_region_slots3 [19, 20, 21, 22, 23, 24, 25, 26, 27, 28, 29, 30, 31, 32, 33, 34, 35, 36, 37, 38, 39, 40, 41, 42, 43, 44, 45, 6] (by kernel_rfl) (by kernel_rfl) (by kernel_rfl) (fun u => by dsimp only [frameOf, setMany, List.set, Nat.zero_add, Nat.reduceAdd])
          (fun i v W => match i with | 0 => v = .pointer (some ⟨w.heap.size, 1, none⟩) | 1 => v = .string ⟨a.base.toArray⟩ | 2 => v = .bool true | 3 => v = .bool true | 4 => v = undef | 5 => v = undef | 6 => v = undef | 7 => v = undef | 8 => v = undef | 9 => v = undef | 10 => v = undef | 11 => v = undef | 12 => v = undef | 13 => v = undef | 14 => v = undef | 15 => v = undef | 16 => v = undef | 17 => v = undef | 18 => v = undef | 19 => v = undef | 20 => v = undef | 21 => v = undef | 22 => v = undef | 23 => v = undef | 24 => v = undef | 25 => v = undef | 26 => v = .bool true | 27 => v = .bool true | _ => True)
          (fun L U W => ∃ q, W = W2.drewN q) (fun _ _ => True) (fun _ _ _ _ _ h => h) (⟨1, rfl⟩) ?_ ?_
        · repeat (first | exact Steps.nil | (refine Steps.cons ?_ ?_; rotate_left))
          all_goals
            rintro L U W hL hpre hR hun hdep K hK
            have HR := Lib.hid hR
            obtain ⟨q, rfl⟩ := HR.out
            clear hun hdep hR
            first | (simp [Region.binds] at hpre; done) | simp [Region.binds] at hpre | clear hpre
          iterate 28
            · go_simp
              first | exact hK _ _ _ rfl trivial HR.out rfl | exact hK _ _ _ rfl trivial HR.out (by simp [Act.put, hpre]) | exact hK undef _ _ trivial trivial HR.out (by simp [Act.put, hpre]) | exact hK _ _ _ trivial trivial HR.out rfl | exact hK _ _ _ trivial trivial HR.out (by simp [Act.put, hpre])
        · rintro L U W hL hφ hR
          have e27 : U 27 = .bool true := hφ 27 (by decide)
          simp only [e27]
          clear hφ
          obtain ⟨q, rfl⟩ := hR
          have Hbq := Lib.hid (Hb2.out.trans ((below_drewN (Below.refl W2.heap.size W2) q).mono Hb2.out.size))
          clear hL
          go_wp2_with fail
          go_ret
          rw [HF2.out]
          exact ⟨rfl, Hst.out.below Hbq.out, grown_of_below Hbq.out _⟩
    · have t3 : (!(a.base == b.base)) = true := by simpa using hbs
      have t4 : (a.base == b.base) = false := by simpa using hbs
      have HF1 := Lib.hid (HF.out.trans (if_pos (.inr hbs)))
      clear ha hb hra hrb hst ih hsg hbs hx hy
      go_enter Tryz.func122, Tryz.ntmps122
      go_wp2_with fail
      go_ret
      rw [HF1.out]
      exact ⟨rfl, Hst.out.below (((Below.refl _ _).alloc (Nat.le_refl _) _).alloc (by simp) _), grown_of_below (((Below.refl _ _).alloc (Nat.le_refl _) _).alloc (by simp) _) _⟩
  · have t1 : (!(a.signs == b.signs)) = true := by simpa using hsg
    have t2 : (a.signs == b.signs) = false := by simpa using hsg
    have HF1 := Lib.hid (HF.out.trans (if_pos (.inl hsg)))
    clear ha hb hra hrb hst ih hsg hx hy
    go_enter Tryz.func122, Tryz.ntmps122
    go_wp2_with fail
    go_ret
    rw [HF1.out]
    exact ⟨rfl, Hst.out.below (((Below.refl _ _).alloc (Nat.le_refl _) _).alloc (by simp) _), grown_of_below (((Below.refl _ _).alloc (Nat.le_refl _) _).alloc (by simp) _) _⟩
end Go.Proofs.YtcjfgbcdlcdeaaaGreatDoor
