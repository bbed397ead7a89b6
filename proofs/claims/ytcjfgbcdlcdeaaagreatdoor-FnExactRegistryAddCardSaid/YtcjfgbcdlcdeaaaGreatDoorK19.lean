/- Texts joined: IAskK. Conditions: as each theorem names them. -/
import Derived.Test.YtcjfgbcdlcdeaaaGreatDoorK18
/- The program's question of kinds. -/
namespace Go.Proofs.YtcjfgbcdlcdeaaaGreatDoor
open Go.RowKit
set_option maxRecDepth 100000
set_option linter.unusedVariables false
set_option linter.unusedSimpArgs false
attribute [local go_sem] ba_get ba_toList ba_extract take_drop_all ByteArray.mk_append_mk

set_option maxHeartbeats 2000000 in
theorem iAsk_kinds (w0 : World) (p1 p2 : Value) (xs ys : List PT) (hx : ISc w0 p1 xs) (hy : ISc w0 p2 ys) (n : Nat) (a b : Kd) (m : List Pair) (w : World)
    (ha : kdOk a) (hb : kdOk b) (hra : refOk (ptysOf xs) a) (hrb : refOk (ptysOf ys) b) (hst : IAskSt w0 p1 p2 w m)
    (ih : ∀ x y W, x ∈ xs → y ∈ ys → IAskSt w0 p1 p2 W m → 
      Calls Tryz.prog 159 #[.pointer (some ⟨w0.heap.size + 1, 0, none⟩), .pointer (some ⟨x.blk, 0, none⟩), .pointer (some ⟨y.blk, 0, none⟩)] W (IaPost w0 p1 p2 (evP (ptysOf xs) (ptysOf ys) (evK (ptysOf xs) (ptysOf ys) n) x.ty y.ty m) W)) :
    Calls Tryz.prog 122 #[.pointer (some ⟨w0.heap.size + 1, 0, none⟩), kdV a, kdV b] w (IaPost w0 p1 p2 (evK (ptysOf xs) (ptysOf ys) (n + 1) a b m) w) := by
  have HF := Lib.hid (show evK (ptysOf xs) (ptysOf ys) (n + 1) a b m = (if a.signs ≠ b.signs ∨ a.base ≠ b.base then (false, m)
    else if a.base ≠ [64] then (true, m)
    else match findTy (ptysOf xs) a.name, findTy (ptysOf ys) b.name with
      | some t, some u => if (a.name, b.name) ∈ m then (true, m) else evT (ptysOf xs) (ptysOf ys) (evK (ptysOf xs) (ptysOf ys) n) t u (m ++ [(a.name, b.name)])
      | _, _ => (false, m)) from by rw [evK]; rfl)
  have Hst := Lib.hid hst
  have hna := name_short ha
  have hnb := name_short hb
  have hsz := hst.2.1
  unfold kdV
  by_cases hsg : a.signs = b.signs
  · have t1 : (!(a.signs == b.signs)) = false := by simp [hsg]
    have t2 : (a.signs == b.signs) = true := by simp [hsg]
    by_cases hbs : a.base = b.base
    · have t3 : (!(a.base == b.base)) = false := by simp [hbs]
      have t4 : (a.base == b.base) = true := by simp [hbs]
      have HF1 := Lib.hid (HF.out.trans (if_neg (by simp [hsg, hbs])))
      by_cases h64 : a.base = [64]
      · have HF2 := Lib.hid (HF1.out.trans (if_neg (by simp [h64])))
        have h64b : b.base = [64] := hbs ▸ h64
        have h1 := hra h64
        have h2 := hrb h64b
        rw [findP_ty] at h1 h2
        obtain ⟨x, hxf⟩ := Option.isSome_iff_exists.1 (by simpa using h1 : (findP xs a.name).isSome = true)
        obtain ⟨y, hyf⟩ := Option.isSome_iff_exists.1 (by simpa using h2 : (findP ys b.name).isSome = true)
        have hxm := findP_mem hxf
        have hym := findP_mem hyf
        have HF3 := Lib.hid (show evK (ptysOf xs) (ptysOf ys) (n + 1) a b m = evP (ptysOf xs) (ptysOf ys) (evK (ptysOf xs) (ptysOf ys) n) x.ty y.ty m from by
          rw [HF2.out, hxm.2.2, hym.2.2]; unfold evP; rw [hxm.2.1, hym.2.1])
        have Hcall := Lib.hid (fun W (h : IAskSt w0 p1 p2 W m) => ih x y W hxm.1 hym.1 h)
        obtain ⟨pb1, _, _, mb1, rfl, q0, _, q2, _, q4, _, _⟩ := hx
        obtain ⟨pb2, _, _, mb2, rfl, s0, _, s2, _, s4, _, _⟩ := hy
        have Hl1 := Lib.hid (fun W (h : Below w0.heap.size w0 W) => show (Instr.lookup 174 (.map (some mb1)) (.string ⟨a.name.toArray⟩) false).run Tryz.prog W = .ok (.pointer (some ⟨x.blk, 0, none⟩)) W from by
          have := named_look (FMap.below q4 h) a.name (by omega); rw [hxf] at this; exact this)
        have Hl2 := Lib.hid (fun W (h : Below w0.heap.size w0 W) => show (Instr.lookup 174 (.map (some mb2)) (.string ⟨b.name.toArray⟩) false).run Tryz.prog W = .ok (.pointer (some ⟨y.blk, 0, none⟩)) W from by
          have := named_look (FMap.below s4 h) b.name (by omega); rw [hyf] at this; exact this)
        have P1 := Lib.hid q0
        have P2 := Lib.hid s0
        have M1 := Lib.hid q2
        have M2 := Lib.hid s2
        rw [hsg, h64, h64b]
        generalize evP (ptysOf xs) (ptysOf ys) (evK (ptysOf xs) (ptysOf ys) n) x.ty y.ty m = r at *
        obtain ⟨r1, r2⟩ := r
        clear ha hb hra hrb hst ih hsg hbs t1 t2 t3 t4 h64 h64b h1 h2 hxf hyf hxm hym q0 q2 q4 s0 s2 s4
        go_enter Tryz.func122, Tryz.ntmps122
        have t5 : (!(b.signs == b.signs)) = false := by simp
        go_wp2_with fail
        obtain ⟨W2, hW2⟩ : ∃ W2, W2 = (w.alloc (.cells #[.string ⟨b.signs.toArray⟩, .string ⟨#[64]⟩, .string ⟨a.name.toArray⟩] 83)).alloc (.cells #[.string ⟨b.signs.toArray⟩, .string ⟨#[64]⟩, .string ⟨b.name.toArray⟩] 83) := ⟨_, rfl⟩
        rw [← hW2]
        have hb2 : Below w.heap.size w W2 := by rw [hW2]; exact ((Below.refl _ _).alloc (Nat.le_refl _) _).alloc (by simp) _
        have Hst2 := Lib.hid (Hst.out.below hb2)
        have Hg2 := Lib.hid (grown_of_below hb2 (some w0.heap.size))
        have hz2 : W2.heap.size = w.heap.size + 2 := by rw [hW2]; simp
        have X41 := Lib.hid (show W2.cell? ⟨w.heap.size, 1, none⟩ = some (.string ⟨#[64]⟩) from by rw [hW2]; simp [go_sem])
        have X42 := Lib.hid (show W2.cell? ⟨w.heap.size, 2, none⟩ = some (.string ⟨a.name.toArray⟩) from by rw [hW2]; simp [go_sem])
        have X52 := Lib.hid (show W2.cell? ⟨w.heap.size + 1, 2, none⟩ = some (.string ⟨b.name.toArray⟩) from by rw [hW2]; simp [go_sem])
        have B4 := Lib.hid (show w.heap.size < W2.heap.size by omega)
        have B5 := Lib.hid (show w.heap.size + 1 < W2.heap.size by omega)
        have B4n := Lib.hid (show some w.heap.size ≠ some w0.heap.size from by simp; omega)
        have B5n := Lib.hid (show some (w.heap.size + 1) ≠ some w0.heap.size from by simp; omega)
        clear hW2 hb2
        refine wp_region_slots3 [19, 20, 21, 22, 23, 24, 25, 26, 27, 28, 29, 30, 31, 32, 33, 34, 35, 36, 37, 38, 39, 40, 41, 42, 43, 44, 45, 6] (by kernel_rfl) (by kernel_rfl) (by kernel_rfl) (fun u => by dsimp only [frameOf, setMany, List.set, Nat.zero_add, Nat.reduceAdd])
          (fun i v W => match i with | 0 => v = .pointer (some ⟨w.heap.size, 1, none⟩) | 1 => v = .string ⟨#[64]⟩ | 2 => v = .bool false | 3 => v = .bool false | 4 => v = .pointer (some ⟨w0.heap.size + 1, 0, none⟩) | 5 => v = .pointer (some ⟨w0.heap.size + 1, 0, none⟩) | 6 => v = .pointer (some ⟨w0.heap.size + 1, 0, none⟩) | 7 => v = .pointer (some ⟨w0.heap.size + 1, 0, none⟩) | 8 => v = .pointer (some ⟨pb1, 0, none⟩) | 9 => v = .pointer (some ⟨pb1, 0, none⟩) | 10 => v = .pointer (some ⟨pb1, 1, none⟩) | 11 => v = .map (some mb1) | 12 => v = .pointer (some ⟨w.heap.size, 2, none⟩) | 13 => v = .string ⟨a.name.toArray⟩ | 14 => v = .pointer (some ⟨x.blk, 0, none⟩) | 15 => v = .pointer (some ⟨w0.heap.size + 1, 0, none⟩) | 16 => v = .pointer (some ⟨w0.heap.size + 1, 0, none⟩) | 17 => v = .pointer (some ⟨w0.heap.size + 1, 1, none⟩) | 18 => v = .pointer (some ⟨pb2, 0, none⟩) | 19 => v = .pointer (some ⟨pb2, 0, none⟩) | 20 => v = .pointer (some ⟨pb2, 1, none⟩) | 21 => v = .map (some mb2) | 22 => v = .pointer (some ⟨w.heap.size + 1, 2, none⟩) | 23 => v = .string ⟨b.name.toArray⟩ | 24 => v = .pointer (some ⟨y.blk, 0, none⟩) | 25 => v = .bool r1 | 26 => v = .bool r1 | 27 => v = .bool r1 | _ => True)
          (fun L U W => ∃ mm, IAskSt w0 (.pointer (some ⟨pb1, 0, none⟩)) (.pointer (some ⟨pb2, 0, none⟩)) W mm ∧ W2.grownBy W (some w0.heap.size) ∧ (L 25 = true → mm = r2) ∧ (L 25 = false → mm = m)) (fun _ _ => True) (fun _ _ _ _ _ h => h) (⟨m, Hst2.out.below ((Below.refl _ _).drew), grown_of_below ((Below.refl _ _).drew) _, fun h => Bool.noConfusion h, fun _ => rfl⟩) ?_ ?_
        · repeat (first | exact Steps.nil | (refine Steps.cons ?_ ?_; rotate_left))
          all_goals
            rintro L U W hL hpre hR hun hdep K hK
            have HR := Lib.hid hR
            obtain ⟨mm, ha9, hk9, r5, r6⟩ := HR.out
            have a0 : W.cell? ⟨w0.heap.size + 1, 0, none⟩ = some (.pointer (some ⟨pb1, 0, none⟩)) := ha9.2.2.1
            have a1 : W.cell? ⟨w0.heap.size + 1, 1, none⟩ = some (.pointer (some ⟨pb2, 0, none⟩)) := ha9.2.2.2.1
            have b1 : W.cell? ⟨pb1, 1, none⟩ = some (.map (some mb1)) := (ha9.1.cell (p := ⟨pb1, 1, none⟩) P1.out).trans M1.out
            have b2 : W.cell? ⟨pb2, 1, none⟩ = some (.map (some mb2)) := (ha9.1.cell (p := ⟨pb2, 1, none⟩) P2.out).trans M2.out
            have x1 : W.cell? ⟨w.heap.size, 1, none⟩ = some (.string ⟨#[64]⟩) := (hk9.cell_far ⟨w.heap.size, 1, none⟩ B4.out B4n.out).trans X41.out
            have x2 : W.cell? ⟨w.heap.size, 2, none⟩ = some (.string ⟨a.name.toArray⟩) := (hk9.cell_far ⟨w.heap.size, 2, none⟩ B4.out B4n.out).trans X42.out
            have x3 : W.cell? ⟨w.heap.size + 1, 2, none⟩ = some (.string ⟨b.name.toArray⟩) := (hk9.cell_far ⟨w.heap.size + 1, 2, none⟩ B5.out B5n.out).trans X52.out
            have l1 := Hl1.out W ha9.1
            have l2 := Hl2.out W ha9.1
            clear hun hdep hR
            first | (simp [Region.binds] at hpre; done) | simp [Region.binds] at hpre | clear hpre
          iterate 25
            · go_simp
              first | exact hK _ _ _ rfl trivial HR.out rfl | exact hK _ _ _ rfl trivial HR.out (by simp [Act.put, hpre]) | exact hK undef _ _ trivial trivial HR.out (by simp [Act.put, hpre]) | exact hK _ _ _ trivial trivial HR.out rfl | exact hK _ _ _ trivial trivial HR.out (by simp [Act.put, hpre])
          · go_simp
            obtain rfl := r6 hL
            refine (Hcall.out W ha9).mono ?_
            rintro e w5 ⟨rfl, ha5, hk5⟩
            exact hK _ _ _ rfl trivial ⟨_, ha5, hk9.trans hk5, fun _ => rfl, fun h => by simp at h⟩ (by simp [Act.put, hpre])
          iterate 2
            · go_simp
              first | exact hK _ _ _ rfl trivial HR.out rfl | exact hK _ _ _ rfl trivial HR.out (by simp [Act.put, hpre]) | exact hK undef _ _ trivial trivial HR.out (by simp [Act.put, hpre]) | exact hK _ _ _ trivial trivial HR.out rfl | exact hK _ _ _ trivial trivial HR.out (by simp [Act.put, hpre])
        · rintro L U W hL hφ hR
          have e27 : U 27 = .bool r1 := hφ 27 (by decide)
          simp only [e27]
          clear hφ
          obtain ⟨mm, ha9, hk9, h1, _⟩ := hR
          obtain rfl := h1 (hL 25 (by decide))
          have Ha9 := Lib.hid ha9
          have Hk9 := Lib.hid (Hg2.out.trans hk9)
          clear hL ha9 hk9 h1
          go_wp2_with fail
          go_ret
          rw [HF3.out]
          exact ⟨rfl, Ha9.out, Hk9.out⟩
      · have HF2 := Lib.hid (HF1.out.trans (if_pos h64))
        have t5 : (a.base == [64]) = false := by simpa using h64
        have t6 : (a.base != [64]) = true := by simpa using h64
        clear ha hb hra hrb hst ih h64 hx hy
        rw [← hsg, ← hbs]
        clear hsg hbs t1 t2 t3 t4
        go_enter Tryz.func122, Tryz.ntmps122
        go_wp2_with fail
        obtain ⟨W2, hW2⟩ : ∃ W2, W2 = (w.alloc (.cells #[.string ⟨a.signs.toArray⟩, .string ⟨a.base.toArray⟩, .string ⟨a.name.toArray⟩] 83)).alloc (.cells #[.string ⟨a.signs.toArray⟩, .string ⟨a.base.toArray⟩, .string ⟨b.name.toArray⟩] 83) := ⟨_, rfl⟩
        rw [← hW2]
        have hb2 : Below w.heap.size w W2 := by rw [hW2]; exact ((Below.refl _ _).alloc (Nat.le_refl _) _).alloc (by simp) _
        have Hb2 := Lib.hid hb2
        have x1 : W2.cell? ⟨w.heap.size, 1, none⟩ = some (.string ⟨a.base.toArray⟩) := by rw [hW2]; simp [go_sem]
        clear hW2 hb2
        refine wp_region_slots3 [19, 20, 21, 22, 23, 24, 25, 26, 27, 28, 29, 30, 31, 32, 33, 34, 35, 36, 37, 38, 39, 40, 41, 42, 43, 44, 45, 6] (by kernel_rfl) (by kernel_rfl) (by kernel_rfl) (fun u => by dsimp only [frameOf, setMany, List.set, Nat.zero_add, Nat.reduceAdd])
          (fun i v W => match i with | 0 => v = .pointer (some ⟨w.heap.size, 1, none⟩) | 1 => v = .string ⟨a.base.toArray⟩ | 2 => v = .bool true | 3 => v = .bool true | 4 => v = undef | 5 => v = undef | 6 => v = undef | 7 => v = undef | 8 => v = undef | 9 => v = undef | 10 => v = undef | 11 => v = undef | 12 => v = undef | 13 => v = undef | 14 => v = undef | 15 => v = undef | 16 => v = undef | 17 => v = undef | 18 => v = undef | 19 => v = undef | 20 => v = undef | 21 => v = undef | 22 => v = undef | 23 => v = undef | 24 => v = undef | 25 => v = undef | 26 => v = .bool true | 27 => v = .bool true | _ => True)
          (fun L U W => ∃ q, W = W2.drewN q) (fun _ _ => True) (fun _ _ _ _ _ h => h) (⟨1, rfl⟩) ?_ ?_
        · repeat (first | exact Steps.nil | (refine Steps.cons ?_ ?_; rotate_left))
          all_goals
            rintro L U W hL hpre hR hun hdep K hK
            have HR := Lib.hid hR
            obtain ⟨q, rfl⟩ := HR.out
            clear hun hdep hR
            first | (simp [Region.binds] at hpre; done) | simp [Region.binds] at hpre | clear hpre
          iterate 28
            · go_simp
              first | exact hK _ _ _ rfl trivial HR.out rfl | exact hK _ _ _ rfl trivial HR.out (by simp [Act.put, hpre]) | exact hK undef _ _ trivial trivial HR.out (by simp [Act.put, hpre]) | exact hK _ _ _ trivial trivial HR.out rfl | exact hK _ _ _ trivial trivial HR.out (by simp [Act.put, hpre])
        · rintro L U W hL hφ hR
          have e27 : U 27 = .bool true := hφ 27 (by decide)
          simp only [e27]
          clear hφ
          obtain ⟨q, rfl⟩ := hR
          have Hbq := Lib.hid (Hb2.out.trans ((below_drewN (Below.refl W2.heap.size W2) q).mono Hb2.out.size))
          clear hL
          go_wp2_with fail
          go_ret
          rw [HF2.out]
          exact ⟨rfl, Hst.out.below Hbq.out, grown_of_below Hbq.out _⟩
    · have t3 : (!(a.base == b.base)) = true := by simpa using hbs
      have t4 : (a.base == b.base) = false := by simpa using hbs
      have HF1 := Lib.hid (HF.out.trans (if_pos (.inr hbs)))
      clear ha hb hra hrb hst ih hsg hbs hx hy
      go_enter Tryz.func122, Tryz.ntmps122
      go_wp2_with fail
      go_ret
      rw [HF1.out]
      exact ⟨rfl, Hst.out.below (((Below.refl _ _).alloc (Nat.le_refl _) _).alloc (by simp) _), grown_of_below (((Below.refl _ _).alloc (Nat.le_refl _) _).alloc (by simp) _) _⟩
  · have t1 : (!(a.signs == b.signs)) = true := by simpa using hsg
    have t2 : (a.signs == b.signs) = false := by simpa using hsg
    have HF1 := Lib.hid (HF.out.trans (if_pos (.inl hsg)))
    clear ha hb hra hrb hst ih hsg hx hy
    go_enter Tryz.func122, Tryz.ntmps122
    go_wp2_with fail
    go_ret
    rw [HF1.out]
    exact ⟨rfl, Hst.out.below (((Below.refl _ _).alloc (Nat.le_refl _) _).alloc (by simp) _), grown_of_below (((Below.refl _ _).alloc (Nat.le_refl _) _).alloc (by simp) _) _⟩
end Go.Proofs.YtcjfgbcdlcdeaaaGreatDoor
