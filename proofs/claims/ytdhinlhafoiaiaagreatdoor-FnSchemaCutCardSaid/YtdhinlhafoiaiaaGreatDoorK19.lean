/- Texts joined: IAskK, SAsk, AppW2, SAskK. Conditions: as each theorem names them. -/
import Derived.Test.YtdhinlhafoiaiaaGreatDoorK14
import Derived.Test.YtdhinlhafoiaiaaGreatDoorK15
import Derived.Test.YtdhinlhafoiaiaaGreatDoorK18
/- The program's question of kinds. -/
namespace Go.Proofs.YtdhinlhafoiaiaaGreatDoor
open Go.RowKit
set_option maxRecDepth 100000
set_option linter.unusedVariables false
set_option linter.unusedSimpArgs false
attribute [local go_sem] ba_get ba_toList ba_extract take_drop_all ByteArray.mk_append_mk

set_option maxHeartbeats 2000000 in
theorem iAsk_kinds (w0 : World) (p1 p2 : Value) (xs ys : List PT) (hx : ISc w0 p1 xs) (hy : ISc w0 p2 ys) (n : Nat) (a b : Kd) (m : List Pair) (w : World)
    (ha : kdOk a) (hb : kdOk b) (hra : refOk (ptysOf xs) a) (hrb : refOk (ptysOf ys) b) (hst : IAskSt w0 p1 p2 w m)
    (ih : ∀ x y W, x ∈ xs → y ∈ ys → IAskSt w0 p1 p2 W m → 
      Calls Tryz.prog 127 #[.pointer (some ⟨w0.heap.size + 1, 0, none⟩), .pointer (some ⟨x.blk, 0, none⟩), .pointer (some ⟨y.blk, 0, none⟩)] W (IaPost w0 p1 p2 (evP (ptysOf xs) (ptysOf ys) (evK (ptysOf xs) (ptysOf ys) n) x.ty y.ty m) W)) :
    Calls Tryz.prog 101 #[.pointer (some ⟨w0.heap.size + 1, 0, none⟩), kdV a, kdV b] w (IaPost w0 p1 p2 (evK (ptysOf xs) (ptysOf ys) (n + 1) a b m) w) := by
  have HF := Lib.hid (show evK (ptysOf xs) (ptysOf ys) (n + 1) a b m = (if a.signs ≠ b.signs ∨ a.base ≠ b.base then (false, m)
    else if a.base ≠ [64] then (true, m)
    else match findTy (ptysOf xs) a.name, findTy (ptysOf ys) b.name with
      | some t, some u => if (a.name, b.name) ∈ m then (true, m) else evT (ptysOf xs) (ptysOf ys) (evK (ptysOf xs) (ptysOf ys) n) t u (m ++ [(a.name, b.name)])
      | _, _ => (false, m)) from by rw [evK]; rfl)
  have Hst := Lib.hid hst
  have hna := name_short ha
  have hnb := name_short hb
  have hsz := hst.2.1
  unfold kdV
  by_cases hsg : a.signs = b.signs
  · have t1 : (!(a.signs == b.signs)) = false := by simp [hsg]
    have t2 : (a.signs == b.signs) = true := by simp [hsg]
    by_cases hbs : a.base = b.base
    · have t3 : (!(a.base == b.base)) = false := by simp [hbs]
      have t4 : (a.base == b.base) = true := by simp [hbs]
      have HF1 := Lib.hid (HF.out.trans (if_neg (by simp [hsg, hbs])))
      by_cases h64 : a.base = [64]
      · have HF2 := Lib.hid (HF1.out.trans (if_neg (by simp [h64])))
        have h64b : b.base = [64] := hbs ▸ h64
        have h1 := hra h64
        have h2 := hrb h64b
        rw [findP_ty] at h1 h2
        obtain ⟨x, hxf⟩ := Option.isSome_iff_exists.1 (by simpa using h1 : (findP xs a.name).isSome = true)
        obtain ⟨y, hyf⟩ := Option.isSome_iff_exists.1 (by simpa using h2 : (findP ys b.name).isSome = true)
        have hxm := findP_mem hxf
        have hym := findP_mem hyf
        have HF3 := Lib.hid (show evK (ptysOf xs) (ptysOf ys) (n + 1) a b m = evP (ptysOf xs) (ptysOf ys) (evK (ptysOf xs) (ptysOf ys) n) x.ty y.ty m from by
          rw [HF2.out, hxm.2.2, hym.2.2]; unfold evP; rw [hxm.2.1, hym.2.1])
        have Hcall := Lib.hid (fun W (h : IAskSt w0 p1 p2 W m) => ih x y W hxm.1 hym.1 h)
        obtain ⟨pb1, _, _, mb1, rfl, q0, _, q2, _, q4, _, _⟩ := hx
        obtain ⟨pb2, _, _, mb2, rfl, s0, _, s2, _, s4, _, _⟩ := hy
        have Hl1 := Lib.hid (fun W (h : Below w0.heap.size w0 W) => show (Instr.lookup 130 (.map (some mb1)) (.string ⟨a.name.toArray⟩) false).run Tryz.prog W = .ok (.pointer (some ⟨x.blk, 0, none⟩)) W from by
          have := named_look (FMap.below q4 h) a.name (by omega); rw [hxf] at this; exact this)
        have Hl2 := Lib.hid (fun W (h : Below w0.heap.size w0 W) => show (Instr.lookup 130 (.map (some mb2)) (.string ⟨b.name.toArray⟩) false).run Tryz.prog W = .ok (.pointer (some ⟨y.blk, 0, none⟩)) W from by
          have := named_look (FMap.below s4 h) b.name (by omega); rw [hyf] at this; exact this)
        have P1 := Lib.hid q0
        have P2 := Lib.hid s0
        have M1 := Lib.hid q2
        have M2 := Lib.hid s2
        rw [hsg, h64, h64b]
        generalize evP (ptysOf xs) (ptysOf ys) (evK (ptysOf xs) (ptysOf ys) n) x.ty y.ty m = r at *
        obtain ⟨r1, r2⟩ := r
        clear ha hb hra hrb hst ih hsg hbs t1 t2 t3 t4 h64 h64b h1 h2 hxf hyf hxm hym q0 q2 q4 s0 s2 s4
        go_enter Tryz.func101, Tryz.ntmps101
        have t5 : (!(b.signs == b.signs)) = false := by simp
        go_wp2_with fail
        obtain ⟨W2, hW2⟩ : ∃ W2, W2 = (w.alloc (.cells #[.string ⟨b.signs.toArray⟩, .string ⟨#[64]⟩, .string ⟨a.name.toArray⟩] 70)).alloc (.cells #[.string ⟨b.signs.toArray⟩, .string ⟨#[64]⟩, .string ⟨b.name.toArray⟩] 70) := ⟨_, rfl⟩
        rw [← hW2]
        have hb2 : Below w.heap.size w W2 := by rw [hW2]; exact ((Below.refl _ _).alloc (Nat.le_refl _) _).alloc (by simp) _
        have Hst2 := Lib.hid (Hst.out.below hb2)
        have Hg2 := Lib.hid (grown_of_below hb2 (some w0.heap.size))
        have hz2 : W2.heap.size = w.heap.size + 2 := by rw [hW2]; simp
        have X41 := Lib.hid (show W2.cell? ⟨w.heap.size, 1, none⟩ = some (.string ⟨#[64]⟩) from by rw [hW2]; simp [go_sem])
        have X42 := Lib.hid (show W2.cell? ⟨w.heap.size, 2, none⟩ = some (.string ⟨a.name.toArray⟩) from by rw [hW2]; simp [go_sem])
        have X52 := Lib.hid (show W2.cell? ⟨w.heap.size + 1, 2, none⟩ = some (.string ⟨b.name.toArray⟩) from by rw [hW2]; simp [go_sem])
        have B4 := Lib.hid (show w.heap.size < W2.heap.size by omega)
        have B5 := Lib.hid (show w.heap.size + 1 < W2.heap.size by omega)
        have B4n := Lib.hid (show some w.heap.size ≠ some w0.heap.size from by simp; omega)
        have B5n := Lib.hid (show some (w.heap.size + 1) ≠ some w0.heap.size from by simp; omega)
        clear hW2 hb2
        refine wp_region_slots3 [19, 20, 21, 22, 23, 24, 25, 26, 27, 28, 29, 30, 31, 32, 33, 34, 35, 36, 37, 38, 39, 40, 41, 42, 43, 44, 45, 6] (by kernel_rfl) (by kernel_rfl) (by kernel_rfl) (fun u => by dsimp only [frameOf, setMany, List.set, Nat.zero_add, Nat.reduceAdd])
          (fun i v W => match i with | 0 => v = .pointer (some ⟨w.heap.size, 1, none⟩) | 1 => v = .string ⟨#[64]⟩ | 2 => v = .bool false | 3 => v = .bool false | 4 => v = .pointer (some ⟨w0.heap.size + 1, 0, none⟩) | 5 => v = .pointer (some ⟨w0.heap.size + 1, 0, none⟩) | 6 => v = .pointer (some ⟨w0.heap.size + 1, 0, none⟩) | 7 => v = .pointer (some ⟨w0.heap.size + 1, 0, none⟩) | 8 => v = .pointer (some ⟨pb1, 0, none⟩) | 9 => v = .pointer (some ⟨pb1, 0, none⟩) | 10 => v = .pointer (some ⟨pb1, 1, none⟩) | 11 => v = .map (some mb1) | 12 => v = .pointer (some ⟨w.heap.size, 2, none⟩) | 13 => v = .string ⟨a.name.toArray⟩ | 14 => v = .pointer (some ⟨x.blk, 0, none⟩) | 15 => v = .pointer (some ⟨w0.heap.size + 1, 0, none⟩) | 16 => v = .pointer (some ⟨w0.heap.size + 1, 0, none⟩) | 17 => v = .pointer (some ⟨w0.heap.size + 1, 1, none⟩) | 18 => v = .pointer (some ⟨pb2, 0, none⟩) | 19 => v = .pointer (some ⟨pb2, 0, none⟩) | 20 => v = .pointer (some ⟨pb2, 1, none⟩) | 21 => v = .map (some mb2) | 22 => v = .pointer (some ⟨w.heap.size + 1, 2, none⟩) | 23 => v = .string ⟨b.name.toArray⟩ | 24 => v = .pointer (some ⟨y.blk, 0, none⟩) | 25 => v = .bool r1 | 26 => v = .bool r1 | 27 => v = .bool r1 | _ => True)
          (fun L U W => ∃ mm, IAskSt w0 (.pointer (some ⟨pb1, 0, none⟩)) (.pointer (some ⟨pb2, 0, none⟩)) W mm ∧ W2.grownBy W (some w0.heap.size) ∧ (L 25 = true → mm = r2) ∧ (L 25 = false → mm = m)) (fun _ _ => True) (fun _ _ _ _ _ h => h) (⟨m, Hst2.out.below ((Below.refl _ _).drew), grown_of_below ((Below.refl _ _).drew) _, fun h => Bool.noConfusion h, fun _ => rfl⟩) ?_ ?_
        · repeat (first | exact Steps.nil | (refine Steps.cons ?_ ?_; rotate_left))
          all_goals
            rintro L U W hL hpre hR hun hdep K hK
            have HR := Lib.hid hR
            obtain ⟨mm, ha9, hk9, r5, r6⟩ := HR.out
            have a0 : W.cell? ⟨w0.heap.size + 1, 0, none⟩ = some (.pointer (some ⟨pb1, 0, none⟩)) := ha9.2.2.1
            have a1 : W.cell? ⟨w0.heap.size + 1, 1, none⟩ = some (.pointer (some ⟨pb2, 0, none⟩)) := ha9.2.2.2.1
            have b1 : W.cell? ⟨pb1, 1, none⟩ = some (.map (some mb1)) := (ha9.1.cell (p := ⟨pb1, 1, none⟩) P1.out).trans M1.out
            have b2 : W.cell? ⟨pb2, 1, none⟩ = some (.map (some mb2)) := (ha9.1.cell (p := ⟨pb2, 1, none⟩) P2.out).trans M2.out
            have x1 : W.cell? ⟨w.heap.size, 1, none⟩ = some (.string ⟨#[64]⟩) := (hk9.cell_far ⟨w.heap.size, 1, none⟩ B4.out B4n.out).trans X41.out
            have x2 : W.cell? ⟨w.heap.size, 2, none⟩ = some (.string ⟨a.name.toArray⟩) := (hk9.cell_far ⟨w.heap.size, 2, none⟩ B4.out B4n.out).trans X42.out
            have x3 : W.cell? ⟨w.heap.size + 1, 2, none⟩ = some (.string ⟨b.name.toArray⟩) := (hk9.cell_far ⟨w.heap.size + 1, 2, none⟩ B5.out B5n.out).trans X52.out
            have l1 := Hl1.out W ha9.1
            have l2 := Hl2.out W ha9.1
            clear hun hdep hR
            first | (simp [Region.binds] at hpre; done) | simp [Region.binds] at hpre | clear hpre
          iterate 25
            · go_simp
              first | exact hK _ _ _ rfl trivial HR.out rfl | exact hK _ _ _ rfl trivial HR.out (by simp [Act.put, hpre]) | exact hK undef _ _ trivial trivial HR.out (by simp [Act.put, hpre]) | exact hK _ _ _ trivial trivial HR.out rfl | exact hK _ _ _ trivial trivial HR.out (by simp [Act.put, hpre])
          · go_simp
            obtain rfl := r6 hL
            refine (Hcall.out W ha9).mono ?_
            rintro e w5 ⟨rfl, ha5, hk5⟩
            exact hK _ _ _ rfl trivial ⟨_, ha5, hk9.trans hk5, fun _ => rfl, fun h => by simp at h⟩ (by simp [Act.put, hpre])
          iterate 2
            · go_simp
              first | exact hK _ _ _ rfl trivial HR.out rfl | exact hK _ _ _ rfl trivial HR.out (by simp [Act.put, hpre]) | exact hK undef _ _ trivial trivial HR.out (by simp [Act.put, hpre]) | exact hK _ _ _ trivial trivial HR.out rfl | exact hK _ _ _ trivial trivial HR.out (by simp [Act.put, hpre])
        · rintro L U W hL hφ hR
          have e27 : U 27 = .bool r1 := hφ 27 (by decide)
          simp only [e27]
          clear hφ
          obtain ⟨mm, ha9, hk9, h1, _⟩ := hR
          obtain rfl := h1 (hL 25 (by decide))
          have Ha9 := Lib.hid ha9
          have Hk9 := Lib.hid (Hg2.out.trans hk9)
          clear hL ha9 hk9 h1
          go_wp2_with fail
          go_ret
          rw [HF3.out]
          exact ⟨rfl, Ha9.out, Hk9.out⟩
      · have HF2 := Lib.hid (HF1.out.trans (if_pos h64))
        have t5 : (a.base == [64]) = false := by simpa using h64
        have t6 : (a.base != [64]) = true := by simpa using h64
        clear ha hb hra hrb hst ih h64 hx hy
        rw [← hsg, ← hbs]
        clear hsg hbs t1 t2 t3 t4
        go_enter Tryz.func101, Tryz.ntmps101
        go_wp2_with fail
        obtain ⟨W2, hW2⟩ : ∃ W2, W2 = (w.alloc (.cells #[.string ⟨a.signs.toArray⟩, .string ⟨a.base.toArray⟩, .string ⟨a.name.toArray⟩] 70)).alloc (.cells #[.string ⟨a.signs.toArray⟩, .string ⟨a.base.toArray⟩, .string ⟨b.name.toArray⟩] 70) := ⟨_, rfl⟩
        rw [← hW2]
        have hb2 : Below w.heap.size w W2 := by rw [hW2]; exact ((Below.refl _ _).alloc (Nat.le_refl _) _).alloc (by simp) _
        have Hb2 := Lib.hid hb2
        have x1 : W2.cell? ⟨w.heap.size, 1, none⟩ = some (.string ⟨a.base.toArray⟩) := by rw [hW2]; simp [go_sem]
        clear hW2 hb2
        refine wp_region_slots3 [19, 20, 21, 22, 23, 24, 25, 26, 27, 28, 29, 30, 31, 32, 33, 34, 35, 36, 37, 38, 39, 40, 41, 42, 43, 44, 45, 6] (by kernel_rfl) (by kernel_rfl) (by kernel_rfl) (fun u => by dsimp only [frameOf, setMany, List.set, Nat.zero_add, Nat.reduceAdd])
          (fun i v W => match i with | 0 => v = .pointer (some ⟨w.heap.size, 1, none⟩) | 1 => v = .string ⟨a.base.toArray⟩ | 2 => v = .bool true | 3 => v = .bool true | 4 => v = undef | 5 => v = undef | 6 => v = undef | 7 => v = undef | 8 => v = undef | 9 => v = undef | 10 => v = undef | 11 => v = undef | 12 => v = undef | 13 => v = undef | 14 => v = undef | 15 => v = undef | 16 => v = undef | 17 => v = undef | 18 => v = undef | 19 => v = undef | 20 => v = undef | 21 => v = undef | 22 => v = undef | 23 => v = undef | 24 => v = undef | 25 => v = undef | 26 => v = .bool true | 27 => v = .bool true | _ => True)
          (fun L U W => ∃ q, W = W2.drewN q) (fun _ _ => True) (fun _ _ _ _ _ h => h) (⟨1, rfl⟩) ?_ ?_
        · repeat (first | exact Steps.nil | (refine Steps.cons ?_ ?_; rotate_left))
          all_goals
            rintro L U W hL hpre hR hun hdep K hK
            have HR := Lib.hid hR
            obtain ⟨q, rfl⟩ := HR.out
            clear hun hdep hR
            first | (simp [Region.binds] at hpre; done) | simp [Region.binds] at hpre | clear hpre
          iterate 28
            · go_simp
              first | exact hK _ _ _ rfl trivial HR.out rfl | exact hK _ _ _ rfl trivial HR.out (by simp [Act.put, hpre]) | exact hK undef _ _ trivial trivial HR.out (by simp [Act.put, hpre]) | exact hK _ _ _ trivial trivial HR.out rfl | exact hK _ _ _ trivial trivial HR.out (by simp [Act.put, hpre])
        · rintro L U W hL hφ hR
          have e27 : U 27 = .bool true := hφ 27 (by decide)
          simp only [e27]
          clear hφ
          obtain ⟨q, rfl⟩ := hR
          have Hbq := Lib.hid (Hb2.out.trans ((below_drewN (Below.refl W2.heap.size W2) q).mono Hb2.out.size))
          clear hL
          go_wp2_with fail
          go_ret
          rw [HF2.out]
          exact ⟨rfl, Hst.out.below Hbq.out, grown_of_below Hbq.out _⟩
    · have t3 : (!(a.base == b.base)) = true := by simpa using hbs
      have t4 : (a.base == b.base) = false := by simpa using hbs
      have HF1 := Lib.hid (HF.out.trans (if_pos (.inr hbs)))
      clear ha hb hra hrb hst ih hsg hbs hx hy
      go_enter Tryz.func101, Tryz.ntmps101
      go_wp2_with fail
      go_ret
      rw [HF1.out]
      exact ⟨rfl, Hst.out.below (((Below.refl _ _).alloc (Nat.le_refl _) _).alloc (by simp) _), grown_of_below (((Below.refl _ _).alloc (Nat.le_refl _) _).alloc (by simp) _) _⟩
  · have t1 : (!(a.signs == b.signs)) = true := by simpa using hsg
    have t2 : (a.signs == b.signs) = false := by simpa using hsg
    have HF1 := Lib.hid (HF.out.trans (if_pos (.inl hsg)))
    clear ha hb hra hrb hst ih hsg hx hy
    go_enter Tryz.func101, Tryz.ntmps101
    go_wp2_with fail
    go_ret
    rw [HF1.out]
    exact ⟨rfl, Hst.out.below (((Below.refl _ _).alloc (Nat.le_refl _) _).alloc (by simp) _), grown_of_below (((Below.refl _ _).alloc (Nat.le_refl _) _).alloc (by simp) _) _⟩
end Go.Proofs.YtdhinlhafoiaiaaGreatDoor
/- What the reference's evolution keeps while it asks: two schemas, and the pairs that were asked for. -/
namespace Go.Proofs.YtdhinlhafoiaiaaGreatDoor
open Go.RowKit
set_option linter.unusedVariables false

/-- The cells of a pair of names. -/
def pairc (p : Pair) : List Value := [.string ⟨p.1.toArray⟩, .string ⟨p.2.toArray⟩]
theorem pairc_len (p : Pair) : (pairc p).length = 2 := rfl
theorem Tryz.infoPair : (Tryz.prog.info? 184).map (fun i => (i.zero, i.size, i.bytes)) = some (some (.agg #[.string ⟨#[]⟩, .string ⟨#[]⟩]), 2, 32) := by kernel_rfl

/-- The struct of the question lies at block w0.heap.size; the row of pairs is the question's own. -/
def AskSt (w0 : World) (v1 v2 : Value) (w : World) (m : List Pair) (mv : Value) : Prop :=
  Below w0.heap.size w0 w ∧ w0.heap.size + 1 ≤ w.heap.size ∧ w.cell? ⟨w0.heap.size, 0, none⟩ = some v1 ∧ w.cell? ⟨w0.heap.size, 1, none⟩ = some v2 ∧ w.cell? ⟨w0.heap.size, 2, none⟩ = some mv ∧ w.there w0.heap.size 0 3 ∧
    w.ownsRow (w0.heap.size + 1) 184 2 mv m.length (m.flatMap pairc)
/-- What may turn: block ab, and the row of mv. -/
structure Kept (ab : Nat) (mv : Value) (w w' : World) (mv' : Value) : Prop where
  size : w.heap.size ≤ w'.heap.size
  block : ∀ b, b < w.heap.size → b ≠ ab → some b ≠ mv.ownBlock → w'.heap[b]? = w.heap[b]?
  own : mv'.ownBlock = mv.ownBlock ∨ ∃ k, mv'.ownBlock = some k ∧ w.heap.size ≤ k
theorem Kept.refl (ab : Nat) (mv : Value) (w : World) : Kept ab mv w w mv := ⟨Nat.le_refl _, fun _ _ _ _ => rfl, .inl rfl⟩
theorem Kept.trans {ab : Nat} {v1 v2 v3 : Value} {a b c : World} (h : Kept ab v1 a b v2) (k : Kept ab v2 b c v3) : Kept ab v1 a c v3 := by
  refine ⟨Nat.le_trans h.size k.size, fun x hx h1 h2 => (k.block x (Nat.lt_of_lt_of_le hx h.size) h1 ?_).trans (h.block x hx h1 h2), ?_⟩
  · rcases h.own with e | ⟨y, e, hy⟩
    · rw [e]; exact h2
    · rw [e]; intro he; injection he with he; omega
  · rcases k.own with e | ⟨y, e, hy⟩
    · rw [e]; exact h.own
    · exact .inr ⟨y, e, Nat.le_trans h.size hy⟩
theorem Kept.of_below {ab : Nat} {mv : Value} {w w' : World} (h : Below w.heap.size w w') : Kept ab mv w w' mv := ⟨h.size, fun b hb _ _ => h.block b hb, .inl rfl⟩
theorem Kept.cell {ab : Nat} {mv mv' : Value} {w w' : World} (h : Kept ab mv w w' mv') {b o : Nat} (hb : b < w.heap.size) (h1 : b ≠ ab) (h2 : some b ≠ mv.ownBlock) : w'.cell? ⟨b, o, none⟩ = w.cell? ⟨b, o, none⟩ := World.cell?_of_block (h.block b hb h1 h2)
theorem Kept.range {ab : Nat} {mv mv' : Value} {w w' : World} (h : Kept ab mv w w' mv') {b o : Nat} {cs : List Value} (hr : w.rangeAt b o cs) (hb : b < w.heap.size) (h1 : b ≠ ab) (h2 : some b ≠ mv.ownBlock) : w'.rangeAt b o cs := fun j v hv => (h.cell hb h1 h2).trans (hr j v hv)

theorem AskSt.size {w0 w : World} {v1 v2 mv : Value} {m : List Pair} (h : AskSt w0 v1 v2 w m mv) : w0.heap.size < w.heap.size := h.2.1
/-- A block that is not the question's, and not its row. -/
theorem AskSt.far {w0 w : World} {v1 v2 mv : Value} {m : List Pair} (h : AskSt w0 v1 v2 w m mv) : ∀ b, w.heap.size ≤ b → some b ≠ mv.ownBlock := fun b hb e => by
  have := (h.2.2.2.2.2.2.lt b e.symm).2
  omega
theorem AskSt.below {w0 w w' : World} {v1 v2 mv : Value} {m : List Pair} (h : AskSt w0 v1 v2 w m mv) (hb : Below w.heap.size w w') : AskSt w0 v1 v2 w' m mv := by
  obtain ⟨h1, h2, h3, h4, h5, h6, h7⟩ := h
  exact ⟨h1.trans (hb.mono (by omega)), Nat.le_trans h2 hb.size, (hb.cell (p := ⟨w0.heap.size, 0, none⟩) (show w0.heap.size < _ by omega)).trans h3, (hb.cell (p := ⟨w0.heap.size, 1, none⟩) (show w0.heap.size < _ by omega)).trans h4,
    (hb.cell (p := ⟨w0.heap.size, 2, none⟩) (show w0.heap.size < _ by omega)).trans h5, there_below h6 (by omega) hb, ownsRow_below h7 hb⟩
/-- A pair is put behind the others. -/
theorem AskSt.push {w0 w w5 : World} {v1 v2 mv mv5 : Value} {m : List Pair} {p : Pair} (h : AskSt w0 v1 v2 w m mv) (hown : w5.ownsRow (w0.heap.size + 1) 184 2 mv5 (m.length + 1) (m.flatMap pairc ++ pairc p)) (hg : w.grownBy w5 mv.ownBlock)
    (hwh : mv5.ownBlock = mv.ownBlock ∨ ∃ k, mv5.ownBlock = some k ∧ w.heap.size ≤ k) :
    AskSt w0 v1 v2 (w5.setCell ⟨w0.heap.size, 2, none⟩ mv5) (m ++ [p]) mv5 ∧ Kept w0.heap.size mv w (w5.setCell ⟨w0.heap.size, 2, none⟩ mv5) mv5 := by
  obtain ⟨h1, h2, h3, h4, h5, h6, h7⟩ := h
  have hb : Below (w0.heap.size + 1) w w5 := (Below.refl _ _).grown hg h2 (fun k hk => (h7.lt k hk).1)
  have h6' : w5.there w0.heap.size 0 3 := there_below h6 (show w0.heap.size < w0.heap.size + 1 by omega) hb
  have hc : ∀ j, j ≠ 2 → (w5.setCell ⟨w0.heap.size, 2, none⟩ mv5).cell? ⟨w0.heap.size, j, none⟩ = w.cell? ⟨w0.heap.size, j, none⟩ := fun j hj => by
    rw [World.cell?_setCell_other _ _ _ _ (by intro e; injection e with e1 e2; omega)]
    exact hb.cell (p := ⟨w0.heap.size, j, none⟩) (show w0.heap.size < _ by omega)
  refine ⟨⟨(h1.trans (hb.mono (by omega))).setCell (Nat.le_refl _) _, by simp; exact Nat.le_trans h2 hb.size, (hc 0 (by decide)).trans h3, (hc 1 (by decide)).trans h4, ?_, World.there_setCells h6' w0.heap.size 2 [_], ?_⟩, ?_⟩
  · have := World.rangeAt_setCells_same w5 w0.heap.size 2 [mv5] (there_sub h6' 2 1 (by decide) (by decide))
    exact (by simpa using rangeAt_cell this 0 rfl : (w5.setCells w0.heap.size 2 [mv5]).cell? ⟨w0.heap.size, 2, none⟩ = some mv5)
  · rw [List.length_append, List.flatMap_append]
    refine World.ownsRow.kept (show w5.ownsRow (w0.heap.size + 1) 184 2 mv5 (m.length + [p].length) (m.flatMap pairc ++ [p].flatMap pairc) from by simpa using hown) (grown_set w5 _ _) (.inr (fun e => absurd (show w0.heap.size + 1 ≤ w0.heap.size from (hown.lt _ e).1) (by omega)))
  · refine ⟨by simp; exact hg.size, fun b hb h1 h2 => ?_, hwh⟩
    rw [Below.heap_setCell _ _ _ _ h1]
    exact hg.block b hb h2
/-- What asking leaves. -/
def AkPost (w0 : World) (v1 v2 : Value) (r : Bool × List Pair) (w : World) (mv : Value) (e : Ending) (w' : World) : Prop := e = .returned (.bool r.1) ∧ ∃ mv', AskSt w0 v1 v2 w' r.2 mv' ∧ Kept w0.heap.size mv w w' mv'
end Go.Proofs.YtdhinlhafoiaiaaGreatDoor
/- Append of one element of several cells to a row of the call's own: as one operation, and where the row lies then. -/
namespace Go.Proofs.YtdhinlhafoiaiaaGreatDoor
open Go.RowKit
set_option linter.unusedVariables false

section
variable {P : Program}
theorem wp_appKW (W : World) {o : Oper} {a : Act} {K : Act → World → Prop} {Q : Exit → Act → World → Prop} (s x : Operand) (t : TypeId)
    (ho : o.op = .call { callee := .builtin .append, args := #[s, x], argTypes := #[t, t] })
    (base : Nat) (e : TypeId) (z : Value) (k bytes : Nat) (ht : P.underlying t = some (.slice e)) (hinfo : (P.info? e).map (fun i => (i.zero, i.size, i.bytes)) = some (some z, k, bytes))
    (hzs : z.cells.size = k) (hk : 0 < k) (us : List Value) (hul : us.length = k) (hu : ∀ u ∈ us, u.oneCell' = true) (v : Value) (n : Nat) (xs : List Value) (hs : a.eval s = v) (hx : a.eval x = .slice (some ⟨W.heap.size, 0, none⟩) 1 1)
    (hown : W.ownsRow base e k v n xs) (h63 : n + 1 ≤ maxLen) (hbytes : (n + 1) * bytes ≤ 140737488355328) (hbase : base ≤ W.heap.size)
    (h : ∀ v' w', w'.ownsRow base e k v' (n + 1) (xs ++ us) → W.grownBy w' v.ownBlock → (v'.ownBlock = v.ownBlock ∨ ∃ k, v'.ownBlock = some k ∧ W.heap.size ≤ k) → K (a.put o.dst v') w') : Oper.wp P o a (W.alloc (.cells us.toArray e)) K Q := by
  obtain ⟨i0, hi, hz0, hz1, hz2⟩ := info_parts hinfo
  obtain ⟨v', w', hrun, r1, r2, r3⟩ := run_append_where (P := P) (W.alloc (.cells us.toArray e)) base t o.type e i0 z k bytes ht hi hz0 hz1 hz2 hzs hk v n xs (hown.alloc _) ⟨W.heap.size, 0, none⟩ 1 1 us (by omega) (by
    intro j y hj
    have e1 : (⟨W.heap.size, 0, none⟩ : Addr).add j = ⟨W.heap.size, j, none⟩ := by unfold Addr.add; split <;> simp_all
    rw [e1, World.cell?_alloc_new]
    simpa using hj) hu (by decide) h63 hbytes (by simp; omega)
  unfold Oper.wp
  simp [execOp, ho, resolve, invoke, builtin, hs, hx, hrun, Result.andThen]
  refine h v' w' r1 ?_ ?_
  · exact ⟨r2.os, r2.tape, r2.output, Nat.le_trans (by simp) r2.size, fun k hk hne => (r2.block k (by simp; omega) hne).trans (heap_alloc_old W _ hk)⟩
  · rcases r3 with r3 | ⟨k, r3, r4⟩
    · exact .inl r3
    · exact .inr ⟨k, r3, by simp at r4; omega⟩
theorem wpList_appKW (W : World) {ops : Array Oper} {rest : List Oper} {o : Oper} {a : Act} {Q : Exit → Act → World → Prop} (hgd : o.guard = none) (s x : Operand) (t : TypeId)
    (ho : o.op = .call { callee := .builtin .append, args := #[s, x], argTypes := #[t, t] })
    (base : Nat) (e : TypeId) (z : Value) (k bytes : Nat) (ht : P.underlying t = some (.slice e)) (hinfo : (P.info? e).map (fun i => (i.zero, i.size, i.bytes)) = some (some z, k, bytes))
    (hzs : z.cells.size = k) (hk : 0 < k) (us : List Value) (hul : us.length = k) (hu : ∀ u ∈ us, u.oneCell' = true) (v : Value) (n : Nat) (xs : List Value) (hs : a.eval s = v) (hx : a.eval x = .slice (some ⟨W.heap.size, 0, none⟩) 1 1)
    (hown : W.ownsRow base e k v n xs) (h63 : n + 1 ≤ maxLen) (hbytes : (n + 1) * bytes ≤ 140737488355328) (hbase : base ≤ W.heap.size)
    (h : ∀ v' w', w'.ownsRow base e k v' (n + 1) (xs ++ us) → W.grownBy w' v.ownBlock → (v'.ownBlock = v.ownBlock ∨ ∃ k, v'.ownBlock = some k ∧ W.heap.size ≤ k) → wpList P ops Q rest (a.put o.dst v') w') : wpList P ops Q (o :: rest) a (W.alloc (.cells us.toArray e)) :=
  wpList_plain hgd fun K' hK' => wp_appKW W s x t ho base e z k bytes ht hinfo hzs hk us hul hu v n xs hs hx hown h63 hbytes hbase fun v' w' h1 h2 h3 => hK' _ _ (h v' w' h1 h2 h3)
end
end Go.Proofs.YtdhinlhafoiaiaaGreatDoor
/- The reference's question of kinds. -/
namespace Go.Proofs.YtdhinlhafoiaiaaGreatDoor
open Go.RowKit
set_option maxRecDepth 100000
set_option linter.unusedVariables false
set_option linter.unusedSimpArgs false
attribute [local go_sem] ba_get ba_toList ba_extract take_drop_all ByteArray.mk_append_mk

theorem core_kd {k : Kd} (h : kdOk k) : kdOk k.core ∧ kdB k.core = coreB k := by
  refine ⟨⟨by simp [Kd.core], h.2.1, ?_⟩, by simp [kdB, Kd.core]; rfl⟩
  have := h.2.2
  unfold kdB Kd.core coreB at *
  simp at *
  omega
theorem refX_core (xs : List (Ty × Value)) (k : Kd) : refX xs k.core = if k.base = [64] then findX xs k.name else none := by
  unfold refX Kd.core; simp

/-- What looking up leaves, in one form. -/
theorem styR_any {w : World} {v : Value} {xs : List (Ty × Value)} (h : SSc w v xs) {o : Option (Ty × Value)} (ho : ∀ x, o = some x → x ∈ xs) :
    ∃ (s : Int) (nm : ByteArray) (A : Option Addr) (n c : Nat), styR o = .tuple #[.agg #[.int .u8 s, .string nm, .slice A n c], .bool o.isSome] ∧ ∀ x, o = some x → styV x.1 x.2 = .agg #[.int .u8 s, .string nm, .slice A n c] ∧ nm = ⟨x.1.name.toArray⟩ := by
  obtain ⟨_, _, _, _, _, hf⟩ := h
  cases o with
  | none => exact ⟨0, ⟨#[]⟩, none, 0, 0, rfl, fun x h => by cases h⟩
  | some x =>
    obtain ⟨A, c, e, _, _⟩ := hf x (ho x rfl)
    refine ⟨(x.1.sort.toNat : Int), ⟨x.1.name.toArray⟩, A, x.1.fields.length, c, ?_, fun y hy => ?_⟩
    · show Value.tuple #[.agg #[_, _, x.2], .bool true] = _
      rw [e]; rfl
    · injection hy with hy; subst hy; unfold styV; rw [e]; exact ⟨rfl, rfl⟩
theorem evK_plain {S T : List Ty} {n : Nat} {a b : Kd} {m : List Pair} (hs : a.signs = b.signs) (ha : kdOk a) (hb : kdOk b) (h : ¬ (a.base = [64] ∧ b.base = [64])) :
    evK S T (n + 1) a b m = ((coreB a == coreB b) && (!decide (a.base = [64]) && !decide (b.base = [64])), m) := by
  unfold evK
  by_cases h1 : a.base = [64]
  · have h2 : b.base ≠ [64] := fun h2 => h ⟨h1, h2⟩
    rw [if_pos (.inr (by rw [h1]; exact fun e => h2 e.symm))]; simp [h1]
  · by_cases h2 : b.base = [64]
    · rw [if_pos (.inr (by rw [h2]; exact h1))]; simp [h2]
    · have e1 : coreB a = a.base := if_neg h1
      have e2 : coreB b = b.base := if_neg h2
      by_cases h3 : a.base = b.base
      · rw [if_neg (by simp [hs, h3]), if_pos h1, e1, e2, h3]; simp [h2]
      · rw [if_pos (.inr h3), e1, e2]; simp [h3]

set_option maxHeartbeats 2000000 in
theorem sAsk_kinds (w0 : World) (v1 v2 : Value) (xs ys : List (Ty × Value)) (hx : SSc w0 v1 xs) (hy : SSc w0 v2 ys) (n : Nat) (a b : Kd) (m : List Pair) (w : World) (mv : Value)
    (ha : kdOk a) (hb : kdOk b) (hra : refOk (tysOf xs) a) (hrb : refOk (tysOf ys) b) (hm : m.length ≤ 64) (hst : AskSt w0 v1 v2 w m mv)
    (ih : ∀ t fv u gv W mv', (t, fv) ∈ xs → (u, gv) ∈ ys → AskSt w0 v1 v2 W (m ++ [(a.name, b.name)]) mv' → findTy (tysOf xs) a.name = some t → findTy (tysOf ys) b.name = some u → (a.name, b.name) ∉ m →
      Calls Tryz.prog 139 #[.pointer (some ⟨w0.heap.size, 0, none⟩), styV t fv, styV u gv] W (AkPost w0 v1 v2 (evT (tysOf xs) (tysOf ys) (evK (tysOf xs) (tysOf ys) n) t u (m ++ [(a.name, b.name)])) W mv')) :
    Calls Tryz.prog 110 #[.pointer (some ⟨w0.heap.size, 0, none⟩), .string ⟨(kdB a).toArray⟩, .string ⟨(kdB b).toArray⟩] w (AkPost w0 v1 v2 (evK (tysOf xs) (tysOf ys) (n + 1) a b m) w mv) := by
  have HF := Lib.hid (show evK (tysOf xs) (tysOf ys) (n + 1) a b m = (if a.signs ≠ b.signs ∨ a.base ≠ b.base then (false, m)
    else if a.base ≠ [64] then (true, m)
    else match findTy (tysOf xs) a.name, findTy (tysOf ys) b.name with
      | some t, some u => if (a.name, b.name) ∈ m then (true, m) else evT (tysOf xs) (tysOf ys) (evK (tysOf xs) (tysOf ys) n) t u (m ++ [(a.name, b.name)])
      | _, _ => (false, m)) from by rw [evK]; rfl)
  have Hca := Lib.hid (fun W => l2CoreK_any a ha W)
  have Hcb := Lib.hid (fun W => l2CoreK_any b hb W)
  have Hst := Lib.hid hst
  have Hx := Lib.hid hx
  have Hy := Lib.hid hy
  have Ih := Lib.hid ih
  obtain ⟨A1, c1, rfl, hxl, _⟩ := hx
  obtain ⟨A2, c2, rfl, hyl, _⟩ := hy
  obtain ⟨A3, n3, c3, rfl⟩ := own_slice hst.2.2.2.2.2.2
  have hla := ha.2.2
  have hlb := hb.2.2
  have ea : kdB a = a.signs ++ coreB a := rfl
  have eb : kdB b = b.signs ++ coreB b := rfl
  rw [ea] at Hca hla ⊢
  rw [eb] at Hcb hlb ⊢
  simp only [List.length_append] at hla hlb
  have hw1 : IntKind.i64.wrap (a.signs.length : Int) = a.signs.length := IntWalk.i64_in _ ⟨by omega, by omega⟩
  have hw2 : IntKind.i64.wrap (b.signs.length : Int) = b.signs.length := IntWalk.i64_in _ ⟨by omega, by omega⟩
  clear hst ih ea eb
  go_enter Tryz.func110, Tryz.ntmps110
  go_wp2_with fail
  refine (Hca.out _).mono ?_
  rintro e w1 ⟨rfl, rfl⟩
  go_wp2_with fail
  refine (Hcb.out _).mono ?_
  rintro e w1 ⟨rfl, rfl⟩
  go_wp2_with fail
  obtain ⟨sb, hsb⟩ : ∃ sb, (!(a.signs == b.signs)) = sb := ⟨_, rfl⟩
  refine wp_region_slots3 [19, 20, 21, 22, 23, 24, 25, 26, 27, 28, 29, 30, 31, 32, 33] (by kernel_rfl) (by kernel_rfl) (by kernel_rfl) (fun u => by dsimp only [frameOf, setMany, List.set, Nat.zero_add, Nat.reduceAdd])
    (fun i v W => match i with | 0 => v = .string ⟨(a.signs ++ coreB a).toArray⟩ | 1 => v = .string ⟨(a.signs ++ coreB a).toArray⟩ | 2 => v = .int .i64 ((a.signs.length : Int) + ((coreB a).length : Int)) | 3 => v = .string ⟨(coreB a).toArray⟩ | 4 => v = .int .i64 ((coreB a).length : Int) | 5 => v = .int .i64 (a.signs.length : Int) | 6 => v = .string ⟨a.signs.toArray⟩ | 7 => v = .string ⟨(b.signs ++ coreB b).toArray⟩ | 8 => v = .string ⟨(b.signs ++ coreB b).toArray⟩ | 9 => v = .int .i64 ((b.signs.length : Int) + ((coreB b).length : Int)) | 10 => v = .string ⟨(coreB b).toArray⟩ | 11 => v = .int .i64 ((coreB b).length : Int) | 12 => v = .int .i64 (b.signs.length : Int) | 13 => v = .string ⟨b.signs.toArray⟩ | 14 => v = .bool sb | _ => True)
    (fun L U W => ∃ q, W = w.drewN q) (fun _ _ => True) (fun _ _ _ _ _ h => h) (⟨1, rfl⟩) ?_ ?_
  · repeat (first | exact Steps.nil | (refine Steps.cons ?_ ?_; rotate_left))
    all_goals
      rintro L U W hL hpre hR hun hdep K hK
      have HR := Lib.hid hR
      obtain ⟨q, rfl⟩ := HR.out
      clear hun hdep hR
      first | (simp [Region.binds] at hpre; done) | simp [Region.binds] at hpre | clear hpre
    iterate 6
      · go_simp
        first | exact hK _ _ _ rfl trivial HR.out rfl | exact hK _ _ _ rfl trivial HR.out (by simp [Act.put, hpre, hw1, hw2, hsb]) | exact hK undef _ _ trivial trivial HR.out (by simp [Act.put, hpre, hw1, hw2, hsb]) | exact hK _ _ _ trivial trivial HR.out rfl | exact hK _ _ _ trivial trivial HR.out (by simp [Act.put, hpre, hw1, hw2, hsb])
    · go_simp
      rw [if_pos (by omega)]
      go_simp
      first | exact hK _ _ _ rfl trivial HR.out rfl | exact hK _ _ _ rfl trivial HR.out (by simp [Act.put, hpre])
    iterate 6
      · go_simp
        first | exact hK _ _ _ rfl trivial HR.out rfl | exact hK _ _ _ rfl trivial HR.out (by simp [Act.put, hpre, hw1, hw2, hsb]) | exact hK undef _ _ trivial trivial HR.out (by simp [Act.put, hpre, hw1, hw2, hsb]) | exact hK _ _ _ trivial trivial HR.out rfl | exact hK _ _ _ trivial trivial HR.out (by simp [Act.put, hpre, hw1, hw2, hsb])
    · go_simp
      rw [if_pos (by omega)]
      go_simp
      first | exact hK _ _ _ rfl trivial HR.out rfl | exact hK _ _ _ rfl trivial HR.out (by simp [Act.put, hpre])
    · go_simp
      first | exact hK _ _ _ rfl trivial HR.out rfl | exact hK _ _ _ rfl trivial HR.out (by simp [Act.put, hpre, hw1, hw2, hsb]) | exact hK undef _ _ trivial trivial HR.out (by simp [Act.put, hpre, hw1, hw2, hsb]) | exact hK _ _ _ trivial trivial HR.out rfl | exact hK _ _ _ trivial trivial HR.out (by simp [Act.put, hpre, hw1, hw2, hsb])
  · rintro L U W hL hφ hR
    have e14 : U 14 = .bool sb := hφ 14 (by decide)
    simp only [e14]
    clear hφ
    obtain ⟨q, rfl⟩ := hR
    have Hstq := Lib.hid (Hst.out.below (below_drewN (Below.refl _ _) q))
    have Hkq := Lib.hid (Kept.of_below (ab := w0.heap.size) (mv := .slice A3 n3 c3) (below_drewN (Below.refl w.heap.size w) q))
    obtain ⟨_, hsz, y0, y1, y2, _, _⟩ := Hstq.out
    clear hL
    have Hsb := Lib.hid hsb
    clear hsb
    cases sb with
    | true =>
      have HF1 := Lib.hid (HF.out.trans (if_pos (.inl (by have := Hsb.out; simpa using this))))
      go_wp2_with fail
      go_ret
      rw [HF1.out]
      exact ⟨rfl, _, Hstq.out, Hkq.out⟩
    | false =>
      have hsg : a.signs = b.signs := by have := Hsb.out; simpa using this
      have Hsg := Lib.hid hsg
      have Hra := Lib.hid (fun W (h : SSc W (.slice A1 xs.length c1) xs) => (core_kd ha).2 ▸ sRef_any _ xs a.core W h (core_kd ha).1)
      have Hrb := Lib.hid (fun W (h : SSc W (.slice A2 ys.length c2) ys) => (core_kd hb).2 ▸ sRef_any _ ys b.core W h (core_kd hb).1)
      rw [refX_core] at Hra Hrb
      clear hsg
      go_wp2_with fail
      have Hoa := Lib.hid (show ((if a.base = [64] then findX xs a.name else none).isSome = decide (a.base = [64])) ∧ ∀ x, (if a.base = [64] then findX xs a.name else none) = some x → a.base = [64] ∧ findX xs a.name = some x from by
        by_cases h : a.base = [64]
        · have := hra h; rw [findX_ty] at this; rw [if_pos h]; exact ⟨by simpa [h] using this, fun x hx => ⟨h, hx⟩⟩
        · rw [if_neg h]; exact ⟨by simp [h], fun x hx => by cases hx⟩)
      have Hob := Lib.hid (show ((if b.base = [64] then findX ys b.name else none).isSome = decide (b.base = [64])) ∧ ∀ x, (if b.base = [64] then findX ys b.name else none) = some x → b.base = [64] ∧ findX ys b.name = some x from by
        by_cases h : b.base = [64]
        · have := hrb h; rw [findX_ty] at this; rw [if_pos h]; exact ⟨by simpa [h] using this, fun x hx => ⟨h, hx⟩⟩
        · rw [if_neg h]; exact ⟨by simp [h], fun x hx => by cases hx⟩)
      generalize (if a.base = [64] then findX xs a.name else none) = oa at Hra Hoa
      generalize (if b.base = [64] then findX ys b.name else none) = ob at Hrb Hob
      obtain ⟨s1, nm1, A4, n4, c4, e1, f1⟩ := styR_any Hx.out (o := oa) (fun x h => (findX_mem (Hoa.out.2 x h).2).1)
      obtain ⟨s2, nm2, A5, n5, c5, e2, f2⟩ := styR_any Hy.out (o := ob) (fun x h => (findX_mem (Hob.out.2 x h).2).1)
      have F1 := Lib.hid f1
      have F2 := Lib.hid f2
      rw [e1, Hoa.out.1] at Hra
      rw [e2, Hob.out.1] at Hrb
      have Hpl := Lib.hid (fun (h : ¬ (a.base = [64] ∧ b.base = [64])) => evK_plain (S := tysOf xs) (T := tysOf ys) (n := n) (m := m) Hsg.out ha hb h)
      have Hpab := Lib.hid (fun h1 h2 => (⟨of_decide_eq_true h1, of_decide_eq_true h2⟩ : a.base = [64] ∧ b.base = [64]))
      have Hpno := Lib.hid (fun (h : decide (a.base = [64]) = false ∨ decide (b.base = [64]) = false) => show ¬ (a.base = [64] ∧ b.base = [64]) from fun e => by rcases h with h | h <;> simp [e.1, e.2] at h)
      clear f1 f2 e1 e2
      generalize decide (a.base = [64]) = pa at *
      generalize decide (b.base = [64]) = pb at *
      obtain ⟨xy, hxy⟩ : ∃ xy, (coreB a == coreB b) = xy := ⟨_, rfl⟩
      rw [hxy] at Hpl
      go_wp2_with fail
      refine (Hra.out _ (Hx.out.below Hstq.out.1)).mono ?_
      rintro e w2 ⟨rfl, hb2⟩
      have Hst2 := Lib.hid (Hstq.out.below hb2)
      have Hk2 := Lib.hid (Hkq.out.trans (Kept.of_below (ab := w0.heap.size) (mv := .slice A3 n3 c3) hb2))
      have z0 : w2.cell? ⟨w0.heap.size, 0, none⟩ = some (.slice A1 xs.length c1) := Hst2.out.2.2.1
      have z1 : w2.cell? ⟨w0.heap.size, 1, none⟩ = some (.slice A2 ys.length c2) := Hst2.out.2.2.2.1
      have hz2 : w0.heap.size < w2.heap.size := Hst2.out.size
      have hn2 : ¬ (w0.heap.size = w2.heap.size) := by omega
      clear hb2
      go_wp2_with fail
      refine (Hrb.out _ (Hy.out.below (Hst2.out.1.alloc (by omega) _))).mono ?_
      rintro e w4 ⟨rfl, hb4⟩
      have Hst4 := Lib.hid ((Hst2.out.below ((Below.refl _ _).alloc (Nat.le_refl _) _)).below hb4)
      have Hk4 := Lib.hid ((Hk2.out.trans (Kept.of_below (ab := w0.heap.size) (mv := .slice A3 n3 c3) ((Below.refl _ _).alloc (Nat.le_refl _) _))).trans (Kept.of_below (ab := w0.heap.size) (mv := .slice A3 n3 c3) hb4))
      have hz4 : w2.heap.size < w4.heap.size := by have := hb4.size; simp at this; omega
      have n0 : w4.cell? ⟨w2.heap.size, 1, none⟩ = some (.string nm1) := by rw [hb4.cell (p := ⟨w2.heap.size, 1, none⟩) (by simp)]; simp
      have hn4 : ¬ (w0.heap.size = w4.heap.size) := by omega
      have hn5 : ¬ (w2.heap.size = w4.heap.size) := by omega
      have Hwz := Lib.hid Hk2.out.size
      have X9 := Lib.hid (show w4.rangeAt w2.heap.size 0 [.int .u8 s1, .string nm1, .slice A4 n4 c4] from rangeAt_below (rangeAt_new w2 [.int .u8 s1, .string nm1, .slice A4 n4 c4] _) (by simp) hb4)
      clear hb4 z0 z1
      cases pa with
      | false =>
        have HF2 := Lib.hid (Hpl.out (Hpno.out (.inl rfl)))
        cases xy with
        | false =>
          go_wp2_with fail
          go_ret
          rw [HF2.out]
          exact ⟨rfl, _, Hst4.out.below ((Below.refl _ _).alloc (Nat.le_refl _) _), Hk4.out.trans (Kept.of_below ((Below.refl _ _).alloc (Nat.le_refl _) _))⟩
        | true => cases pb with
          | false =>
            go_wp2_with fail
            go_ret
            rw [HF2.out]
            exact ⟨rfl, _, Hst4.out.below ((Below.refl _ _).alloc (Nat.le_refl _) _), Hk4.out.trans (Kept.of_below ((Below.refl _ _).alloc (Nat.le_refl _) _))⟩
          | true =>
            go_wp2_with fail
            go_ret
            rw [HF2.out]
            exact ⟨rfl, _, Hst4.out.below ((Below.refl _ _).alloc (Nat.le_refl _) _), Hk4.out.trans (Kept.of_below ((Below.refl _ _).alloc (Nat.le_refl _) _))⟩
      | true => cases pb with
        | false =>
          have HF2 := Lib.hid (Hpl.out (Hpno.out (.inr rfl)))
          cases xy with
          | false =>
            go_wp2_with fail
            go_ret
            rw [HF2.out]
            exact ⟨rfl, _, Hst4.out.below ((Below.refl _ _).alloc (Nat.le_refl _) _), Hk4.out.trans (Kept.of_below ((Below.refl _ _).alloc (Nat.le_refl _) _))⟩
          | true =>
            go_wp2_with fail
            go_ret
            rw [HF2.out]
            exact ⟨rfl, _, Hst4.out.below ((Below.refl _ _).alloc (Nat.le_refl _) _), Hk4.out.trans (Kept.of_below ((Below.refl _ _).alloc (Nat.le_refl _) _))⟩
        | true =>
          go_wp2_with fail
          have hab := (by first | exact Hpab.out rfl rfl | exact Hpab.out trivial trivial : a.base = [64] ∧ b.base = [64])
          obtain ⟨x, hxo⟩ : ∃ x, oa = some x := by
            have := Hoa.out.1
            cases oa with
            | none => cases this
            | some x => exact ⟨x, rfl⟩
          obtain ⟨y, hyo⟩ : ∃ y, ob = some y := by
            have := Hob.out.1
            cases ob with
            | none => cases this
            | some y => exact ⟨y, rfl⟩
          obtain ⟨t, tv⟩ := x
          obtain ⟨u, uv⟩ := y
          obtain ⟨g1, g2⟩ := F1.out _ hxo
          obtain ⟨g3, g4⟩ := F2.out _ hyo
          simp only [] at g1 g2 g3 g4
          have hxf := (Hoa.out.2 _ hxo).2
          have hyf := (Hob.out.2 _ hyo).2
          have Hxm := Lib.hid (findX_mem hxf)
          have Hym := Lib.hid (findX_mem hyf)
          rw [show t.name = a.name from Hxm.out.2.1] at g2
          rw [show u.name = b.name from Hym.out.2.1] at g4
          subst g2 g4
          have G1 := Lib.hid g1
          have G3 := Lib.hid g3
          have HF2 := Lib.hid (show evK (tysOf xs) (tysOf ys) (n + 1) a b m = if (a.name, b.name) ∈ m then (true, m) else evT (tysOf xs) (tysOf ys) (evK (tysOf xs) (tysOf ys) n) t u (m ++ [(a.name, b.name)]) from by
            rw [HF.out, if_neg (by rw [hab.1, hab.2]; simp [Hsg.out]), if_neg (by rw [hab.1]; simp), Hxm.out.2.2, Hym.out.2.2])
          clear g1 g3 hxo hyo hxf hyf hab
          obtain ⟨W6, hW6⟩ : ∃ W6, W6 = (w4.alloc (.cells #[.int .u8 s2, .string ⟨b.name.toArray⟩, .slice A5 n5 c5] 86)).alloc (.cells #[.string ⟨a.name.toArray⟩, .string ⟨b.name.toArray⟩] 184) := ⟨_, rfl⟩
          rw [← hW6]
          have Hb6 := Lib.hid (show Below w4.heap.size w4 W6 from by rw [hW6]; exact ((Below.refl _ _).alloc (Nat.le_refl _) _).alloc (by simp) _)
          have Hst6 := Lib.hid (Hst4.out.below Hb6.out)
          have Hk6 := Lib.hid (Hk4.out.trans (Kept.of_below (ab := w0.heap.size) (mv := .slice A3 n3 c3) Hb6.out))
          have X9' := Lib.hid (rangeAt_below X9.out hz4 Hb6.out)
          have X11 := Lib.hid (show W6.rangeAt w4.heap.size 0 [.int .u8 s2, .string ⟨b.name.toArray⟩, .slice A5 n5 c5] from by rw [hW6]; exact rangeAt_below (rangeAt_new w4 [.int .u8 s2, .string ⟨b.name.toArray⟩, .slice A5 n5 c5] _) (Nat.lt_succ_self _) ((Below.refl _ _).alloc (by simp) _))
          have p0 : W6.cell? ⟨w4.heap.size + 1, 0, none⟩ = some (.string ⟨a.name.toArray⟩) := by rw [hW6]; simp [go_sem]
          have p1 : W6.cell? ⟨w4.heap.size + 1, 1, none⟩ = some (.string ⟨b.name.toArray⟩) := by rw [hW6]; simp [go_sem]
          have hz6 : w4.heap.size + 1 < W6.heap.size := by rw [hW6]; simp
          have Hrow := Lib.hid (RowAt.ownK Hst6.out.2.2.2.2.2.2 (by unfold maxLen; omega))
          have y2' : W6.cell? ⟨w0.heap.size, 2, none⟩ = some (.slice A3 n3 c3) := Hst6.out.2.2.2.2.1
          obtain rfl : n3 = m.length := by
            obtain ⟨A, c, e, _⟩ := Hrow.out
            injection e
          clear hW6 y0 y1 y2 n0
          go_loopw [14] (fun i wr => ∃ j : Nat, i = .int .i64 j ∧ j ≤ m.length ∧ (∃ q, wr = W6.drewN q) ∧ Hid ((a.name, b.name) ∉ m.take j)) (fun i _ => m.length - (intOf i).toNat)
          case atStart => exact ⟨0, rfl, Nat.zero_le _, ⟨0, rfl⟩, by simp [Hid]⟩
          case round =>
            obtain ⟨j, rfl, hj, ⟨q6, rfl⟩, hin⟩ := hrel
            have j1 : (0 : Int) ≤ (j : Int) := by omega
            by_cases hlt : j < m.length
            · have j2 : (j : Int) < (m.length : Int) := by omega
              obtain ⟨A, c, e3, hra⟩ := Hrow.out
              have hA : A3 = A := by injection e3
              have hc : c3 = c := by injection e3
              subst hA hc
              clear e3
              obtain ⟨bb, off, rfl, hbb, hcc⟩ := RowAt.elem pairc_len (by decide) hra hlt
              have r0 := hcc 0 _ rfl
              have r1 := hcc 1 _ rfl
              simp only [Nat.add_zero, ← Nat.add_assoc] at r0 r1
              have Hts := Lib.hid (take_snoc m j hlt)
              have Hpm := Lib.hid (List.getElem_mem hlt)
              generalize m[j] = pj at r0 r1 Hts Hpm
              clear hra hcc
              obtain ⟨be, hbe⟩ : ∃ be, decide (pj = (a.name, b.name)) = be := ⟨_, rfl⟩
              go_wp2_with fail
              refine wp_region_slots3 [83, 84, 85, 86, 87, 88, 89, 90, 91] (by kernel_rfl) (by kernel_rfl) (by kernel_rfl) (fun u => by dsimp only [frameOf, setMany, List.set, Nat.zero_add, Nat.reduceAdd])
                (fun i v W => match i with | 0 => v = .pointer (some ⟨w0.heap.size, 0, none⟩) | 1 => v = .pointer (some ⟨w0.heap.size, 0, none⟩) | 2 => v = .pointer (some ⟨w0.heap.size, 2, none⟩) | 3 => v = .slice (some ⟨bb, off, none⟩) m.length c3 | 4 => v = .int .i64 j | 5 => v = .pointer (some ⟨bb, off + j * 2, none⟩) | 6 => v = .agg #[.string ⟨pj.1.toArray⟩, .string ⟨pj.2.toArray⟩] | 7 => v = .agg #[.string ⟨a.name.toArray⟩, .string ⟨b.name.toArray⟩] | 8 => v = .bool be | _ => True)
                (fun L U W => ∃ q, W = W6.drewN q) (fun _ _ => True) (fun _ _ _ _ _ h => h) (⟨q6 + 1, rfl⟩) ?_ ?_
              · repeat (first | exact Steps.nil | (refine Steps.cons ?_ ?_; rotate_left))
                all_goals
                  rintro L U W hL hpre hR hun hdep K hK
                  have HR := Lib.hid hR
                  obtain ⟨q, rfl⟩ := HR.out
                  clear hun hdep hR
                  first | (simp [Region.binds] at hpre; done) | simp [Region.binds] at hpre | clear hpre
                iterate 8
                  · go_simp
                    first | exact hK _ _ _ rfl trivial HR.out rfl | exact hK _ _ _ rfl trivial HR.out (by simp [Act.put, hpre]) | exact hK undef _ _ trivial trivial HR.out (by simp [Act.put, hpre]) | exact hK _ _ _ trivial trivial HR.out rfl | exact hK _ _ _ trivial trivial HR.out (by simp [Act.put, hpre])
                · go_simp
                  by_cases h1 : pj.1 = a.name
                  · by_cases h2 : pj.2 = b.name
                    · obtain rfl : be = true := by rw [← hbe]; exact decide_eq_true (Prod.ext h1 h2)
                      rw [if_pos h1, if_pos h2]
                      go_simp
                      exact hK _ _ _ rfl trivial HR.out (by simp [Act.put, hpre, h1, h2])
                    · obtain rfl : be = false := by rw [← hbe]; exact decide_eq_false (fun e => h2 (by rw [e]))
                      rw [if_pos h1, if_neg h2]
                      go_simp
                      exact hK _ _ _ rfl trivial HR.out (by simp [Act.put, hpre, h1])
                  · obtain rfl : be = false := by rw [← hbe]; exact decide_eq_false (fun e => h1 (by rw [e]))
                    rw [if_neg h1]
                    go_simp
                    exact hK _ _ _ rfl trivial HR.out (by simp [Act.put, hpre])
              · rintro L U W hL hφ hR
                have e8 : U 8 = .bool be := hφ 8 (by decide)
                simp only [e8]
                clear hφ
                obtain ⟨q7, rfl⟩ := hR
                have Hbe := Lib.hid hbe
                clear hL hbe
                cases be with
                | true =>
                  have Hmem := Lib.hid (show (a.name, b.name) ∈ m from by have := of_decide_eq_true Hbe.out; rw [← this]; exact Hpm.out)
                  have Hfin := Lib.hid (HF2.out.trans (if_pos Hmem.out))
                  go_wp2_with fail
                  go_ret
                  rw [Hfin.out]
                  exact ⟨rfl, _, Hst6.out.below (below_drewN (Below.refl _ _) q7), Hk6.out.trans (Kept.of_below (below_drewN (Below.refl _ _) q7))⟩
                | false =>
                  have Hnin := Lib.hid (show (a.name, b.name) ∉ m.take (j + 1) from by
                    rw [Hts.out]
                    intro h
                    rcases List.mem_append.1 h with h | h
                    · exact hin.out h
                    · exact of_decide_eq_false Hbe.out (List.mem_singleton.1 h).symm)
                  go_wp2_with fail
                  go_roundw
                  case rel => exact ⟨j + 1, by go_num, by omega, ⟨q7, rfl⟩, Hnin.out⟩
                  case measure => simp [intOf]; omega
            · have Hnin := Lib.hid (show (a.name, b.name) ∉ m from by have := hin.out; rwa [List.take_of_length_le (by omega)] at this)
              have Hfin := Lib.hid (HF2.out.trans (if_neg Hnin.out))
              go_wp2_with fail
              obtain ⟨W7, hW7⟩ : ∃ W7, W7 = (W6.drewN q6).drew := ⟨_, rfl⟩
              have Hb7 := Lib.hid (show Below W6.heap.size W6 W7 from by rw [hW7]; exact (below_drewN (Below.refl _ _) q6).drew)
              have Hst7 := Lib.hid (Hst6.out.below Hb7.out)
              have Hk7 := Lib.hid (Hk6.out.trans (Kept.of_below Hb7.out))
              have y27 : W7.cell? ⟨w0.heap.size, 2, none⟩ = some (.slice A3 m.length c3) := Hst7.out.2.2.2.2.1
              have p07 : W7.cell? ⟨w4.heap.size + 1, 0, none⟩ = some (.string ⟨a.name.toArray⟩) := (Hb7.out.cell (p := ⟨w4.heap.size + 1, 0, none⟩) hz6).trans p0
              have p17 : W7.cell? ⟨w4.heap.size + 1, 1, none⟩ = some (.string ⟨b.name.toArray⟩) := (Hb7.out.cell (p := ⟨w4.heap.size + 1, 1, none⟩) hz6).trans p1
              have hz7 : W6.heap.size ≤ W7.heap.size := Hb7.out.size
              have X9b := Lib.hid (rangeAt_below X9'.out (show w2.heap.size < W6.heap.size by omega) Hb7.out)
              have X11b := Lib.hid (rangeAt_below X11.out (show w4.heap.size < W6.heap.size by omega) Hb7.out)
              have HW7 := Lib.hid hW7
              clear y2' p0 p1 hW7
              refine wp_region_slots3 [92, 93, 94, 95, 96, 97, 98, 99, 100, 101, 999] (by kernel_rfl) (by kernel_rfl) (by kernel_rfl) (fun u => by dsimp only [frameOf, setMany, List.set, Nat.zero_add, Nat.reduceAdd])
                (fun i v W => match i with | 0 => v = .pointer (some ⟨w0.heap.size, 0, none⟩) | 1 => v = .pointer (some ⟨w0.heap.size, 0, none⟩) | 2 => v = .pointer (some ⟨w0.heap.size, 0, none⟩) | 3 => v = .pointer (some ⟨w0.heap.size, 2, none⟩) | 4 => v = .slice A3 m.length c3 | 5 => v = .agg #[.string ⟨a.name.toArray⟩, .string ⟨b.name.toArray⟩] | 6 => v = .slice (some ⟨W7.heap.size, 0, none⟩) 1 1 | 7 => ∃ A n c, v = .slice A n c | 8 => v = .pointer (some ⟨w0.heap.size, 0, none⟩) | 9 => v = .pointer (some ⟨w0.heap.size, 2, none⟩) | _ => True)
                (fun L U W => (L 6 = false → W = W7) ∧ (L 6 = true → L 7 = false → W = W7.alloc (.cells ([.string ⟨a.name.toArray⟩, .string ⟨b.name.toArray⟩] : List Value).toArray 184)) ∧
              (L 7 = true → L 10 = false → W.ownsRow (w0.heap.size + 1) 184 2 (U 7) (m.length + 1) (m.flatMap pairc ++ pairc (a.name, b.name)) ∧ W7.grownBy W (Value.slice A3 m.length c3).ownBlock ∧ ((U 7).ownBlock = (Value.slice A3 m.length c3).ownBlock ∨ ∃ k, (U 7).ownBlock = some k ∧ W7.heap.size ≤ k)) ∧
              (L 10 = true → ∃ mv5, AskSt w0 (.slice A1 xs.length c1) (.slice A2 ys.length c2) W (m ++ [(a.name, b.name)]) mv5 ∧ Kept w0.heap.size (.slice A3 m.length c3) W7 W mv5)) (fun _ _ => True) (fun _ _ _ _ _ h => h) (⟨fun _ => HW7.out.symm, (fun h => Bool.noConfusion h), (fun h => Bool.noConfusion h), (fun h => Bool.noConfusion h)⟩) ?_ ?_
              · repeat (first | exact Steps.nil | (refine Steps.cons ?_ ?_; rotate_left))
                all_goals
                  rintro L U W hL hpre hR hun hdep K hK
                  have HR := Lib.hid hR
                  obtain ⟨R1, R2, R3, R4⟩ := HR.out
                  have Hdep := Lib.hid hdep
                  clear hun hdep hR
                  first | (simp [Region.binds] at hpre; done) | simp [Region.binds] at hpre | clear hpre
                iterate 4
                  · go_simp
                    first | exact hK _ _ _ rfl trivial HR.out rfl | exact hK _ _ _ rfl trivial HR.out (by simp [Act.put, hpre]) | exact hK undef _ _ trivial trivial HR.out (by simp [Act.put, hpre]) | exact hK _ _ _ trivial trivial HR.out rfl | exact hK _ _ _ trivial trivial HR.out (by simp [Act.put, hpre])
                · have h7 : L 7 = false := Hdep.out 7 _ rfl { on := 4, ground := Ground.data } (by simp) (by rfl) hL
                  cases h6 : L 6 with
                  | false =>
                    obtain rfl := R1 h6
                    go_simp
                    first | exact hK _ _ _ rfl trivial HR.out rfl | exact hK _ _ _ rfl trivial HR.out (by simp [Act.put, hpre])
                  | true =>
                    obtain rfl := R2 h6 h7
                    have y2a : (W7.alloc (.cells ([.string ⟨a.name.toArray⟩, .string ⟨b.name.toArray⟩] : List Value).toArray 184)).cell? ⟨w0.heap.size, 2, none⟩ = some (.slice A3 m.length c3) := by rw [World.cell?_alloc_old _ _ _ (show w0.heap.size ≠ W7.heap.size by omega)]; exact y27
                    go_simp
                    first | exact hK _ _ _ rfl trivial HR.out rfl | exact hK _ _ _ rfl trivial HR.out (by simp [Act.put, hpre])
                · have h6 : L 6 = false := Hdep.out 6 _ rfl { on := 5, ground := Ground.data } (by simp) (by rfl) hL
                  obtain rfl := R1 h6
                  go_simp
                  first | exact hK _ _ _ rfl trivial HR.out rfl | exact hK _ _ _ rfl trivial HR.out (by simp [Act.put, hpre])
                · have h7 : L 7 = false := Hdep.out 7 _ rfl { on := 6, ground := Ground.data } (by simp) (by rfl) hL
                  obtain rfl := R1 hL
                  go_simp
                  refine hK _ _ _ rfl trivial ⟨fun h => by simp at h, fun _ _ => rfl, fun h => absurd (h7.symm.trans (by simpa using h)) (by decide), fun h => ?_⟩ (by simp [Act.put, hpre])
                  exact absurd ((Hdep.out 10 _ rfl { on := 6, ground := Ground.phase } (by simp) (by rfl) hL).symm.trans (by simpa using h)) (by decide)
                · obtain ⟨⟨l4, u4⟩, l6, u6⟩ := hpre
                  obtain rfl := R2 l6 hL
                  rw [if_pos (by rfl)]
                  refine wp_appKW W7 (.tmp 96) (.tmp 98) 156 rfl (w0.heap.size + 1) 184 (.agg #[.string ⟨#[]⟩, .string ⟨#[]⟩]) 2 32 Tryz.underlying156 Tryz.infoPair rfl (by decide) (pairc (a.name, b.name)) rfl (by intro y hy; simp [pairc] at hy; rcases hy with rfl | rfl <;> rfl) (.slice A3 m.length c3) m.length (m.flatMap pairc) u4 u6 Hst7.out.2.2.2.2.2.2 (by unfold maxLen; omega) (by omega) (by omega) ?_
                  intro v' w' hown hg hwh
                  obtain ⟨A5', n5', c5', rfl⟩ := own_slice hown
                  refine hK _ _ _ ⟨A5', n5', c5', rfl⟩ trivial ⟨fun h => absurd (l6.symm.trans (by simpa using h)) (by decide), fun _ h => by simp at h, fun _ _ => ⟨hown, hg, hwh⟩, fun h => ?_⟩ rfl
                  exact absurd ((Hdep.out 10 _ rfl { on := 7, ground := Ground.phase } (by simp) (by rfl) hL).symm.trans (by simpa using h)) (by decide)
                iterate 2
                  · go_simp
                    first | exact hK _ _ _ rfl trivial HR.out rfl | exact hK _ _ _ rfl trivial HR.out (by simp [Act.put, hpre]) | exact hK undef _ _ trivial trivial HR.out (by simp [Act.put, hpre]) | exact hK _ _ _ trivial trivial HR.out rfl | exact hK _ _ _ trivial trivial HR.out (by simp [Act.put, hpre])
                · obtain ⟨l7, A5', n5', c5', u7⟩ : L 7 = true ∧ ∃ A n c, U 7 = .slice A n c := by
                    first | exact hpre.1 | exact hpre.2.1 | exact ⟨hpre.1.1, hpre.1.2⟩ | exact ⟨hpre.2.1.1, hpre.2.1.2⟩
                  have hpre6 : L 6 = true := by
                    cases h6 : L 6 with
                    | true => rfl
                    | false =>
                      have := Hdep.out 7 _ rfl { on := 6, ground := Ground.data } (by simp) (by rfl) h6
                      rw [l7] at this
                      cases this
                  obtain ⟨hown, hg, hwh⟩ := R3 l7 hL
                  rw [u7] at hown hwh
                  have hb8 : Below (w0.heap.size + 1) W7 W := (Below.refl _ _).grown hg (by omega) (fun k hk => (Hst7.out.2.2.2.2.2.2.lt k hk).1)
                  have hT8 := there_below Hst7.out.2.2.2.2.2.1 (show w0.heap.size < w0.heap.size + 1 by omega) hb8
                  have f8 : W.frozen? ⟨w0.heap.size, 2, none⟩ = false := (by simpa using (hT8 2 (by decide)).2)
                  obtain ⟨x8, hx8⟩ := Option.isSome_iff_exists.1 ((by simpa using (hT8 2 (by decide)).1 : (W.cell? ⟨w0.heap.size, 2, none⟩).isSome = true))
                  have HP := Lib.hid (AskSt.push (p := (a.name, b.name)) Hst7.out hown hg hwh)
                  clear hown hg hwh hb8 hT8 R1 R2 R3 R4
                  go_simp
                  refine hK undef _ _ trivial trivial ⟨fun h => absurd (hpre6.symm.trans (by simpa using h)) (by decide), fun _ h => absurd (l7.symm.trans (by simpa using h)) (by decide), fun _ h => by simp at h, fun _ => ⟨_, HP.out⟩⟩ (by simp [Act.put, hpre, u7])
              · rintro L U W hL hφ hR
                clear hφ
                obtain ⟨mv5, hst8, hk8⟩ := hR.2.2.2 (hL 10 (by decide))
                have x9 := Kept.range hk8 X9b.out (show w2.heap.size < W7.heap.size by omega) (show w2.heap.size ≠ w0.heap.size by omega) (Hst.out.far _ Hwz.out)
                have x11 := Kept.range hk8 X11b.out (show w4.heap.size < W7.heap.size by omega) (show w4.heap.size ≠ w0.heap.size by omega) (Hst.out.far _ (by have := Hwz.out; omega))
                have a0 : W.cell? ⟨w2.heap.size, 0, none⟩ = some (.int .u8 s1) := by simpa using rangeAt_cell x9 0 rfl
                have a1 : W.cell? ⟨w2.heap.size, 1, none⟩ = some (.string ⟨a.name.toArray⟩) := by simpa using rangeAt_cell x9 1 rfl
                have a2 : W.cell? ⟨w2.heap.size, 2, none⟩ = some (.slice A4 n4 c4) := by simpa using rangeAt_cell x9 2 rfl
                have d0 : W.cell? ⟨w4.heap.size, 0, none⟩ = some (.int .u8 s2) := by simpa using rangeAt_cell x11 0 rfl
                have d1 : W.cell? ⟨w4.heap.size, 1, none⟩ = some (.string ⟨b.name.toArray⟩) := by simpa using rangeAt_cell x11 1 rfl
                have d2 : W.cell? ⟨w4.heap.size, 2, none⟩ = some (.slice A5 n5 c5) := by simpa using rangeAt_cell x11 2 rfl
                have Hcall := Ih.out t tv u uv W mv5 Hxm.out.1 Hym.out.1 hst8 Hxm.out.2.2 Hym.out.2.2 Hnin.out
                rw [G1.out, G3.out] at Hcall
                generalize evT (tysOf xs) (tysOf ys) (evK (tysOf xs) (tysOf ys) n) t u (m ++ [(a.name, b.name)]) = r at *
                have Hc := Lib.hid Hcall
                have Hk8 := Lib.hid (Hk7.out.trans hk8)
                clear hL hR hst8 hk8 x9 x11 Hcall
                go_wp2_with fail
                refine Hc.out.mono ?_
                rintro e w9 ⟨rfl, mv9, hst9, hk9⟩
                have Hst9 := Lib.hid hst9
                have Hk9 := Lib.hid (Hk8.out.trans hk9)
                clear hst9 hk9
                go_wp2_with fail
                go_ret
                rw [Hfin.out]
                exact ⟨rfl, mv9, Hst9.out, Hk9.out⟩
end Go.Proofs.YtdhinlhafoiaiaaGreatDoor
