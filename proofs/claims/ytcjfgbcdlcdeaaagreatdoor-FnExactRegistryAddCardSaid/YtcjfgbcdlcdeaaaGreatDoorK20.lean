/- Texts joined: IAskT. Conditions: as each theorem names them. -/
import Derived.Test.YtcjfgbcdlcdeaaaGreatDoorK16
import Derived.Test.YtcjfgbcdlcdeaaaGreatDoorK19
/- The program's question of types. -/
namespace Go.Proofs.YtcjfgbcdlcdeaaaGreatDoor
open Go.RowKit
set_option maxRecDepth 100000
set_option linter.unusedVariables false
set_option linter.unusedSimpArgs false
attribute [local go_sem] ba_get ba_toList ba_extract take_drop_all ByteArray.mk_append_mk

theorem IFds.range0 {w0 : World} {x : PT} (h : ITy w0 x) : ∃ A c, w0.cell? ⟨x.blk, 2, none⟩ = some (.slice A x.ty.fields.length c) ∧ ∀ i (hi : i < x.ty.fields.length), ∃ b off, A = some ⟨b, off, none⟩ ∧ b < w0.heap.size ∧ w0.rangeAt b (off + i * 6) (ifc x.ty.fields[i]) := by
  obtain ⟨_, _, _, _, z3, _, A, c, hfv, _, hr⟩ := h
  rw [hfv] at z3
  exact ⟨A, c, z3, fun i hi => IFds.range hr hi⟩

set_option maxHeartbeats 8000000 in
theorem iAsk_types (w0 : World) (p1 p2 : Value) (xs ys : List PT) (hx : ISc w0 p1 xs) (hy : ISc w0 p2 ys) (hS : scOk (ptysOf xs)) (hT : scOk (ptysOf ys)) (n : Nat) (x y : PT) (hxm : x ∈ xs) (hym : y ∈ ys)
    (ih : ∀ a b m w, kdOk a → kdOk b → refOk (ptysOf xs) a → refOk (ptysOf ys) b → Asks (ptysOf xs) (ptysOf ys) m → 64 < n + m.length → IAskSt w0 p1 p2 w m →
      Calls Tryz.prog 122 #[.pointer (some ⟨w0.heap.size + 1, 0, none⟩), kdV a, kdV b] w (IaPost w0 p1 p2 (evK (ptysOf xs) (ptysOf ys) n a b m) w))
    (m : List Pair) (hm : Asks (ptysOf xs) (ptysOf ys) m) (hn : 64 < n + 1 + m.length) (hml : m.length ≤ 64) (w : World) (hst : IAskSt w0 p1 p2 w m) :
    Calls Tryz.prog 159 #[.pointer (some ⟨w0.heap.size + 1, 0, none⟩), .pointer (some ⟨x.blk, 0, none⟩), .pointer (some ⟨y.blk, 0, none⟩)] w (IaPost w0 p1 p2 (evP (ptysOf xs) (ptysOf ys) (evK (ptysOf xs) (ptysOf ys) n) x.ty y.ty m) w) := by
  have HF := Lib.hid (show evP (ptysOf xs) (ptysOf ys) (evK (ptysOf xs) (ptysOf ys) n) x.ty y.ty m = if (x.ty.name, y.ty.name) ∈ m then (true, m) else evT (ptysOf xs) (ptysOf ys) (evK (ptysOf xs) (ptysOf ys) n) x.ty y.ty (m ++ [(x.ty.name, y.ty.name)]) from rfl)
  have Hst := Lib.hid hst
  have Hx := Lib.hid hx
  have Hy := Lib.hid hy
  have Ih := Lib.hid ih
  have HS := Lib.hid hS
  have HT := Lib.hid hT
  have Hgr := Lib.hid (evK_grows (ptysOf xs) (ptysOf ys) n)
  have hxt' : x.ty ∈ ptysOf xs := List.mem_map_of_mem (f := (·.ty)) hxm
  have hyt' : y.ty ∈ ptysOf ys := List.mem_map_of_mem (f := (·.ty)) hym
  have Hto := Lib.hid (hS.1.1 x.ty hxt')
  have Huo := Lib.hid (hT.1.1 y.ty hyt')
  have Htk := Lib.hid (hS.2.1 x.ty hxt')
  have Huk := Lib.hid (hT.2.1 y.ty hyt')
  have hnx : x.ty.name ∈ namesOf (ptysOf xs) := List.mem_map_of_mem (f := (·.name)) hxt'
  have hny : y.ty.name ∈ namesOf (ptysOf ys) := List.mem_map_of_mem (f := (·.name)) hyt'
  have hyf8 : y.ty.fields.length ≤ 8 := Huo.out.2.2.2.1
  have hl1 := (nameOk_iff.1 Hto.out.2.1).2.1
  have hl2 := (nameOk_iff.1 Huo.out.2.1).2.1
  have Hmlen := Lib.hid (show ∀ q ∈ m, q.1.length ≤ 100 ∧ q.2.length ≤ 100 from fun q hq => by
    obtain ⟨h1, h2⟩ := hm.2 q hq
    obtain ⟨t1, ht1, e1⟩ := List.mem_map.1 h1
    obtain ⟨t2, ht2, e2⟩ := List.mem_map.1 h2
    have a1 := (nameOk_iff.1 (hS.1.1 t1 ht1).2.1).2.1
    have a2 := (nameOk_iff.1 (hT.1.1 t2 ht2).2.1).2.1
    rw [← e1, ← e2]; exact ⟨by omega, by omega⟩)
  have Hm := Lib.hid hm
  obtain ⟨pb1, _, _, mb1, rfl, _, _, _, _, _, htx, _⟩ := hx
  obtain ⟨pb2, _, _, mb2, rfl, _, _, _, _, _, hty, _⟩ := hy
  have Htx := Lib.hid (htx x hxm)
  have Hty := Lib.hid (hty y hym)
  have hsz := hst.2.1
  have Hb := Lib.hid hst.1
  have Hxl0 := Lib.hid Htx.out.1
  have Hyl0 := Lib.hid Hty.out.1
  have Hxl := Lib.hid (show x.blk < w.heap.size from Nat.lt_of_lt_of_le Htx.out.1 Hb.out.size)
  have Hyl := Lib.hid (show y.blk < w.heap.size from Nat.lt_of_lt_of_le Hty.out.1 Hb.out.size)
  have X1 := Lib.hid (show w.cell? ⟨x.blk, 1, none⟩ = some (.string ⟨x.ty.name.toArray⟩) from (Hb.out.cell (p := ⟨x.blk, 1, none⟩) Htx.out.1).trans Htx.out.2.2.2.1)
  have Y1 := Lib.hid (show w.cell? ⟨y.blk, 1, none⟩ = some (.string ⟨y.ty.name.toArray⟩) from (Hb.out.cell (p := ⟨y.blk, 1, none⟩) Hty.out.1).trans Hty.out.2.2.2.1)
  clear hst ih hS hT hm hxm hym htx hty hxt' hyt'
  go_enter Tryz.func159, Tryz.ntmps159
  go_wp2_with fail
  refine wp_region_slots3 [11, 12, 13, 14, 15, 16, 17, 18, 19, 7, 999] (by kernel_rfl) (by kernel_rfl) (by kernel_rfl) (fun u => by dsimp only [frameOf, setMany, List.set, Nat.zero_add, Nat.reduceAdd])
    (fun i v W => match i with | 0 => v = .pointer (some ⟨x.blk, 0, none⟩) | 1 => v = .pointer (some ⟨x.blk, 0, none⟩) | 2 => v = .pointer (some ⟨x.blk, 1, none⟩) | 3 => v = .string ⟨x.ty.name.toArray⟩ | 4 => v = .pointer (some ⟨y.blk, 0, none⟩) | 5 => v = .pointer (some ⟨y.blk, 0, none⟩) | 6 => v = .pointer (some ⟨y.blk, 1, none⟩) | 7 => v = .string ⟨y.ty.name.toArray⟩ | 8 => v = .agg #[.string ⟨x.ty.name.toArray⟩, .string ⟨y.ty.name.toArray⟩] | 9 => ∃ b, v = .pointer (some ⟨b, 0, none⟩) | _ => True)
    (fun L U W => Below w.heap.size w W ∧ (L 9 = true → ∃ b7, U 9 = .pointer (some ⟨b7, 0, none⟩) ∧ w.heap.size ≤ b7 ∧ b7 < W.heap.size ∧ W.there b7 0 2 ∧ (L 10 = true → W.rangeAt b7 0 [.string ⟨x.ty.name.toArray⟩, .string ⟨y.ty.name.toArray⟩]))) (fun _ _ => True) (fun _ _ _ _ _ h => h) (⟨(Below.refl _ _).drew, fun h => Bool.noConfusion h⟩) ?_ ?_
  · repeat (first | exact Steps.nil | (refine Steps.cons ?_ ?_; rotate_left))
    all_goals
      rintro L U W hL hpre hR hun hdep K hK
      have HR := Lib.hid hR
      obtain ⟨R1, R2⟩ := HR.out
      have c1 : W.cell? ⟨x.blk, 1, none⟩ = some (.string ⟨x.ty.name.toArray⟩) := (R1.cell (p := ⟨x.blk, 1, none⟩) Hxl.out).trans X1.out
      have c2 : W.cell? ⟨y.blk, 1, none⟩ = some (.string ⟨y.ty.name.toArray⟩) := (R1.cell (p := ⟨y.blk, 1, none⟩) Hyl.out).trans Y1.out
      have Hdep := Lib.hid hdep
      clear hun hdep hR
      first | (simp [Region.binds] at hpre; done) | simp [Region.binds] at hpre | clear hpre
    iterate 9
      · go_simp
        first | exact hK _ _ _ rfl trivial HR.out rfl | exact hK _ _ _ rfl trivial HR.out (by simp [Act.put, hpre]) | exact hK undef _ _ trivial trivial HR.out (by simp [Act.put, hpre]) | exact hK _ _ _ trivial trivial HR.out rfl | exact hK _ _ _ trivial trivial HR.out (by simp [Act.put, hpre])
    · have h10 : L 10 = false := Hdep.out 10 _ rfl { on := 9, ground := Ground.data } (by simp) (by rfl) hL
      go_simp
      refine hK _ _ _ ⟨_, rfl⟩ trivial ⟨R1.alloc R1.size _, fun _ => ⟨W.heap.size, rfl, R1.size, by simp, there_new W [.string ⟨#[]⟩, .string ⟨#[]⟩] _, fun h => absurd (h10.symm.trans (by simpa using h)) (by decide)⟩⟩ (by simp [Act.put])
    · obtain ⟨l9, b9, u9⟩ : L 9 = true ∧ ∃ b, U 9 = .pointer (some ⟨b, 0, none⟩) := by
        first | exact hpre.1 | exact hpre.2 | exact hpre.2.1 | exact ⟨hpre.1.1, hpre.1.2⟩
      obtain ⟨b7, hu, h1, h2, h3, _⟩ := R2 l9
      have u8 : U 8 = .agg ([.string ⟨x.ty.name.toArray⟩, .string ⟨y.ty.name.toArray⟩] : List Value).toArray := by first | exact hpre.1.2 | exact hpre.2.1.2 | exact hpre.2.2
      rw [if_pos (by rfl)]
      refine wp_store_mid 242 _ _ rfl b7 0 ([.string ⟨x.ty.name.toArray⟩, .string ⟨y.ty.name.toArray⟩] : List Value).toArray hu u8 h3 (by kernel_rfl) (by simp [Value.oneCell']) ?_
      exact hK undef _ _ trivial trivial ⟨below_setCells _ h1 _ _ _ R1, fun _ => ⟨b7, hu, h1, by rw [setCells_size]; exact h2, World.there_setCells h3 _ _ _, fun _ => World.rangeAt_setCells_same _ _ _ _ h3⟩⟩ rfl
  · rintro L U W hL hφ hR
    clear hφ
    obtain ⟨hbw, hR2⟩ := hR
    obtain ⟨b7, u7, hb7, hb7l, _, hrg⟩ := hR2 (hL 9 (by decide))
    have hrg := hrg (hL 10 (by decide))
    obtain ⟨W1, hW1⟩ : ∃ W1, W1 = W := ⟨_, rfl⟩
    rw [← hW1] at hbw hb7l hrg ⊢
    simp only [u7]
    have Hb1 := Lib.hid hbw
    have Hst1 := Lib.hid (Hst.out.below hbw)
    have k0 : W1.cell? ⟨b7, 0, none⟩ = some (.string ⟨x.ty.name.toArray⟩) := rangeAt_cell hrg 0 rfl
    have k1 : W1.cell? ⟨b7, 1, none⟩ = some (.string ⟨y.ty.name.toArray⟩) := rangeAt_cell hrg 1 rfl
    have e2 : W1.cell? ⟨w0.heap.size + 1, 2, none⟩ = some (.map (some w0.heap.size)) := Hst1.out.2.2.2.2.1
    have Hky := Lib.hid (Tryz.keyPair (a := x.ty.name) (b := y.ty.name) (by omega) (by omega))
    obtain ⟨inm, hinm⟩ : ∃ inm, decide ((x.ty.name, y.ty.name) ∈ m) = inm := ⟨_, rfl⟩
    have Hlook := Lib.hid (fun q => show (Instr.lookup 147 (.map (some w0.heap.size)) (.agg #[.string ⟨x.ty.name.toArray⟩, .string ⟨y.ty.name.toArray⟩]) false).run Tryz.prog (W1.drewN q) = .ok (.bool inm) (W1.drewN q) from by
      have := FMap.lookup (FMap.below Hst1.out.2.2.2.2.2 (below_drewN (Below.refl _ _) q)) Tryz.keyPairs Tryz.underlying147 (Tryz.zeroBool _) Hky.out
      rw [this, askedF_at ⟨by show x.ty.name.length ≤ 100; omega, by show y.ty.name.length ≤ 100; omega⟩ Hmlen.out, hinm])
    have Hinm := Lib.hid hinm
    have H7 := Lib.hid hb7l
    have HK7 := Lib.hid hrg
    clear hL hR2 hbw hrg hinm hW1 u7
    go_wp2_with fail
    refine wp_region_slots3 [20, 21, 22, 23, 24, 25] (by kernel_rfl) (by kernel_rfl) (by kernel_rfl) (fun u => by dsimp only [frameOf, setMany, List.set, Nat.zero_add, Nat.reduceAdd])
      (fun i v W => match i with | 0 => v = .pointer (some ⟨w0.heap.size + 1, 0, none⟩) | 1 => v = .pointer (some ⟨w0.heap.size + 1, 0, none⟩) | 2 => v = .pointer (some ⟨w0.heap.size + 1, 2, none⟩) | 3 => v = .map (some w0.heap.size) | 4 => v = .agg #[.string ⟨x.ty.name.toArray⟩, .string ⟨y.ty.name.toArray⟩] | 5 => v = .bool inm | _ => True)
      (fun L U W => ∃ q, W = W1.drewN q) (fun _ _ => True) (fun _ _ _ _ _ h => h) (⟨1, rfl⟩) ?_ ?_
    · repeat (first | exact Steps.nil | (refine Steps.cons ?_ ?_; rotate_left))
      all_goals
        rintro L U W hL hpre hR hun hdep K hK
        have HR := Lib.hid hR
        obtain ⟨q, rfl⟩ := HR.out
        have hlq := Hlook.out q
        clear hun hdep hR
        first | (simp [Region.binds] at hpre; done) | simp [Region.binds] at hpre | clear hpre
      iterate 6
        · go_simp
          first | exact hK _ _ _ rfl trivial HR.out rfl | exact hK _ _ _ rfl trivial HR.out (by simp [Act.put, hpre]) | exact hK undef _ _ trivial trivial HR.out (by simp [Act.put, hpre]) | exact hK _ _ _ trivial trivial HR.out rfl | exact hK _ _ _ trivial trivial HR.out (by simp [Act.put, hpre])
    · rintro L U W hL hφ hR
      have e5 : U 5 = .bool inm := hφ 5 (by decide)
      simp only [e5]
      clear hφ
      obtain ⟨q2, rfl⟩ := hR
      clear hL
      obtain ⟨W2, hW2⟩ : ∃ W2, W2 = W1.drewN q2 := ⟨_, rfl⟩
      rw [← hW2]
      have hb12 : Below W1.heap.size W1 W2 := by rw [hW2]; exact below_drewN (Below.refl _ _) q2
      have Hst2 := Lib.hid (Hst1.out.below hb12)
      have Hb2 := Lib.hid (Hb1.out.trans (hb12.mono Hb1.out.size))
      have k02 : W2.cell? ⟨b7, 0, none⟩ = some (.string ⟨x.ty.name.toArray⟩) := by rw [hW2]; exact k0
      have k12 : W2.cell? ⟨b7, 1, none⟩ = some (.string ⟨y.ty.name.toArray⟩) := by rw [hW2]; exact k1
      have e22 : W2.cell? ⟨w0.heap.size + 1, 2, none⟩ = some (.map (some w0.heap.size)) := Hst2.out.2.2.2.2.1
      clear hW2 hb12 k0 k1 e2
      cases inm with
      | true =>
        have HF2 := Lib.hid (HF.out.trans (if_pos (of_decide_eq_true Hinm.out)))
        go_wp2_with fail
        go_ret
        rw [HF2.out]
        exact ⟨rfl, Hst2.out, grown_of_below Hb2.out _⟩
      | false =>
        have HF2 := Lib.hid (HF.out.trans (if_neg (of_decide_eq_false Hinm.out)))
        have Hm2 := Lib.hid (Hm.out.snoc hnx hny (of_decide_eq_false Hinm.out))
        have Hstore := Lib.hid (fun q => FMap.store (FMap.below Hst2.out.2.2.2.2.2 (below_drewN (Below.refl _ _) q)) Tryz.keyPairs Tryz.underlying147 (show m.length < maxLen by unfold maxLen; omega) (.bool true) Hky.out)
        clear hnx hny
        go_wp2_with fail
        refine wp_region_slots3 [26, 27, 28, 29, 30, 999] (by kernel_rfl) (by kernel_rfl) (by kernel_rfl) (fun u => by dsimp only [frameOf, setMany, List.set, Nat.zero_add, Nat.reduceAdd])
          (fun i v W => match i with | 0 => v = .pointer (some ⟨w0.heap.size + 1, 0, none⟩) | 1 => v = .pointer (some ⟨w0.heap.size + 1, 0, none⟩) | 2 => v = .pointer (some ⟨w0.heap.size + 1, 2, none⟩) | 3 => v = .map (some w0.heap.size) | 4 => v = .agg #[.string ⟨x.ty.name.toArray⟩, .string ⟨y.ty.name.toArray⟩] | _ => True)
          (fun L U W => (L 5 = false → ∃ q, W = W2.drewN q) ∧ (L 5 = true → IAskSt w0 (.pointer (some ⟨pb1, 0, none⟩)) (.pointer (some ⟨pb2, 0, none⟩)) W (m ++ [(x.ty.name, y.ty.name)]) ∧ W2.grownBy W (some w0.heap.size))) (fun _ _ => True) (fun _ _ _ _ _ h => h) (⟨fun _ => ⟨1, rfl⟩, fun h => Bool.noConfusion h⟩) ?_ ?_
        · repeat (first | exact Steps.nil | (refine Steps.cons ?_ ?_; rotate_left))
          all_goals
            rintro L U W hL hpre hR hun hdep K hK
            have HR := Lib.hid hR
            obtain ⟨R1, R2⟩ := HR.out
            have Hdep := Lib.hid hdep
            clear hun hdep hR
            first | (simp [Region.binds] at hpre; done) | simp [Region.binds] at hpre | clear hpre
          iterate 3
            · go_simp
              first | exact hK _ _ _ rfl trivial HR.out rfl | exact hK _ _ _ rfl trivial HR.out (by simp [Act.put, hpre]) | exact hK undef _ _ trivial trivial HR.out (by simp [Act.put, hpre]) | exact hK _ _ _ trivial trivial HR.out rfl | exact hK _ _ _ trivial trivial HR.out (by simp [Act.put, hpre])
          · have h5 : L 5 = false := Hdep.out 5 _ rfl { on := 3, ground := Ground.data } (by simp) (by rfl) hL
            obtain ⟨q, rfl⟩ := R1 h5
            go_simp
            first | exact hK _ _ _ rfl trivial HR.out rfl | exact hK _ _ _ rfl trivial HR.out (by simp [Act.put, hpre])
          · have h5 : L 5 = false := Hdep.out 5 _ rfl { on := 4, ground := Ground.data } (by simp) (by rfl) hL
            obtain ⟨q, rfl⟩ := R1 h5
            go_simp
            first | exact hK _ _ _ rfl trivial HR.out rfl | exact hK _ _ _ rfl trivial HR.out (by simp [Act.put, hpre])
          · obtain ⟨q, rfl⟩ := R1 hL
            obtain ⟨w', hrun, hF, hg⟩ := Hstore.out q
            go_simp
            exact hK undef _ _ trivial trivial ⟨fun h => by simp at h, fun _ => ⟨(Hst2.out.below (below_drewN (Below.refl _ _) q)).push hg hF, (grown_of_below (below_drewN (Below.refl _ _) q) _).trans hg⟩⟩ (by simp [Act.put, hpre])
        · rintro L U W hL hφ hR
          clear hφ
          obtain ⟨hst3, hg3⟩ := hR.2 (hL 5 (by decide))
          obtain ⟨W3, hW3⟩ : ∃ W3, W3 = W := ⟨_, rfl⟩
          rw [← hW3] at hst3 hg3 ⊢
          have Hst3 := Lib.hid hst3
          have Hg3 := Lib.hid ((grown_of_below Hb2.out _).trans hg3)
          have x0 : W3.cell? ⟨x.blk, 0, none⟩ = some (.int .u8 (x.ty.sort.toNat : Int)) := (hst3.1.cell (p := ⟨x.blk, 0, none⟩) Hxl0.out).trans Htx.out.2.2.1
          have y0 : W3.cell? ⟨y.blk, 0, none⟩ = some (.int .u8 (y.ty.sort.toNat : Int)) := (hst3.1.cell (p := ⟨y.blk, 0, none⟩) Hyl0.out).trans Hty.out.2.2.1
          obtain ⟨Ay, cy, hyc, hyr⟩ := IFds.range0 Hty.out
          have y2 : W3.cell? ⟨y.blk, 2, none⟩ = some (.slice Ay y.ty.fields.length cy) := (hst3.1.cell (p := ⟨y.blk, 2, none⟩) Hyl0.out).trans hyc
          have Hyr := Lib.hid hyr
          have Hyc := Lib.hid hyc
          obtain ⟨ns, hns⟩ : ∃ ns, ((x.ty.sort.toNat : Int) != (y.ty.sort.toNat : Int)) = ns := ⟨_, rfl⟩
          have Hns := Lib.hid hns
          clear hst3 hg3 hR hL hW3 k02 k12 e22 hyr hyc
          go_wp2_with fail
          refine wp_region_slots3 [31, 32, 33, 34, 35, 36, 37, 38, 39] (by kernel_rfl) (by kernel_rfl) (by kernel_rfl) (fun u => by dsimp only [frameOf, setMany, List.set, Nat.zero_add, Nat.reduceAdd])
            (fun i v W => match i with | 0 => v = .pointer (some ⟨x.blk, 0, none⟩) | 1 => v = .pointer (some ⟨x.blk, 0, none⟩) | 2 => v = .pointer (some ⟨x.blk, 0, none⟩) | 3 => v = .int .u8 (x.ty.sort.toNat : Int) | 4 => v = .pointer (some ⟨y.blk, 0, none⟩) | 5 => v = .pointer (some ⟨y.blk, 0, none⟩) | 6 => v = .pointer (some ⟨y.blk, 0, none⟩) | 7 => v = .int .u8 (y.ty.sort.toNat : Int) | 8 => v = .bool ns | _ => True)
            (fun L U W => ∃ q, W = W3.drewN q) (fun _ _ => True) (fun _ _ _ _ _ h => h) (⟨1, rfl⟩) ?_ ?_
          · repeat (first | exact Steps.nil | (refine Steps.cons ?_ ?_; rotate_left))
            all_goals
              rintro L U W hL hpre hR hun hdep K hK
              have HR := Lib.hid hR
              obtain ⟨q, rfl⟩ := HR.out
              clear hun hdep hR
              first | (simp [Region.binds] at hpre; done) | simp [Region.binds] at hpre | clear hpre
            iterate 9
              · go_simp
                first | exact hK _ _ _ rfl trivial HR.out rfl | exact hK _ _ _ rfl trivial HR.out (by simp [Act.put, hpre, hns]) | exact hK undef _ _ trivial trivial HR.out (by simp [Act.put, hpre, hns]) | exact hK _ _ _ trivial trivial HR.out rfl | exact hK _ _ _ trivial trivial HR.out (by simp [Act.put, hpre, hns])
          · rintro L U W hL hφ hR
            have e8 : U 8 = .bool ns := hφ 8 (by decide)
            simp only [e8]
            clear hφ
            obtain ⟨q3, rfl⟩ := hR
            clear hL hns
            obtain ⟨W4, hW4⟩ : ∃ W4, W4 = W3.drewN q3 := ⟨_, rfl⟩
            rw [← hW4]
            have hb34 : Below W3.heap.size W3 W4 := by rw [hW4]; exact below_drewN (Below.refl _ _) q3
            have Hst4 := Lib.hid (Hst3.out.below hb34)
            have Hg4 := Lib.hid (Hg3.out.trans (grown_of_below hb34 _))
            have y24 : W4.cell? ⟨y.blk, 2, none⟩ = some (.slice Ay y.ty.fields.length cy) := by rw [hW4]; exact y2
            clear hW4 hb34 x0 y0 y2
            cases ns with
            | true =>
              have HF3 := Lib.hid (show evT (ptysOf xs) (ptysOf ys) (evK (ptysOf xs) (ptysOf ys) n) x.ty y.ty (m ++ [(x.ty.name, y.ty.name)]) = (false, m ++ [(x.ty.name, y.ty.name)]) from if_pos (by have := Hns.out; simp at this; intro h; rw [h] at this; exact this rfl))
              go_wp2_with fail
              go_ret
              rw [HF2.out, HF3.out]
              exact ⟨rfl, Hst4.out, Hg4.out⟩
            | false =>
              have hsu : x.ty.sort = y.ty.sort := by have := Hns.out; simp at this; exact UInt8.toNat_inj.1 (by omega)
              have HF3 := Lib.hid (show evT (ptysOf xs) (ptysOf ys) (evK (ptysOf xs) (ptysOf ys) n) x.ty y.ty (m ++ [(x.ty.name, y.ty.name)]) = evF (ptysOf xs) (ptysOf ys) (evK (ptysOf xs) (ptysOf ys) n) x.ty y.ty.sort y.ty.fields (m ++ [(x.ty.name, y.ty.name)]) from if_neg (by simp [hsu]))
              have Hsu := Lib.hid hsu
              clear hsu
              go_wp2_with fail
              go_loopw [45] (fun i wr => ∃ (j : Nat) (m' : List Pair), i = .int .i64 j ∧ j ≤ y.ty.fields.length ∧ Hid (evT (ptysOf xs) (ptysOf ys) (evK (ptysOf xs) (ptysOf ys) n) x.ty y.ty (m ++ [(x.ty.name, y.ty.name)]) = evF (ptysOf xs) (ptysOf ys) (evK (ptysOf xs) (ptysOf ys) n) x.ty y.ty.sort (y.ty.fields.drop j) m') ∧
                Hid (IAskSt w0 (.pointer (some ⟨pb1, 0, none⟩)) (.pointer (some ⟨pb2, 0, none⟩)) wr m') ∧ Hid (w.grownBy wr (some w0.heap.size)) ∧ Hid (Asks (ptysOf xs) (ptysOf ys) m') ∧ m.length + 1 ≤ m'.length) (fun i _ => y.ty.fields.length - (intOf i).toNat)
              case atStart => exact ⟨0, _, rfl, Nat.zero_le _, HF3.out, Hst4.out, Hg4.out, Hm2.out, by simp⟩
              case round =>
                obtain ⟨j, m', rfl, hj, heq, hst', hg', hm', hml'⟩ := hrel
                have j1 : (0 : Int) ≤ (j : Int) := by omega
                have y2r : wr.cell? ⟨y.blk, 2, none⟩ = some (.slice Ay y.ty.fields.length cy) := (hst'.out.1.cell (p := ⟨y.blk, 2, none⟩) Hyl0.out).trans Hyc.out
                have y0r : wr.cell? ⟨y.blk, 0, none⟩ = some (.int .u8 (y.ty.sort.toNat : Int)) := (hst'.out.1.cell (p := ⟨y.blk, 0, none⟩) Hyl0.out).trans Hty.out.2.2.1
                by_cases hlt : j < y.ty.fields.length
                · have j2 : (j : Int) < (y.ty.fields.length : Int) := by omega
                  have Hstep := Lib.hid (heq.out.trans (evF_step _ _ _ x.ty y.ty.sort y.ty.fields j hlt m'))
                  obtain ⟨bb, off, rfl, hbb, hrg⟩ := Hyr.out j hlt
                  have Hgm := Lib.hid (List.getElem_mem hlt)
                  generalize y.ty.fields[j] = g at hrg Hstep Hgm
                  have Rg := Lib.hid hrg
                  have Bg := Lib.hid hbb
                  have g0 : wr.cell? ⟨bb, off + j * 6, none⟩ = some (.int .i64 (g.tag : Int)) := by simpa using rangeAt_cell (rangeAt_below hrg hbb hst'.out.1) 0 rfl
                  have Hgo := Lib.hid (Huo.out.2.2.1.1 g Hgm.out)
                  have hgt : g.tag ≤ 200 := Hgo.out.2.1
                  clear hrg hbb
                  go_wp2_with fail
                  refine (iField_any w0 x Htx.out g.tag wr hst'.out.1 (by omega)).mono ?_
                  rintro e w5 ⟨fv, rfl, hfp, rfl⟩
                  have hfm := fun f (h : fieldT x.ty.fields g.tag = some f) => fieldT_mem h
                  have Hfm := Lib.hid hfm
                  clear hfm
                  generalize fieldT x.ty.fields g.tag = o at hfp Hstep Hfm
                  cases o with
                  | none =>
                    have hfv : fv = .pointer none := hfp
                    subst hfv
                    clear hfp
                    by_cases h82 : y.ty.sort = 82
                    · have t82 : ((y.ty.sort.toNat : Int) == 82) = true := byte_eq (d := 82) h82
                      have Hs2 := Lib.hid (Hstep.out.trans (if_pos h82))
                      clear h82
                      go_wp2_with fail
                      go_roundw
                      case rel => exact ⟨j + 1, m', by go_num, by omega, Hs2.out, hst'.out, hg'.out, hm'.out, hml'⟩
                      case measure => simp [intOf]; omega
                    · have t82 : ((y.ty.sort.toNat : Int) == 82) = false := byte_ne (d := 82) h82
                      have Hs2 := Lib.hid (Hstep.out.trans (if_neg h82))
                      clear h82
                      go_wp2_with fail
                      refine wp_region_slots3 [82, 83, 84, 85, 86, 87, 88, 89, 90, 91, 92, 93, 94, 95, 96, 81] (by kernel_rfl) (by kernel_rfl) (by kernel_rfl) (fun u => by dsimp only [frameOf, setMany, List.set, Nat.zero_add, Nat.reduceAdd])
                        (fun i v W => match i with | 0 => v = .pointer none | 1 => v = .bool true | 2 => v = .bool true | 3 => v = undef | 4 => v = undef | 5 => v = undef | 6 => v = undef | 7 => v = undef | 8 => v = undef | 9 => v = undef | 10 => v = undef | 11 => v = undef | 12 => v = undef | 13 => v = undef | 14 => v = .bool true | 15 => v = .bool true | _ => True)
                        (fun L U W => ∃ q, W = wr.drewN q) (fun _ _ => True) (fun _ _ _ _ _ h => h) (⟨1, rfl⟩) ?_ ?_
                      · repeat (first | exact Steps.nil | (refine Steps.cons ?_ ?_; rotate_left))
                        all_goals
                          rintro L U W hL hpre hR hun hdep K hK
                          have HR := Lib.hid hR
                          obtain ⟨q, rfl⟩ := HR.out
                          clear hun hdep hR
                          first | (simp [Region.binds] at hpre; done) | simp [Region.binds] at hpre | clear hpre
                        iterate 16
                          · go_simp
                            first | exact hK _ _ _ rfl trivial HR.out rfl | exact hK _ _ _ rfl trivial HR.out (by simp [Act.put, hpre]) | exact hK undef _ _ trivial trivial HR.out (by simp [Act.put, hpre]) | exact hK _ _ _ trivial trivial HR.out rfl | exact hK _ _ _ trivial trivial HR.out (by simp [Act.put, hpre])
                      · rintro L U W hL hφ hR
                        have e15 : U 15 = .bool true := hφ 15 (by decide)
                        simp only [e15]
                        clear hφ
                        obtain ⟨q, rfl⟩ := hR
                        clear hL
                        go_wp2_with fail
                        go_ret
                        rw [HF2.out, Hs2.out]
                        exact ⟨rfl, hst'.out.below (below_drewN (Below.refl _ _) q), hg'.out.trans (grown_of_below (below_drewN (Below.refl _ _) q) _)⟩
                  | some f =>
                    obtain ⟨bf, of, hfv, hbf, hrf⟩ := hfp
                    subst hfv
                    have Rf := Lib.hid (show w0.rangeAt bf of (ifc f) from fun k v hv => by
                      have := hrf k v hv
                      rwa [hst'.out.1.cell (p := ⟨bf, of + k, none⟩) hbf] at this)
                    have Bf := Lib.hid hbf
                    have Hfm2 := Lib.hid (Hfm.out f rfl)
                    clear hrf hbf Hfm
                    by_cases h69 : y.ty.sort = 69
                    · have t69 : ((y.ty.sort.toNat : Int) == 69) = true := byte_eq (d := 69) h69
                      have Hs2 := Lib.hid (Hstep.out.trans (if_pos h69))
                      clear h69
                      go_wp2_with fail
                      go_roundw
                      case rel => exact ⟨j + 1, m', by go_num, by omega, Hs2.out, hst'.out, hg'.out, hm'.out, hml'⟩
                      case measure => simp [intOf]; omega
                    · have t69 : ((y.ty.sort.toNat : Int) == 69) = false := byte_ne (d := 69) h69
                      have Hs2 := Lib.hid (Hstep.out.trans (if_neg h69))
                      have h69x : x.ty.sort ≠ 69 := by rw [Hsu.out]; exact h69
                      have hfo := Hto.out.2.2.1.1 f Hfm2.out
                      have Hfk := Lib.hid (hfo.2.2.2.2 h69x).1
                      have Hgk := Lib.hid (Hgo.out.2.2.2.2 h69).1
                      have Hfr := Lib.hid (Htk.out h69x f Hfm2.out)
                      have Hgr2 := Lib.hid (Huk.out h69 g Hgm.out)
                      have hfg := given_len hfo
                      have hgg := given_len Hgo.out
                      have Hcall := Lib.hid (fun W (h : IAskSt w0 (.pointer (some ⟨pb1, 0, none⟩)) (.pointer (some ⟨pb2, 0, none⟩)) W m') => Ih.out f.kind g.kind m' W Hfk.out Hgk.out Hfr.out Hgr2.out hm'.out (by omega) h)
                      unfold kdV at Hcall
                      have Hof1 := Lib.hid (fun W (h : Below w0.heap.size w0 W) => iOf_any _ xs HS.out f bf of W (Hx.out.below h) (rangeAt_below Rf.out Bf.out h) Hfk.out Hfr.out (by omega))
                      have Hof2 := Lib.hid (fun W (h : Below w0.heap.size w0 W) => iOf_any _ ys HT.out g bb (off + j * 6) W (Hy.out.below h) (rangeAt_below Rg.out Bg.out h) Hgk.out Hgr2.out (by omega))
                      obtain ⟨hma, hmb⟩ := Hgr.out f.kind g.kind m' hm'.out
                      have Hma := Lib.hid hma
                      have Hmb := Lib.hid hmb
                      have H69 := Lib.hid h69
                      clear hma hmb hfo h69x h69
                      go_wp2_with fail
                      generalize hr : evK (ptysOf xs) (ptysOf ys) n f.kind g.kind m' = r at *
                      obtain ⟨r1, r2⟩ := r
                      simp only [] at Hma Hmb
                      clear hr
                      refine wp_region_slots3 [82, 83, 84, 85, 86, 87, 88, 89, 90, 91, 92, 93, 94, 95, 96, 81] (by kernel_rfl) (by kernel_rfl) (by kernel_rfl) (fun u => by dsimp only [frameOf, setMany, List.set, Nat.zero_add, Nat.reduceAdd])
                        (fun i v W => match i with | 0 => v = .pointer (some ⟨bf, of, none⟩) | 1 => v = .bool false | 2 => v = .bool false | 3 => v = .pointer (some ⟨w0.heap.size + 1, 0, none⟩) | 4 => v = .pointer (some ⟨bf, of, none⟩) | 5 => v = .pointer (some ⟨bf, of, none⟩) | 6 => v = .pointer (some ⟨bf, of + 2, none⟩) | 7 => v = .agg #[.string ⟨f.kind.signs.toArray⟩, .string ⟨f.kind.base.toArray⟩, .string ⟨f.kind.name.toArray⟩] | 8 => v = .pointer (some ⟨bb, off + j * 6, none⟩) | 9 => v = .pointer (some ⟨bb, off + j * 6, none⟩) | 10 => v = .pointer (some ⟨bb, off + j * 6 + 2, none⟩) | 11 => v = .agg #[.string ⟨g.kind.signs.toArray⟩, .string ⟨g.kind.base.toArray⟩, .string ⟨g.kind.name.toArray⟩] | 12 => v = .bool r1 | 13 => v = .bool (!r1) | 14 => v = .bool (!r1) | 15 => v = .bool (!r1) | _ => True)
                        (fun L U W => ∃ mm, IAskSt w0 (.pointer (some ⟨pb1, 0, none⟩)) (.pointer (some ⟨pb2, 0, none⟩)) W mm ∧ wr.grownBy W (some w0.heap.size) ∧ (L 12 = true → mm = r2) ∧ (L 12 = false → mm = m')) (fun _ _ => True) (fun _ _ _ _ _ h => h) (⟨m', hst'.out.below ((Below.refl _ _).drew), grown_of_below ((Below.refl _ _).drew) _, fun h => Bool.noConfusion h, fun _ => rfl⟩) ?_ ?_
                      · repeat (first | exact Steps.nil | (refine Steps.cons ?_ ?_; rotate_left))
                        all_goals
                          rintro L U W hL hpre hR hun hdep K hK
                          have HR := Lib.hid hR
                          obtain ⟨mm, ha9, hk9, r5, r6⟩ := HR.out
                          have f2 : W.cell? ⟨bf, of + 2, none⟩ = some (.string ⟨f.kind.signs.toArray⟩) := rangeAt_cell (rangeAt_below Rf.out Bf.out ha9.1) 2 rfl
                          have f3 : W.cell? ⟨bf, of + 3, none⟩ = some (.string ⟨f.kind.base.toArray⟩) := rangeAt_cell (rangeAt_below Rf.out Bf.out ha9.1) 3 rfl
                          have f4 : W.cell? ⟨bf, of + 4, none⟩ = some (.string ⟨f.kind.name.toArray⟩) := rangeAt_cell (rangeAt_below Rf.out Bf.out ha9.1) 4 rfl
                          have f3' : W.cell? ⟨bf, of + 2 + 1, none⟩ = _ := f3
                          have f4' : W.cell? ⟨bf, of + 2 + 1 + 1, none⟩ = _ := f4
                          have f4'' : W.cell? ⟨bf, of + 2 + 2, none⟩ = _ := f4
                          have g2 : W.cell? ⟨bb, off + j * 6 + 2, none⟩ = some (.string ⟨g.kind.signs.toArray⟩) := rangeAt_cell (rangeAt_below Rg.out Bg.out ha9.1) 2 rfl
                          have g3 : W.cell? ⟨bb, off + j * 6 + 3, none⟩ = some (.string ⟨g.kind.base.toArray⟩) := rangeAt_cell (rangeAt_below Rg.out Bg.out ha9.1) 3 rfl
                          have g4 : W.cell? ⟨bb, off + j * 6 + 4, none⟩ = some (.string ⟨g.kind.name.toArray⟩) := rangeAt_cell (rangeAt_below Rg.out Bg.out ha9.1) 4 rfl
                          have g3' : W.cell? ⟨bb, off + j * 6 + 2 + 1, none⟩ = _ := g3
                          have g4' : W.cell? ⟨bb, off + j * 6 + 2 + 1 + 1, none⟩ = _ := g4
                          have g4'' : W.cell? ⟨bb, off + j * 6 + 2 + 2, none⟩ = _ := g4
                          clear hun hdep hR
                          first | (simp [Region.binds] at hpre; done) | simp [Region.binds] at hpre | clear hpre
                        iterate 12
                          · go_simp
                            first | exact hK _ _ _ rfl trivial HR.out rfl | exact hK _ _ _ rfl trivial HR.out (by simp [Act.put, hpre]) | exact hK undef _ _ trivial trivial HR.out (by simp [Act.put, hpre]) | exact hK _ _ _ trivial trivial HR.out rfl | exact hK _ _ _ trivial trivial HR.out (by simp [Act.put, hpre])
                        · go_simp
                          obtain rfl := r6 hL
                          refine (Hcall.out W ha9).mono ?_
                          rintro e w5 ⟨rfl, ha5, hk5⟩
                          exact hK _ _ _ rfl trivial ⟨_, ha5, hk9.trans hk5, fun _ => rfl, fun h => by simp at h⟩ (by simp [Act.put, hpre])
                        iterate 3
                          · go_simp
                            first | exact hK _ _ _ rfl trivial HR.out rfl | exact hK _ _ _ rfl trivial HR.out (by simp [Act.put, hpre]) | exact hK undef _ _ trivial trivial HR.out (by simp [Act.put, hpre]) | exact hK _ _ _ trivial trivial HR.out rfl | exact hK _ _ _ trivial trivial HR.out (by simp [Act.put, hpre])
                      · rintro L U W hL hφ hR
                        have e15 : U 15 = .bool (!r1) := hφ 15 (by decide)
                        simp only [e15]
                        clear hφ
                        obtain ⟨mm, ha9, hk9, h1, _⟩ := hR
                        obtain rfl := h1 (hL 12 (by decide))
                        have Ha9 := Lib.hid ha9
                        have Hk9 := Lib.hid (hg'.out.trans hk9)
                        clear hL ha9 hk9 h1
                        cases r1 with
                        | false =>
                          have Hs3 := Lib.hid (Hs2.out.trans (if_pos rfl))
                          go_wp2_with fail
                          go_ret
                          rw [HF2.out, Hs3.out]
                          exact ⟨rfl, Ha9.out, Hk9.out⟩
                        | true =>
                          have Hs3 := Lib.hid (Hs2.out.trans (if_neg (by simp)))
                          obtain ⟨W9, hW9⟩ : ∃ W9, W9 = W := ⟨_, rfl⟩
                          rw [← hW9] at Ha9 Hk9
                          have Hst9 := Lib.hid Ha9.out
                          have Y0w := Lib.hid Hty.out.2.2.1
                          by_cases h82 : y.ty.sort = 82
                          · have t82 : ((y.ty.sort.toNat : Int) == 82) = true := byte_eq (d := 82) h82
                            have H82 := Lib.hid h82
                            clear h82
                            obtain ⟨nb, hnb⟩ : ∃ nb, (!(ofL (ptysOf xs) f == ofL (ptysOf ys) g)) = nb := ⟨_, rfl⟩
                            have Hnb := Lib.hid hnb
                            go_wp2_with fail
                            rw [← hW9]
                            clear hW9
                            refine wp_region_slots3 [98, 99, 100, 101, 102, 103, 104, 105, 106, 107, 108, 109, 110, 111, 112, 113, 114, 115, 116, 117, 97] (by kernel_rfl) (by kernel_rfl) (by kernel_rfl) (fun u => by dsimp only [frameOf, setMany, List.set, Nat.zero_add, Nat.reduceAdd])
                              (fun i v W => match i with | 0 => v = .pointer (some ⟨y.blk, 0, none⟩) | 1 => v = .pointer (some ⟨y.blk, 0, none⟩) | 2 => v = .pointer (some ⟨y.blk, 0, none⟩) | 3 => v = .int .u8 (y.ty.sort.toNat : Int) | 4 => v = .bool true | 5 => v = .bool true | 6 => v = .pointer (some ⟨w0.heap.size + 1, 0, none⟩) | 7 => v = .pointer (some ⟨w0.heap.size + 1, 0, none⟩) | 8 => v = .pointer (some ⟨w0.heap.size + 1, 0, none⟩) | 9 => v = .pointer (some ⟨pb1, 0, none⟩) | 10 => v = .pointer (some ⟨bf, of, none⟩) | 11 => v = .string ⟨(ofL (ptysOf xs) f).toArray⟩ | 12 => v = .pointer (some ⟨w0.heap.size + 1, 0, none⟩) | 13 => v = .pointer (some ⟨w0.heap.size + 1, 0, none⟩) | 14 => v = .pointer (some ⟨w0.heap.size + 1, 1, none⟩) | 15 => v = .pointer (some ⟨pb2, 0, none⟩) | 16 => v = .pointer (some ⟨bb, off + j * 6, none⟩) | 17 => v = .string ⟨(ofL (ptysOf ys) g).toArray⟩ | 18 => v = .bool nb | 19 => v = .bool nb | 20 => v = .bool nb | _ => True)
                              (fun L U W => Below W9.heap.size W9 W) (fun _ _ => True) (fun _ _ _ _ _ h => h) ((Below.refl _ _).drew) ?_ ?_
                            · repeat (first | exact Steps.nil | (refine Steps.cons ?_ ?_; rotate_left))
                              all_goals
                                rintro L U W hL hpre hR hun hdep K hK
                                have HR := Lib.hid hR
                                have ha9 := Hst9.out.below HR.out
                                have a0 : W.cell? ⟨w0.heap.size + 1, 0, none⟩ = some (.pointer (some ⟨pb1, 0, none⟩)) := ha9.2.2.1
                                have a1 : W.cell? ⟨w0.heap.size + 1, 1, none⟩ = some (.pointer (some ⟨pb2, 0, none⟩)) := ha9.2.2.2.1
                                have y0 : W.cell? ⟨y.blk, 0, none⟩ = some (.int .u8 (y.ty.sort.toNat : Int)) := (ha9.1.cell (p := ⟨y.blk, 0, none⟩) Hyl0.out).trans Y0w.out
                                clear hun hdep hR
                                first | (simp [Region.binds] at hpre; done) | simp [Region.binds] at hpre | clear hpre
                              iterate 11
                                · go_simp
                                  first | exact hK _ _ _ rfl trivial HR.out rfl | exact hK _ _ _ rfl trivial HR.out (by simp [Act.put, hpre, hnb]) | exact hK undef _ _ trivial trivial HR.out (by simp [Act.put, hpre, hnb]) | exact hK _ _ _ trivial trivial HR.out rfl | exact hK _ _ _ trivial trivial HR.out (by simp [Act.put, hpre, hnb])
                              · go_simp
                                refine (Hof1.out W ha9.1).mono ?_
                                rintro e w5 ⟨rfl, hb5⟩
                                exact hK _ _ _ rfl trivial (HR.out.trans (hb5.mono HR.out.size)) (by simp [Act.put, hpre])
                              iterate 5
                                · go_simp
                                  first | exact hK _ _ _ rfl trivial HR.out rfl | exact hK _ _ _ rfl trivial HR.out (by simp [Act.put, hpre, hnb]) | exact hK undef _ _ trivial trivial HR.out (by simp [Act.put, hpre, hnb]) | exact hK _ _ _ trivial trivial HR.out rfl | exact hK _ _ _ trivial trivial HR.out (by simp [Act.put, hpre, hnb])
                              · go_simp
                                refine (Hof2.out W ha9.1).mono ?_
                                rintro e w5 ⟨rfl, hb5⟩
                                exact hK _ _ _ rfl trivial (HR.out.trans (hb5.mono HR.out.size)) (by simp [Act.put, hpre])
                              iterate 3
                                · go_simp
                                  first | exact hK _ _ _ rfl trivial HR.out rfl | exact hK _ _ _ rfl trivial HR.out (by simp [Act.put, hpre, hnb]) | exact hK undef _ _ trivial trivial HR.out (by simp [Act.put, hpre, hnb]) | exact hK _ _ _ trivial trivial HR.out rfl | exact hK _ _ _ trivial trivial HR.out (by simp [Act.put, hpre, hnb])
                            · rintro L U W hL hφ hR
                              have e20 : U 20 = .bool nb := hφ 20 (by decide)
                              simp only [e20]
                              clear hφ
                              have Hbw := Lib.hid hR
                              clear hL hR hnb
                              cases nb with
                              | true =>
                                have Hs4 := Lib.hid (Hs3.out.trans (if_pos ⟨H82.out, by have := Hnb.out; simpa using this⟩))
                                go_wp2_with fail
                                go_ret
                                rw [HF2.out, Hs4.out]
                                exact ⟨rfl, Ha9.out.below Hbw.out, Hk9.out.trans (grown_of_below Hbw.out _)⟩
                              | false =>
                                have Hs4 := Lib.hid (Hs3.out.trans (if_neg (fun h => h.2 (by have := Hnb.out; simpa using this))))
                                go_wp2_with fail
                                go_roundw
                                case rel => exact ⟨j + 1, mm, by go_num, by omega, Hs4.out, Ha9.out.below Hbw.out, Hk9.out.trans (grown_of_below Hbw.out _), Hma.out, by obtain ⟨l, hl⟩ := Hmb.out; rw [hl, List.length_append]; omega⟩
                                case measure => simp [intOf]; omega
                          · have t82 : ((y.ty.sort.toNat : Int) == 82) = false := byte_ne (d := 82) h82
                            have Hs4 := Lib.hid (Hs3.out.trans (if_neg (fun h => h82 h.1)))
                            clear h82
                            go_wp2_with fail
                            rw [← hW9]
                            clear hW9
                            refine wp_region_slots3 [98, 99, 100, 101, 102, 103, 104, 105, 106, 107, 108, 109, 110, 111, 112, 113, 114, 115, 116, 117, 97] (by kernel_rfl) (by kernel_rfl) (by kernel_rfl) (fun u => by dsimp only [frameOf, setMany, List.set, Nat.zero_add, Nat.reduceAdd])
                              (fun i v W => match i with | 0 => v = .pointer (some ⟨y.blk, 0, none⟩) | 1 => v = .pointer (some ⟨y.blk, 0, none⟩) | 2 => v = .pointer (some ⟨y.blk, 0, none⟩) | 3 => v = .int .u8 (y.ty.sort.toNat : Int) | 4 => v = .bool false | 5 => v = .bool false | 6 => v = undef | 7 => v = undef | 8 => v = undef | 9 => v = undef | 10 => v = undef | 11 => v = undef | 12 => v = undef | 13 => v = undef | 14 => v = undef | 15 => v = undef | 16 => v = undef | 17 => v = undef | 18 => v = undef | 19 => v = .bool false | 20 => v = .bool false | _ => True)
                              (fun L U W => Below W9.heap.size W9 W) (fun _ _ => True) (fun _ _ _ _ _ h => h) ((Below.refl _ _).drew) ?_ ?_
                            · repeat (first | exact Steps.nil | (refine Steps.cons ?_ ?_; rotate_left))
                              all_goals
                                rintro L U W hL hpre hR hun hdep K hK
                                have HR := Lib.hid hR
                                have ha9 := Hst9.out.below HR.out
                                have a0 : W.cell? ⟨w0.heap.size + 1, 0, none⟩ = some (.pointer (some ⟨pb1, 0, none⟩)) := ha9.2.2.1
                                have a1 : W.cell? ⟨w0.heap.size + 1, 1, none⟩ = some (.pointer (some ⟨pb2, 0, none⟩)) := ha9.2.2.2.1
                                have y0 : W.cell? ⟨y.blk, 0, none⟩ = some (.int .u8 (y.ty.sort.toNat : Int)) := (ha9.1.cell (p := ⟨y.blk, 0, none⟩) Hyl0.out).trans Y0w.out
                                clear hun hdep hR
                                first | (simp [Region.binds] at hpre; done) | simp [Region.binds] at hpre | clear hpre
                              iterate 21
                                · go_simp
                                  first | exact hK _ _ _ rfl trivial HR.out rfl | exact hK _ _ _ rfl trivial HR.out (by simp [Act.put, hpre]) | exact hK undef _ _ trivial trivial HR.out (by simp [Act.put, hpre]) | exact hK _ _ _ trivial trivial HR.out rfl | exact hK _ _ _ trivial trivial HR.out (by simp [Act.put, hpre])
                            · rintro L U W hL hφ hR
                              have e20 : U 20 = .bool false := hφ 20 (by decide)
                              simp only [e20]
                              clear hφ
                              have Hbw := Lib.hid hR
                              clear hL hR
                              go_wp2_with fail
                              go_roundw
                              case rel => exact ⟨j + 1, mm, by go_num, by omega, Hs4.out, Ha9.out.below Hbw.out, Hk9.out.trans (grown_of_below Hbw.out _), Hma.out, by obtain ⟨l, hl⟩ := Hmb.out; rw [hl, List.length_append]; omega⟩
                              case measure => simp [intOf]; omega
                · obtain rfl : j = y.ty.fields.length := by omega
                  have Hend := Lib.hid (heq.out.trans (evF_end _ _ _ x.ty y.ty.sort y.ty.fields m'))
                  go_wp2_with fail
                  go_ret
                  rw [HF2.out, Hend.out]
                  exact ⟨rfl, hst'.out, hg'.out⟩
end Go.Proofs.YtcjfgbcdlcdeaaaGreatDoor
