/- Texts joined: IHas, IEnds, ISchema, ISchema2. Conditions: as each theorem names them. -/
import Derived.Test.YtcjfgbcdlcdeaaaDoorK07
import Derived.Test.YtcjfgbcdlcdeaaaDoorK12
import Derived.Test.YtcjfgbcdlcdeaaaDoorK17
/- has, ends and both of the program. -/
namespace Go.Proofs.YtcjfgbcdlcdeaaaDoor
open Go.RowKit
set_option maxRecDepth 100000
set_option linter.unusedVariables false
set_option linter.unusedSimpArgs false
attribute [local go_sem] ba_get ba_toList ba_extract take_drop_all ByteArray.mk_append_mk

/-- What the program's map knows while a schema is read: some block that reads as a map of names. -/
def IMap (w : World) (p : Value) (xs : List PT) : Prop :=
  ∃ b mb, p = .pointer (some ⟨b, 0, none⟩) ∧ b < w.heap.size ∧ w.cell? ⟨b, 1, none⟩ = some (.map (some mb)) ∧ INamed w mb xs
theorem ISc.map {w : World} {p : Value} {xs : List PT} (h : ISc w p xs) : IMap w p xs := by
  obtain ⟨b, A, c, mb, e, h0, h1, h2, h3, h4, _⟩ := h
  exact ⟨b, mb, e, h0, h2, h4⟩
theorem named_look {w : World} {mb : Nat} {xs : List PT} (h : INamed w mb xs) (n : Name) (hn : n.length ≤ 9223372036854775807) :
    (Instr.lookup 83 (.map (some mb)) (.string ⟨n.toArray⟩) false).run Tryd.prog w = .ok (ptrP (findP xs n)) w :=
  FMap.lookup h Tryd.keyStr Tryd.underlying83 (Tryd.zeroPtr w) (keyName hn)
theorem name_short {k : Kd} (h : kdOk k) : k.name.length ≤ 3 := by
  rcases h.2.1 with ⟨_, hn⟩ | ⟨_, hn⟩
  · exact (nameOk_iff.1 hn).2.1
  · rw [hn]; simp

set_option maxHeartbeats 1000000 in
theorem iHas_any (p : Value) (xs : List PT) (k : Kd) (w : World) (h : IMap w p xs) (hk : k.name.length ≤ 100) :
    Calls Tryd.prog 31 #[p, kdV k] w fun e w' => e = .returned (.bool (decide (refOk (ptysOf xs) k))) ∧ Below w.heap.size w w' := by
  obtain ⟨b, mb, rfl, hb, hm, hn⟩ := h
  have Hn := Lib.hid hn
  clear hn
  unfold kdV
  generalize hd : (.cells #[.string ⟨k.signs.toArray⟩, .string ⟨k.base.toArray⟩, .string ⟨k.name.toArray⟩] 32 : Obj) = ob
  have hl0 : w.heap.size < (w.alloc ob).heap.size := by simp
  have x1 : (w.alloc ob).cell? ⟨w.heap.size, 1, none⟩ = some (.string ⟨k.base.toArray⟩) := by rw [← hd]; simp
  have x2 : (w.alloc ob).cell? ⟨w.heap.size, 2, none⟩ = some (.string ⟨k.name.toArray⟩) := by rw [← hd]; simp
  have x3 : (w.alloc ob).cell? ⟨b, 1, none⟩ = some (.map (some mb)) := by rw [World.cell?_alloc_old _ _ _ (show b ≠ w.heap.size by omega)]; exact hm
  have hlook : ∀ q, (Instr.lookup 83 (.map (some mb)) (.string ⟨k.name.toArray⟩) false).run Tryd.prog ((w.alloc ob).drewN q) = .ok (ptrP (findP xs k.name)) ((w.alloc ob).drewN q) := fun q => named_look (FMap.below (Hn.out.alloc _) (below_drewN (Below.refl _ _) q)) k.name (by omega)
  have Hd := Lib.hid hd
  have Hr := Lib.hid (show decide (refOk (ptysOf xs) k) = (decide (k.base ≠ [64]) || (findP xs k.name).isSome) by
    have e : refOk (ptysOf xs) k ↔ (k.base = [64] → (findP xs k.name).isSome = true) := by unfold refOk; rw [findP_ty]; simp
    by_cases h : k.base = [64]
    · cases hf : findP xs k.name with
      | none => rw [decide_eq_false (fun h2 => by have := e.1 h2 h; rw [hf] at this; cases this)]; simp [h]
      | some x => rw [decide_eq_true (e.2 (fun _ => by rw [hf]; rfl))]; simp
    · rw [decide_eq_true (e.2 (fun h2 => absurd h2 h))]; simp [h])
  have Hb := Lib.hid (show Below w.heap.size w (w.alloc ob) from (Below.refl _ _).alloc (Nat.le_refl _) _)
  go_enter Tryd.func31, Tryd.ntmps31
  rcases Decidable.em (k.base = [64]) with h64 | h64
  · have t1 : (k.base != [64]) = false := by simp [h64]
    have H64 := Lib.hid h64
    clear h64 hd hl0
    go_wp2_with fail
    rw [Hd.out]
    cases hf : findP xs k.name with
    | none =>
      rw [hf] at hlook
      have Hf := Lib.hid hf
      clear hf
      unfold ptrP at hlook
      refine wp_region_slots3 [5, 6, 7, 8, 9, 10, 11, 12, 13, 14, 15, 16, 17, 4] (by kernel_rfl) (by kernel_rfl) (by kernel_rfl) (fun u => by dsimp only [frameOf, setMany, List.set, Nat.zero_add, Nat.reduceAdd])
        (fun i v W => match i with | 0 => v = .pointer (some ⟨w.heap.size, 1, none⟩) | 1 => v = .string ⟨k.base.toArray⟩ | 2 => v = .bool false | 3 => v = .bool false | 4 => v = .pointer (some ⟨b, 0, none⟩) | 5 => v = .pointer (some ⟨b, 0, none⟩) | 6 => v = .pointer (some ⟨b, 1, none⟩) | 7 => v = .map (some mb) | 8 => v = .pointer (some ⟨w.heap.size, 2, none⟩) | 9 => v = .string ⟨k.name.toArray⟩ | 10 => v = .pointer none | 11 => v = .bool false | 12 => v = .bool false | 13 => v = .bool false | _ => True) (fun L U W => ∃ q, W = (w.alloc ob).drewN q) (fun _ _ => True) (fun _ _ _ _ _ h => h) ⟨1, rfl⟩ ?_ ?_
      · repeat (first | exact Steps.nil | (refine Steps.cons ?_ ?_; rotate_left))
        all_goals
          rintro L U W hL hpre ⟨q, rfl⟩ hun hdep K hK
          have hlq := hlook q
          clear hun hdep
          first | (simp [Region.binds] at hpre; done) | simp [Region.binds] at hpre | clear hpre
          go_simp
          first | exact hK _ _ _ rfl trivial ⟨q, rfl⟩ rfl | exact hK _ _ _ rfl trivial ⟨q, rfl⟩ (by simp [Act.put, hpre, H64.out]) | exact hK undef _ _ trivial trivial ⟨q, rfl⟩ (by simp [Act.put, hpre, H64.out]) | exact hK _ _ _ trivial trivial ⟨q, rfl⟩ rfl | exact hK _ _ _ trivial trivial ⟨q, rfl⟩ (by simp [Act.put, hpre, H64.out])
      · rintro L U W hL hφ ⟨q, rfl⟩
        have e13 : U 13 = .bool false := hφ 13 (by decide)
        simp only [e13]
        go_wp2_with fail
        go_ret
        exact ⟨ret1 (vbool (by rw [Hr.out, Hf.out]; simp [H64.out])), below_drewN Hb.out _⟩
    | some x =>
      rw [hf] at hlook
      have Hf := Lib.hid hf
      clear hf
      unfold ptrP PT.ptr at hlook
      refine wp_region_slots3 [5, 6, 7, 8, 9, 10, 11, 12, 13, 14, 15, 16, 17, 4] (by kernel_rfl) (by kernel_rfl) (by kernel_rfl) (fun u => by dsimp only [frameOf, setMany, List.set, Nat.zero_add, Nat.reduceAdd])
        (fun i v W => match i with | 0 => v = .pointer (some ⟨w.heap.size, 1, none⟩) | 1 => v = .string ⟨k.base.toArray⟩ | 2 => v = .bool false | 3 => v = .bool false | 4 => v = .pointer (some ⟨b, 0, none⟩) | 5 => v = .pointer (some ⟨b, 0, none⟩) | 6 => v = .pointer (some ⟨b, 1, none⟩) | 7 => v = .map (some mb) | 8 => v = .pointer (some ⟨w.heap.size, 2, none⟩) | 9 => v = .string ⟨k.name.toArray⟩ | 10 => v = .pointer (some ⟨x.blk, 0, none⟩) | 11 => v = .bool true | 12 => v = .bool true | 13 => v = .bool true | _ => True) (fun L U W => ∃ q, W = (w.alloc ob).drewN q) (fun _ _ => True) (fun _ _ _ _ _ h => h) ⟨1, rfl⟩ ?_ ?_
      · repeat (first | exact Steps.nil | (refine Steps.cons ?_ ?_; rotate_left))
        all_goals
          rintro L U W hL hpre ⟨q, rfl⟩ hun hdep K hK
          have hlq := hlook q
          clear hun hdep
          first | (simp [Region.binds] at hpre; done) | simp [Region.binds] at hpre | clear hpre
          go_simp
          first | exact hK _ _ _ rfl trivial ⟨q, rfl⟩ rfl | exact hK _ _ _ rfl trivial ⟨q, rfl⟩ (by simp [Act.put, hpre, H64.out]) | exact hK undef _ _ trivial trivial ⟨q, rfl⟩ (by simp [Act.put, hpre, H64.out]) | exact hK _ _ _ trivial trivial ⟨q, rfl⟩ rfl | exact hK _ _ _ trivial trivial ⟨q, rfl⟩ (by simp [Act.put, hpre, H64.out])
      · rintro L U W hL hφ ⟨q, rfl⟩
        have e13 : U 13 = .bool true := hφ 13 (by decide)
        simp only [e13]
        go_wp2_with fail
        go_ret
        exact ⟨ret1 (vbool (by rw [Hr.out, Hf.out]; simp)), below_drewN Hb.out _⟩
  · have t1 : (k.base != [64]) = true := by simp [h64]
    have H64 := Lib.hid h64
    clear h64 hd hl0
    go_wp2_with fail
    rw [Hd.out]
    refine wp_region_slots3 [5, 6, 7, 8, 9, 10, 11, 12, 13, 14, 15, 16, 17, 4] (by kernel_rfl) (by kernel_rfl) (by kernel_rfl) (fun u => by dsimp only [frameOf, setMany, List.set, Nat.zero_add, Nat.reduceAdd])
      (fun i v W => match i with | 0 => v = .pointer (some ⟨w.heap.size, 1, none⟩) | 1 => v = .string ⟨k.base.toArray⟩ | 2 => v = .bool true | 3 => v = .bool true | 12 => v = .bool true | 13 => v = .bool true | _ => True) (fun L U W => ∃ q, W = (w.alloc ob).drewN q) (fun _ _ => True) (fun _ _ _ _ _ h => h) ⟨1, rfl⟩ ?_ ?_
    · repeat (first | exact Steps.nil | (refine Steps.cons ?_ ?_; rotate_left))
      all_goals
        rintro L U W hL hpre ⟨q, rfl⟩ hun hdep K hK
        have hlq := hlook q
        clear hun hdep
        first | (simp [Region.binds] at hpre; done) | simp [Region.binds] at hpre | clear hpre
        go_simp
        first | exact hK _ _ _ rfl trivial ⟨q, rfl⟩ rfl | exact hK _ _ _ rfl trivial ⟨q, rfl⟩ (by simp [Act.put, hpre, H64.out]) | exact hK undef _ _ trivial trivial ⟨q, rfl⟩ (by simp [Act.put, hpre, H64.out]) | exact hK _ _ _ trivial trivial ⟨q, rfl⟩ rfl | exact hK _ _ _ trivial trivial ⟨q, rfl⟩ (by simp [Act.put, hpre, H64.out])
    · rintro L U W hL hφ ⟨q, rfl⟩
      have e13 : U 13 = .bool true := hφ 13 (by decide)
      simp only [e13]
      go_wp2_with fail
      go_ret
      exact ⟨ret1 (vbool (by rw [Hr.out]; simp [H64.out])), below_drewN Hb.out _⟩
end Go.Proofs.YtcjfgbcdlcdeaaaDoor
/- ends of the program. -/
namespace Go.Proofs.YtcjfgbcdlcdeaaaDoor
open Go.RowKit
set_option maxRecDepth 100000
set_option linter.unusedVariables false
set_option linter.unusedSimpArgs false
attribute [local go_sem] ba_get ba_toList ba_extract take_drop_all ByteArray.mk_append_mk

theorem ends_stop {S : List Ty} {n : Nat} {t : Ty} (h : nextTy S t = none) : endsN S (n + 1) t = true := by rw [endsN, h]
theorem ends_go {S : List Ty} {n : Nat} {t u : Ty} (h : nextTy S t = some u) : endsN S (n + 1) t = endsN S n u := by rw [endsN, h]
theorem next_sort {S : List Ty} {t : Ty} (h : t.sort ≠ 85) : nextTy S t = none := if_neg h
theorem next_kind {S : List Ty} {t : Ty} {f : Fd} {fs : List Fd} (h : t.sort = 85) (hf : t.fields = f :: fs) : nextTy S t = if f.kind.signs = [] ∧ f.kind.base = [64] then findTy S f.kind.name else none := by
  unfold nextTy; rw [if_pos h, hf]
theorem first_field {t : Ty} (h : tyOk t) (hs : t.sort = 85) : ∃ f fs, t.fields = f :: fs ∧ kdOk f.kind := by
  obtain ⟨_, _, h3, _, h5⟩ := h
  cases hf : t.fields with
  | nil => have := h5 hf; rw [hs] at this; exact absurd this (by decide)
  | cons f fs => exact ⟨f, fs, rfl, ((h3.1 f (by rw [hf]; simp)).2.2.2.2 (by rw [hs]; decide)).1⟩

set_option maxHeartbeats 1000000 in
theorem iEnds_any (p : Value) (xs : List PT) (x : PT) (w : World) (h : IMap w p xs) (hT : ∀ y ∈ xs, ITy w y) (hok : ∀ y ∈ xs, tyOk y.ty) (hS : kindsOk (ptysOf xs)) (hx : x ∈ xs) :
    Calls Tryd.prog 45 #[p, x.ptr] w fun e w' => e = .returned (.bool (endsN (ptysOf xs) 9 x.ty)) ∧ Below w.heap.size w w' := by
  have Hmap := Lib.hid h
  obtain ⟨b, mb, rfl, hb, hm, hn⟩ := h
  have HT := Lib.hid hT
  have Hok := Lib.hid hok
  have HS := Lib.hid hS
  have Hx := Lib.hid hx
  have Hn := Lib.hid hn
  have Hm := Lib.hid hm
  clear hT hok hS hx hn hm
  unfold PT.ptr
  go_enter Tryd.func45, Tryd.ntmps45
  go_wp2_with fail
  go_loopw [1, 6] (fun t i wr => ∃ (n : Nat) (y : PT), i = .int .i64 n ∧ n ≤ 9 ∧ t = .pointer (some ⟨y.blk, 0, none⟩) ∧ Hid (y ∈ xs) ∧ Hid (endsN (ptysOf xs) 9 x.ty = endsN (ptysOf xs) (9 - n) y.ty) ∧ Hid (Below w.heap.size w wr)) (fun _ i _ => 9 - (intOf i).toNat)
  case atStart => exact ⟨0, x, rfl, by omega, rfl, Hx.out, rfl, Below.refl _ _⟩
  case round =>
    obtain ⟨n, y, rfl, hn9, rfl, hy, he, hbr⟩ := hrel
    have n1 : (0 : Int) ≤ (n : Int) := by omega
    obtain ⟨hyb, _, y0, y1, y2, y3, A, cA, hyf, hl8, hrow⟩ := (HT.out y hy.out).below hbr.out
    have Hrow := Lib.hid hrow
    have hzw := hbr.out.size
    rw [hyf] at y2
    clear hrow hyf y1 y3
    by_cases hlt : n < 9
    · have n2 : (n : Int) < 9 := by omega
      have he2 := Lib.hid (show endsN (ptysOf xs) 9 x.ty = endsN (ptysOf xs) (8 - n + 1) y.ty by rw [he.out, show 9 - n = 8 - n + 1 by omega])
      by_cases h85 : y.ty.sort = 85
      · have t1 : ((y.ty.sort.toNat : Int) != 85) = false := bne_byte_no (d := 85) h85
        obtain ⟨f, fs, hf, hkd⟩ := first_field (Hok.out y hy.out) h85
        have Hnext := Lib.hid (next_kind (S := ptysOf xs) h85 hf)
        have hpos : 0 < y.ty.fields.length := by rw [hf]; simp
        obtain ⟨bA, oA, rfl, hbA, hrg⟩ := IFds.range Hrow.out hpos
        have hf0 : y.ty.fields[0] = f := by simp [hf]
        rw [hf0, Nat.zero_mul, Nat.add_zero] at hrg
        have Hrg := Lib.hid (show wr.rangeAt bA (oA + 2) [.string ⟨f.kind.signs.toArray⟩, .string ⟨f.kind.base.toArray⟩, .string ⟨f.kind.name.toArray⟩] from rangeAt_part [.int .i64 (f.tag : Int), .string ⟨f.name.toArray⟩] _ [.string ⟨f.given.toArray⟩] hrg)
        have hp1 : (0 : Int) < (y.ty.fields.length : Int) := by omega
        have Href := Lib.hid (HS.out y.ty (List.mem_map_of_mem (f := (·.ty)) hy.out) (by rw [h85]; decide) f (by rw [hf]; simp))
        have Hkd := Lib.hid hkd
        have hnl := name_short hkd
        clear h85 hf hf0 hrg hkd
        have hbb := Lib.hid ((Hm.out))
        by_cases hsg : f.kind.signs = []
        · have s1 : (f.kind.signs != []) = false := by simp [hsg]
          have s2 : f.kind.signs.isEmpty = true := by simp [hsg]
          have s4 : (!f.kind.signs.isEmpty) = false := by simp [hsg]
          by_cases h64 : f.kind.base = [64]
          · have s3 : (f.kind.base == [64]) = true := by simp [h64]
            have s5 : (f.kind.base != [64]) = false := by simp [h64]
            have hsome := Href.out h64
            rw [findP_ty] at hsome
            cases hz : findP xs f.kind.name with
            | none => rw [hz] at hsome; cases hsome
            | some z =>
              have Hz := Lib.hid (show endsN (ptysOf xs) 9 x.ty = endsN (ptysOf xs) (8 - n) z.ty from by
                rw [he2.out]
                exact ends_go (by rw [Hnext.out, if_pos ⟨hsg, h64⟩, findP_ty, hz]; rfl))
              have Hzm := Lib.hid (findP_mem hz).1
              generalize hd : (.cells #[.string ⟨f.kind.signs.toArray⟩, .string ⟨f.kind.base.toArray⟩, .string ⟨f.kind.name.toArray⟩] 32 : Obj) = ob
              have x2 : (wr.alloc ob).cell? ⟨wr.heap.size, 2, none⟩ = some (.string ⟨f.kind.name.toArray⟩) := by rw [← hd]; simp
              have x3 : (wr.alloc ob).cell? ⟨b, 1, none⟩ = some (.map (some mb)) := by
                rw [World.cell?_alloc_old _ _ _ (show b ≠ wr.heap.size by omega)]
                exact (hbr.out.cell (p := ⟨b, 1, none⟩) hb).trans Hm.out
              have hlook : ∀ q, (Instr.lookup 83 (.map (some mb)) (.string ⟨f.kind.name.toArray⟩) false).run Tryd.prog ((wr.alloc ob).drewN q) = .ok (.pointer (some ⟨z.blk, 0, none⟩)) ((wr.alloc ob).drewN q) := fun q => by
                have := named_look (FMap.below (FMap.alloc (FMap.below Hn.out hbr.out) ob) (below_drewN (Below.refl _ _) q)) f.kind.name (by omega)
                rw [hz] at this
                exact this
              have Hbb := Lib.hid (show Below w.heap.size w (wr.alloc ob) from hbr.out.alloc hzw _)
              have Hd := Lib.hid hd
              clear hd hsg h64 hz hsome
              go_wp2_with ((with_reducible refine wpList_load_mid (op := ⟨_, .load 32 _, _, _, _, none⟩) rfl 32 _ rfl bA (oA + 2) ?_ _ _ Hrg.out Tryd.underlying32 ?_ ?_ ?_); rfl; rfl; kernel_rfl)
              rw [Hd.out]
              refine wp_region_slots3 [28, 29, 30, 31, 32, 33, 34, 1] (by kernel_rfl) (by kernel_rfl) (by kernel_rfl) (fun u => by dsimp only [frameOf, setMany, List.set, Nat.zero_add, Nat.reduceAdd])
                (fun i v W => match i with | 0 => v = .pointer (some ⟨b, 0, none⟩) | 1 => v = .pointer (some ⟨b, 0, none⟩) | 2 => v = .pointer (some ⟨b, 1, none⟩) | 3 => v = .map (some mb) | 4 => v = .pointer (some ⟨wr.heap.size, 2, none⟩) | 5 => v = .string ⟨f.kind.name.toArray⟩ | 6 => v = .pointer (some ⟨z.blk, 0, none⟩) | 7 => v = .pointer (some ⟨z.blk, 0, none⟩) | _ => True) (fun L U W => ∃ q, W = (wr.alloc ob).drewN q) (fun _ _ => True) (fun _ _ _ _ _ h => h) ⟨1, rfl⟩ ?_ ?_
              · repeat (first | exact Steps.nil | (refine Steps.cons ?_ ?_; rotate_left))
                all_goals
                  rintro L U W hL hpre ⟨q, rfl⟩ hun hdep K hK
                  have hlq := hlook q
                  clear hun hdep
                  first | (simp [Region.binds] at hpre; done) | simp [Region.binds] at hpre | clear hpre
                  go_simp
                  first | exact hK _ _ _ rfl trivial ⟨q, rfl⟩ rfl | exact hK _ _ _ rfl trivial ⟨q, rfl⟩ (by simp [Act.put, hpre])
              · rintro L U W hL hφ ⟨q, rfl⟩
                have e7 : U 7 = .pointer (some ⟨z.blk, 0, none⟩) := hφ 7 (by decide)
                simp only [e7]
                clear hφ hL hlook x2 x3
                go_wp2_with fail
                go_roundw
                case rel => exact ⟨n + 1, z, by go_num, by omega, rfl, Hzm.out, by show _ = endsN (ptysOf xs) (9 - (n + 1)) z.ty; rw [Hz.out, show 9 - (n + 1) = 8 - n by omega], below_drewN Hbb.out _⟩
                case measure => simp [intOf]; omega
          · have s3 : (f.kind.base == [64]) = false := by simp [h64]
            have s5 : (f.kind.base != [64]) = true := by simp [h64]
            have Hend := Lib.hid (he2.out.trans (ends_stop (by rw [Hnext.out, if_neg (fun h => h64 h.2)])))
            clear hsg h64
            go_wp2_with ((with_reducible refine wpList_load_mid (op := ⟨_, .load 32 _, _, _, _, none⟩) rfl 32 _ rfl bA (oA + 2) ?_ _ _ Hrg.out Tryd.underlying32 ?_ ?_ ?_); rfl; rfl; kernel_rfl)
            go_ret
            exact ⟨ret1 (vbool Hend.out.symm), hbr.out.alloc hzw _⟩
        · have s1 : (f.kind.signs != []) = true := by simp [hsg]
          have s2 : f.kind.signs.isEmpty = false := by simp [hsg]
          have s4 : (!f.kind.signs.isEmpty) = true := by simp [hsg]
          have Hend := Lib.hid (he2.out.trans (ends_stop (by rw [Hnext.out, if_neg (fun h => hsg h.1)])))
          clear hsg
          go_wp2_with ((with_reducible refine wpList_load_mid (op := ⟨_, .load 32 _, _, _, _, none⟩) rfl 32 _ rfl bA (oA + 2) ?_ _ _ Hrg.out Tryd.underlying32 ?_ ?_ ?_); rfl; rfl; kernel_rfl)
          go_ret
          exact ⟨ret1 (vbool Hend.out.symm), hbr.out.alloc hzw _⟩
      · have t1 : ((y.ty.sort.toNat : Int) != 85) = true := bne_byte (d := 85) h85
        have Hend := Lib.hid (he2.out.trans (ends_stop (next_sort h85)))
        clear h85
        go_wp2_with fail
        go_ret
        exact ⟨ret1 (vbool Hend.out.symm), hbr.out⟩
    · obtain rfl : n = 9 := by omega
      have Hend := Lib.hid (show endsN (ptysOf xs) 9 x.ty = false from he.out)
      go_wp2_with fail
      go_ret
      exact ⟨ret1 (vbool Hend.out.symm), hbr.out⟩
end Go.Proofs.YtcjfgbcdlcdeaaaDoor
/- readSchema of the program. -/
namespace Go.Proofs.YtcjfgbcdlcdeaaaDoor
open Go.RowKit
set_option maxRecDepth 100000
set_option linter.unusedVariables false
set_option linter.unusedSimpArgs false
attribute [local go_sem] ba_get ba_toList ba_extract take_drop_all ByteArray.mk_append_mk

/-- A type that stays as it is while one row is written. -/
theorem ITy.kept {w w' : World} {x : PT} {row : Option Nat} (h : ITy w x) (hg : w.grownBy w' row) (h1 : row ≠ some x.blk) (h2 : ∀ k, 0 < x.ty.fields.length → x.fv.ownBlock = some k → row ≠ some k) : ITy w' x := by
  obtain ⟨h0, hk, a0, a1, a2, a3, A, c, e, hl, hr⟩ := h
  have hne : some x.blk ≠ row := fun e => h1 e.symm
  refine ⟨Nat.lt_of_lt_of_le h0 hg.size, hk.grown h0 hg hne, hg.cell a0 hne, hg.cell a1 hne, hg.cell a2 hne, hg.cell a3 hne, A, c, e, hl, hr.1, hr.2.1, fun hn => ?_⟩
  obtain ⟨b, off, eA, hb, hc⟩ := hr.2.2 hn
  have hne2 : some b ≠ row := fun e2 => h2 b (by omega) (by rw [e, eA]; rfl) e2.symm
  exact ⟨b, off, eA, Nat.lt_of_lt_of_le hb hg.size, fun j u hu => hg.cell (hc j u hu) hne2⟩
theorem ITy.fvlt {w : World} {x : PT} (h : ITy w x) {k : Nat} (hn : 0 < x.ty.fields.length) (hk : x.fv.ownBlock = some k) : k < w.heap.size := by
  obtain ⟨_, _, _, _, _, _, A, c, e, _, hr⟩ := h
  obtain ⟨b, off, eA, hb, _⟩ := hr.2.2 (by omega)
  rw [e, eA] at hk
  simp only [Value.ownBlock, Option.some.injEq] at hk
  omega
/-- A type that lies in blocks from lo on. -/
def TyFrom (lo : Nat) (x : PT) : Prop := lo ≤ x.blk ∧ ∀ k, 0 < x.ty.fields.length → x.fv.ownBlock = some k → lo ≤ k
/-- .. that lies beside a row. -/
def TyOff (v : Value) (x : PT) : Prop := v.ownBlock ≠ some x.blk ∧ ∀ k, 0 < x.ty.fields.length → x.fv.ownBlock = some k → v.ownBlock ≠ some k

/-- The types that were read. -/
def ITys (w : World) (lo : Nat) (v : Value) (xs : List PT) : Prop := (∀ x ∈ xs, ITy w x ∧ TyFrom lo x ∧ TyOff v x) ∧ xs.Pairwise fun x y => x.blk ≠ y.blk
theorem ITys.far {w w' : World} {lo b : Nat} {v : Value} {xs : List PT} (h : ITys w lo v xs) (hg : w.grownBy w' (some b)) (hb : b < lo) : ITys w' lo v xs :=
  ⟨fun x hx => by
    obtain ⟨h1, h2, h3⟩ := h.1 x hx
    refine ⟨h1.kept hg (fun e => ?_) (fun k hn hk e => ?_), h2, h3⟩
    · injection e with e; have := h2.1; omega
    · injection e with e; have := h2.2 k hn hk; omega, h.2⟩
theorem ITys.below {w w' : World} {lo : Nat} {v : Value} {xs : List PT} (h : ITys w lo v xs) (hb : Below w.heap.size w w') : ITys w' lo v xs :=
  ⟨fun x hx => ⟨(h.1 x hx).1.below hb, (h.1 x hx).2⟩, h.2⟩
theorem ITys.push {wo w3 w5 : World} {lo base n k1 : Nat} {e : TypeId} {v v5 : Value} {cs : List Value} {xs : List PT} {x : PT} (h : ITys wo lo v xs) (hb : Below wo.heap.size wo w3) (hown : wo.ownsRow base e k1 v n cs) (hx : ITy w3 x) (hxb : wo.heap.size ≤ x.blk)
    (hxf : ∀ k, x.fv.ownBlock = some k → wo.heap.size ≤ k) (hlo : lo ≤ wo.heap.size) (hg : w3.grownBy w5 v.ownBlock) (hwh : v5.ownBlock = v.ownBlock ∨ ∃ k, v5.ownBlock = some k ∧ w3.heap.size ≤ k) : ITys w5 lo v5 (xs ++ [x]) := by
  have hall : ∀ y ∈ xs ++ [x], ITy w3 y ∧ TyFrom lo y ∧ TyOff v y := by
    intro y hy
    rcases List.mem_append.1 hy with hy | hy
    · obtain ⟨h1, h2⟩ := h.1 y hy
      exact ⟨h1.below hb, h2⟩
    · simp at hy; subst hy
      refine ⟨hx, ⟨by omega, fun k _ hk => by have := hxf k hk; omega⟩, fun e => ?_, fun k _ hk e => ?_⟩
      · have := (hown.lt _ e).2; omega
      · have := (hown.lt _ e).2; have := hxf k hk; omega
  refine ⟨fun y hy => ?_, ?_⟩
  · obtain ⟨h1, h2, h3⟩ := hall y hy
    refine ⟨h1.kept hg h3.1 h3.2, h2, ?_⟩
    rcases hwh with hwh | ⟨k, hwh, hk⟩
    · unfold TyOff; rw [hwh]; exact h3
    · refine ⟨fun e => ?_, fun k2 hn hk2 e => ?_⟩
      · rw [hwh] at e; injection e with e; have := h1.1; omega
      · rw [hwh] at e; injection e with e; have := h1.fvlt hn hk2; omega
  · rw [List.pairwise_append]
    refine ⟨h.2, by simp, fun y hy z hz => ?_⟩
    simp at hz; subst hz
    have := (h.1 y hy).1.1
    omega
/-- A schema that lies in blocks from lo on. -/
def ISL (lo : Nat) (w : World) (p : Value) (xs : List PT) : Prop :=
  ∃ b A c mb, p = .pointer (some ⟨b, 0, none⟩) ∧ b < w.heap.size ∧ w.cell? ⟨b, 0, none⟩ = some (.slice A xs.length c) ∧ w.cell? ⟨b, 1, none⟩ = some (.map (some mb)) ∧ RowAt w A xs.length (xs.map (·.ptr)) ∧ INamed w mb xs ∧ (∀ x ∈ xs, ITy w x) ∧ (xs.Pairwise fun x y => x.blk ≠ y.blk) ∧
    lo ≤ b ∧ lo ≤ mb ∧ (∀ g o, 0 < xs.length → A = some ⟨g, o, none⟩ → lo ≤ g) ∧ ∀ x ∈ xs, TyFrom lo x
theorem ISL.isc {lo : Nat} {w : World} {p : Value} {xs : List PT} (h : ISL lo w p xs) : ISc w p xs := by
  obtain ⟨b, A, c, mb, h0, h1, h2, h3, h4, h5, h6, h7, _⟩ := h
  exact ⟨b, A, c, mb, h0, h1, h2, h3, h4, h5, h6, h7⟩
theorem ISL.below {lo : Nat} {w w' : World} {p : Value} {xs : List PT} (h : ISL lo w p xs) (hb : Below w.heap.size w w') : ISL lo w' p xs := by
  obtain ⟨b, A, c, mb, e, h0, h1, h2, h3, h4, h5, h6, h7⟩ := h
  obtain ⟨hc, _, hz⟩ := bcell hb
  exact ⟨b, A, c, mb, e, hz _ h0, (hc _ _ h0).trans h1, (hc _ _ h0).trans h2, h3.below hb, FMap.below h4 hb, fun x hx => (h5 x hx).below hb, h6, h7⟩
theorem ISL.far {lo b0 : Nat} {w w' : World} {p : Value} {xs : List PT} (h : ISL lo w p xs) (hg : w.grownBy w' (some b0)) (hb0 : b0 < lo) : ISL lo w' p xs := by
  obtain ⟨b, A, c, mb, e, h0, h1, h2, h3, h4, h5, h6, l1, l2, l3, l4⟩ := h
  have hne : some b ≠ some b0 := by intro e; injection e with e; omega
  refine ⟨b, A, c, mb, e, Nat.lt_of_lt_of_le h0 hg.size, hg.cell h1 hne, hg.cell h2 hne, ⟨h3.1, h3.2.1, fun hn => ?_⟩, FMap.kept h4 hg (by intro e; injection e with e; omega), fun x hx => (h5 x hx).kept hg (fun e => ?_) (fun k hn hk e => ?_), h6, l1, l2, l3, l4⟩
  · obtain ⟨g, o, eA, hgl, hc⟩ := h3.2.2 hn
    have := l3 g o hn eA
    exact ⟨g, o, eA, Nat.lt_of_lt_of_le hgl hg.size, fun j u hu => hg.cell (hc j u hu) (by intro e; injection e with e; simp at e; omega)⟩
  · injection e with e; have := (l4 x hx).1; omega
  · injection e with e; have := (l4 x hx).2 k hn hk; omega
/-- What reading a schema leaves. -/
def IsPost (o : Option (List Ty)) (w : World) (e : Ending) (w' : World) : Prop :=
  (match o with
    | some S => ∃ p xs, ptysOf xs = S ∧ e = .returned (.tuple #[p, .bool true]) ∧ ISL w.heap.size w' p xs
    | none => ∃ p : Option Addr, e = .returned (.tuple #[.pointer p, .bool false])) ∧ Below w.heap.size w w'
theorem IsPost.no {w w' : World} {e : Ending} {o : Option (List Ty)} (ho : o = none) {p : Option Addr} (he : e = .returned (.tuple #[.pointer p, .bool false])) (hb : Below w.heap.size w w') : IsPost o w e w' := by
  rw [ho]; exact ⟨⟨p, he⟩, hb⟩
theorem IsPost.yes {w w' : World} {e : Ending} {o : Option (List Ty)} {p : Value} {xs : List PT} (ho : o = some (ptysOf xs)) (he : e = .returned (.tuple #[p, .bool true])) (hs : ISL w.heap.size w' p xs) (hb : Below w.heap.size w w') : IsPost o w e w' := by
  rw [ho]; exact ⟨⟨p, xs, rfl, he, hs⟩, hb⟩

theorem namedF_snoc {xs : List PT} {x : PT} (h : findP xs x.ty.name = none) (l : Lit) (hl : WideAt.IsKeyLit l) : (if l.sameKey (.string x.ty.name) = true then x.ptr else namedF xs l) = namedF (xs ++ [x]) l := by
  by_cases e : l = .string x.ty.name
  · subst e
    rw [if_pos (WideAt.sameKey_self hl)]
    unfold findP at h
    show x.ptr = ptrP ((xs ++ [x]).find? fun y => decide (y.ty.name = x.ty.name))
    rw [List.find?_append, h]
    simp [ptrP]
  · rw [if_neg (fun hh => e ((WideAt.sameKey_iff (show WideAt.IsKeyLit (.string x.ty.name) from trivial)).1 hh))]
    cases l with
    | string s =>
      have hne : ¬ x.ty.name = s := fun h2 => e (by rw [h2])
      unfold namedF findP
      simp only
      rw [List.find?_append]
      simp [hne]
    | _ => rfl
theorem findP_none {xs : List PT} {n : Name} : findP xs n = none ↔ (ptysOf xs).any (fun u => decide (u.name = n)) = false := by
  unfold findP ptysOf
  rw [List.find?_eq_none, List.any_map]
  simp
theorem Tryd.infoPt : (Tryd.prog.info? 81).map (fun i => (i.zero, i.size, i.bytes)) = some (some (.pointer none), 1, 8) := by kernel_rfl

set_option maxHeartbeats 1000000 in
theorem iSchema_long (s : List UInt8) (w : World) (hs : s.length ≤ 4000000) (h : 400 < s.length) :
    Calls Tryd.prog 29 #[.string ⟨s.toArray⟩] w (IsPost (schemaL s) w) := by
  have HF := Lib.hid (show schemaL s = none from if_pos h)
  have t1 : (400 : Int) < (s.length : Int) := by omega
  go_enter Tryd.func29, Tryd.ntmps29
  go_wp2_with fail
  go_ret2
  exact IsPost.no HF.out rfl (Below.refl _ _)
end Go.Proofs.YtcjfgbcdlcdeaaaDoor
/- readSchema of the program: the lines. -/
namespace Go.Proofs.YtcjfgbcdlcdeaaaDoor
open Go.RowKit
set_option maxRecDepth 100000
set_option linter.unusedVariables false
set_option linter.unusedSimpArgs false
attribute [local go_sem] ba_get ba_toList ba_extract take_drop_all ByteArray.mk_append_mk

theorem ISc.tys {w : World} {p : Value} {xs : List PT} (h : ISc w p xs) : ∀ x ∈ xs, ITy w x := by
  obtain ⟨_, _, _, _, _, _, _, _, _, _, h, _⟩ := h
  exact h
set_option maxHeartbeats 4000000 in
theorem iSchema_go (s : List UInt8) (w : World) (hs : s.length ≤ 400) :
    Calls Tryd.prog 29 #[.string ⟨s.toArray⟩] w (IsPost (schemaL s) w) := by
  have HF := Lib.hid (show schemaL s = (match linesI (s.length + 1) s [] with | none => none | some S => if kindsOk S ∧ (∀ t ∈ S, endsN S 9 t = true) then some S else none) from if_neg (by omega))
  have t1 : ¬ (400 : Int) < (s.length : Int) := by omega
  have hmm := @run_makeMap Tryd.prog
  go_enter Tryd.func29, Tryd.ntmps29
  go_wp2_with fail
  clear hmm
  have HM0 := Lib.hid (show FMap Tryd.prog 9 (.pointer none) ((w.alloc (.map #[] 0)).alloc (.cells #[.slice none 0 0, .map (some w.heap.size)] 85)) w.heap.size 0 (namedF []) from ((FMap.made w Tryd.prog 9 (.pointer none)).alloc _).of_eq (fun l hl => by cases l <;> rfl))
  have HR0 := Lib.hid (show ((w.alloc (.map #[] 0)).alloc (.cells #[.slice none 0 0, .map (some w.heap.size)] 85)).rangeAt (w.heap.size + 1) 0 [.slice none 0 0, .map (some w.heap.size)] from by
    have := rangeAt_new (w.alloc (.map #[] 0)) [.slice none 0 0, .map (some w.heap.size)] 85
    simpa using this)
  have HK0 := Lib.hid (show ((w.alloc (.map #[] 0)).alloc (.cells #[.slice none 0 0, .map (some w.heap.size)] 85)).there (w.heap.size + 1) 0 2 from by
    have := there_new (w.alloc (.map #[] 0)) [.slice none 0 0, .map (some w.heap.size)] 85
    simpa using this)
  have HB0 := Lib.hid (show Below w.heap.size w ((w.alloc (.map #[] 0)).alloc (.cells #[.slice none 0 0, .map (some w.heap.size)] 85)) from ((Below.refl _ _).alloc (Nat.le_refl _) _).alloc (by simp) _)
  have HO0 := Lib.hid (World.ownsRow_nil ((w.alloc (.map #[] 0)).alloc (.cells #[.slice none 0 0, .map (some w.heap.size)] 85)) (w.heap.size + 2) 81 1)
  go_loopw [0] (fun l wr => ∃ (u : List UInt8) (fuel : Nat) (xs : List PT) (tv : Value), l = .string ⟨u.toArray⟩ ∧ u.length ≤ s.length ∧ u.length < fuel ∧ Hid (linesI (s.length + 1) s [] = linesI fuel u (ptysOf xs)) ∧ xs.length ≤ 8 ∧
      Hid (wr.rangeAt (w.heap.size + 1) 0 [tv, .map (some w.heap.size)]) ∧ Hid (wr.there (w.heap.size + 1) 0 2) ∧ Hid (wr.ownsRow (w.heap.size + 2) 81 1 tv xs.length (xs.map (·.ptr))) ∧
      Hid (INamed wr w.heap.size xs) ∧ Hid (ITys wr (w.heap.size + 2) tv xs) ∧ Hid (Below w.heap.size w wr) ∧ w.heap.size + 2 ≤ wr.heap.size) (fun l _ => strLen l)
  case atStart => exact ⟨s, s.length + 1, [], .slice none 0 0, rfl, Nat.le_refl _, by omega, rfl, by simp, HR0.out, HK0.out, HO0.out, HM0.out, ⟨by simp, List.Pairwise.nil⟩, HB0.out, by simp⟩
  case round =>
    clear HM0 HR0 HK0 HB0 HO0
    obtain ⟨wo, rfl⟩ : ∃ wo : World, wo = wr := ⟨_, rfl⟩
    obtain ⟨u, fuel, xs, tv, rfl, hul, hfu, hlin, hx8, hT, hK, hown, hnm, hty, hbr, hzr⟩ := hrel
    obtain ⟨A, cA, rfl, hrow⟩ := RowAt.own hown.out
    have Hrow := Lib.hid hrow
    have s0 : wo.cell? ⟨w.heap.size + 1, 0, none⟩ = some (.slice A xs.length cA) := by simpa using rangeAt_cell hT.out 0 rfl
    have s1 : wo.cell? ⟨w.heap.size + 1, 1, none⟩ = some (.map (some w.heap.size)) := by simpa using rangeAt_cell hT.out 1 rfl
    obtain ⟨fuel, rfl⟩ : ∃ f, fuel = f + 1 := ⟨fuel - 1, by omega⟩
    clear hrow
    by_cases hu : u = []
    · subst hu
      have Hlin := Lib.hid (show linesI (s.length + 1) s [] = some (ptysOf xs) by rw [hlin.out]; simp [linesI])
      have hgood := linesI_eq.1 Hlin.out
      have Htok := Lib.hid (show ∀ x ∈ xs, tyOk x.ty from fun x hx => hgood.1.1 x.ty (List.mem_map_of_mem (f := (·.ty)) hx))
      have HF2 := Lib.hid (show schemaL s = if kindsOk (ptysOf xs) ∧ (∀ t ∈ ptysOf xs, endsN (ptysOf xs) 9 t = true) then some (ptysOf xs) else none from by rw [HF.out, Hlin.out])
      have HSC := Lib.hid (show ISc wo (.pointer (some ⟨w.heap.size + 1, 0, none⟩)) xs from ⟨w.heap.size + 1, A, cA, w.heap.size, rfl, by omega, s0, s1, by have := Hrow.out; simpa using this, hnm.out, fun x hx => (hty.out.1 x hx).1, hty.out.2⟩)
      have Hrow2 := Lib.hid (show RowAt wo A xs.length (xs.map (·.ptr)) from Hrow.out)
      have HSL := Lib.hid (show ISL w.heap.size wo (.pointer (some ⟨w.heap.size + 1, 0, none⟩)) xs from ⟨w.heap.size + 1, A, cA, w.heap.size, rfl, by omega, s0, s1, Hrow2.out, hnm.out, fun x hx => (hty.out.1 x hx).1, hty.out.2, by omega, Nat.le_refl _, fun g o _ eA => by
        have := (hown.out.lt g (by rw [eA]; rfl)).1
        omega, fun x hx => ⟨by have := (hty.out.1 x hx).2.1.1; omega, fun k hn hk => by have := (hty.out.1 x hx).2.1.2 k hn hk; omega⟩⟩)
      clear hgood hlin hT hK hown hnm hty Hrow HF Hlin
      have S0 := Lib.hid s0
      go_wp2_with fail
      clear s0 s1
      go_loopw [84] (fun i wr => ∃ k : Nat, i = .int .i64 k ∧ k ≤ xs.length ∧ Hid (∀ x ∈ xs.take k, x.ty.sort ≠ 69 → ∀ f ∈ x.ty.fields, refOk (ptysOf xs) f.kind) ∧ Hid (Below wo.heap.size wo wr)) (fun i _ => xs.length - (intOf i).toNat)
      case atStart => exact ⟨0, rfl, Nat.zero_le _, by intro x hx; simp at hx, Below.refl _ _⟩
      case round =>
        obtain ⟨wp, rfl⟩ : ∃ wp : World, wp = wr := ⟨_, rfl⟩
        obtain ⟨k, rfl, hk, hin, hbp⟩ := hrel
        have k1 : (0 : Int) ≤ (k : Int) := by omega
        have hzp := hbp.out.size
        by_cases hkl : k < xs.length
        · have k2 : (k : Int) < (xs.length : Int) := by omega
          obtain ⟨bA, oA, rfl, hbA, cl⟩ := (Hrow2.out.below hbp.out).at_ hkl
          rw [List.getElem_map] at cl
          have Hts := Lib.hid (take_snoc xs k hkl)
          have Hmem := Lib.hid (List.getElem_mem hkl)
          generalize xs[k] = x at cl Hts Hmem
          unfold PT.ptr at cl
          have Hxt := Lib.hid (Htok.out x Hmem.out)
          obtain ⟨hyb, _, y0, y1, y2, y3, A7, c7, hyf, hl8, hrow7⟩ := (HSC.out.tys x Hmem.out).below hbp.out
          rw [hyf] at y2
          have Hrow7 := Lib.hid hrow7
          clear hrow7 hyf y1 y3
          go_wp2_with fail
          go_loopw [93] (fun i wr => ∃ j : Nat, i = .int .i64 j ∧ j ≤ x.ty.fields.length ∧ Hid (x.ty.sort ≠ 69 → ∀ f ∈ x.ty.fields.take j, refOk (ptysOf xs) f.kind) ∧ Hid (Below wp.heap.size wp wr)) (fun i _ => x.ty.fields.length - (intOf i).toNat)
          case atStart => exact ⟨0, rfl, Nat.zero_le _, by intro _ f hf; simp at hf, Below.refl _ _⟩
          case round =>
            obtain ⟨j, rfl, hj, hin2, hbq⟩ := hrel
            have j1 : (0 : Int) ≤ (j : Int) := by omega
            have hzq := hbq.out.size
            have x0 := (hbq.out.cell (p := ⟨x.blk, 0, none⟩) hyb).trans y0
            have hxw : x.blk < wr.heap.size := by omega
            have hxn : ¬ (x.blk = wr.heap.size) := by omega
            have Hbw := Lib.hid (show Below w.heap.size w wr from (hbr.out.trans (hbp.out.mono (by omega))).trans (hbq.out.mono (by omega)))
            have Hbo2 := Lib.hid (show Below wo.heap.size wo wr from hbp.out.trans (hbq.out.mono hzp))
            by_cases hjl : j < x.ty.fields.length
            · have j2 : (j : Int) < (x.ty.fields.length : Int) := by omega
              obtain ⟨b8, o8, rfl, hb8, hrg⟩ := IFds.range (Hrow7.out.below hbq.out) hjl
              have Hts2 := Lib.hid (take_snoc x.ty.fields j hjl)
              have Hfm := Lib.hid (List.getElem_mem hjl)
              have Hrg := Lib.hid (show wr.rangeAt b8 (o8 + j * 6) [.int .i64 (x.ty.fields[j].tag : Int), .string ⟨x.ty.fields[j].name.toArray⟩, .string ⟨x.ty.fields[j].kind.signs.toArray⟩, .string ⟨x.ty.fields[j].kind.base.toArray⟩, .string ⟨x.ty.fields[j].kind.name.toArray⟩, .string ⟨x.ty.fields[j].given.toArray⟩] from hrg)
              clear hrg
              generalize x.ty.fields[j] = f at Hts2 Hfm Hrg
              by_cases h69 : x.ty.sort = 69
              · have t69 : ((x.ty.sort.toNat : Int) != 69) = false := bne_byte_no (d := 69) h69
                have Hin2 := Lib.hid (show x.ty.sort ≠ 69 → ∀ f ∈ x.ty.fields.take (j + 1), refOk (ptysOf xs) f.kind from fun h => absurd h69 h)
                clear h69
                go_wp2_with ((with_reducible refine wpList_load_mid (op := ⟨_, .load 104 _, _, _, _, none⟩) rfl 104 _ rfl b8 (o8 + j * 6) ?_ _ _ Hrg.out Tryd.underlying104 ?_ ?_ ?_); rfl; rfl; kernel_rfl)
                go_roundw
                case rel => exact ⟨j + 1, by go_num, by omega, Hin2.out, hbq.out.alloc hzq _⟩
                case measure => simp [intOf]; omega
              · have t69 : ((x.ty.sort.toNat : Int) != 69) = true := bne_byte (d := 69) h69
                have Hkd := Lib.hid ((Hxt.out.2.2.1.1 f Hfm.out).2.2.2.2 h69).1
                have Hhas := Lib.hid (fun W (h : Below wo.heap.size wo W) => iHas_any _ xs f.kind W (HSC.out.below h).map (Nat.le_trans (name_short Hkd.out) (by decide)))
                unfold kdV at Hhas
                by_cases hrf : refOk (ptysOf xs) f.kind
                · have Hin2 := Lib.hid (show x.ty.sort ≠ 69 → ∀ f ∈ x.ty.fields.take (j + 1), refOk (ptysOf xs) f.kind from fun h g hg => by
                    rw [Hts2.out] at hg
                    rcases List.mem_append.1 hg with hg | hg
                    · exact hin2.out h g hg
                    · simp at hg; subst hg; exact hrf)
                  rw [decide_eq_true hrf] at Hhas
                  clear h69 hrf
                  go_wp2_with ((with_reducible refine wpList_load_mid (op := ⟨_, .load 104 _, _, _, _, none⟩) rfl 104 _ rfl b8 (o8 + j * 6) ?_ _ _ Hrg.out Tryd.underlying104 ?_ ?_ ?_); rfl; rfl; kernel_rfl)
                  refine (Hhas.out _ (Hbo2.out.alloc (by omega) _)).mono ?_
                  rintro e w9 ⟨rfl, hb9⟩
                  have Hb9 := Lib.hid (show Below wp.heap.size wp w9 from (hbq.out.alloc hzq _).trans (hb9.mono (by simp; omega)))
                  clear hb9
                  go_wp2_with fail
                  go_roundw
                  case rel => exact ⟨j + 1, by go_num, by omega, Hin2.out, Hb9.out⟩
                  case measure => simp [intOf]; omega
                · have Hend := Lib.hid (show schemaL s = none by
                    rw [HF2.out, if_neg]
                    rintro ⟨h, _⟩
                    exact hrf (h x.ty (List.mem_map_of_mem (f := (·.ty)) Hmem.out) h69 f Hfm.out))
                  rw [decide_eq_false hrf] at Hhas
                  clear h69 hrf
                  go_wp2_with ((with_reducible refine wpList_load_mid (op := ⟨_, .load 104 _, _, _, _, none⟩) rfl 104 _ rfl b8 (o8 + j * 6) ?_ _ _ Hrg.out Tryd.underlying104 ?_ ?_ ?_); rfl; rfl; kernel_rfl)
                  refine (Hhas.out _ (Hbo2.out.alloc (by omega) _)).mono ?_
                  rintro e w9 ⟨rfl, hb9⟩
                  have Hb9 := Lib.hid (show Below w.heap.size w w9 from (Hbw.out.alloc Hbw.out.size _).trans (hb9.mono (by simp; omega)))
                  clear hb9
                  go_wp2_with fail
                  go_ret2
                  exact IsPost.no Hend.out rfl Hb9.out
            · have j2 : ¬ (j : Int) < (x.ty.fields.length : Int) := by omega
              have Hin3 := Lib.hid (show ∀ y ∈ xs.take (k + 1), y.ty.sort ≠ 69 → ∀ f ∈ y.ty.fields, refOk (ptysOf xs) f.kind from fun y hy => by
                rw [Hts.out] at hy
                rcases List.mem_append.1 hy with hy | hy
                · exact hin.out y hy
                · simp at hy; subst hy
                  intro h f hf
                  exact hin2.out h f (by rw [List.take_of_length_le (by omega)]; exact hf))
              go_wp2_with fail
              go_roundw
              case rel => exact ⟨k + 1, by go_num, by omega, Hin3.out, Hbo2.out⟩
              case measure => simp [intOf]; omega
        · have k2 : ¬ (k : Int) < (xs.length : Int) := by omega
          have Hkinds := Lib.hid (show kindsOk (ptysOf xs) from fun t ht h f hf => by
            obtain ⟨x, hx, rfl⟩ := List.mem_map.1 ht
            exact hin.out x (by rw [List.take_of_length_le (by omega)]; exact hx) h f hf)
          have s9 := (hbp.out.cell (p := ⟨w.heap.size + 1, 0, none⟩) (show w.heap.size + 1 < wo.heap.size by omega)).trans S0.out
          have HSP := Lib.hid (HSC.out.below hbp.out)
          have HrowP := Lib.hid (Hrow2.out.below hbp.out)
          have HbP := Lib.hid (show Below w.heap.size w wp from hbr.out.trans (hbp.out.mono (by omega)))
          go_wp2_with fail
          clear s9
          go_loopw [116] (fun i wr => ∃ m : Nat, i = .int .i64 m ∧ m ≤ xs.length ∧ Hid (∀ x ∈ xs.take m, endsN (ptysOf xs) 9 x.ty = true) ∧ Hid (Below wp.heap.size wp wr)) (fun i _ => xs.length - (intOf i).toNat)
          case atStart => exact ⟨0, rfl, Nat.zero_le _, by intro x hx; simp at hx, Below.refl _ _⟩
          case round =>
            obtain ⟨m, rfl, hm, hin4, hbm⟩ := hrel
            have m1 : (0 : Int) ≤ (m : Int) := by omega
            have HbM := Lib.hid (show Below w.heap.size w wr from HbP.out.trans (hbm.out.mono HbP.out.size))
            by_cases hml : m < xs.length
            · have m2 : (m : Int) < (xs.length : Int) := by omega
              obtain ⟨bA, oA, rfl, hbA, cl⟩ := (HrowP.out.below hbm.out).at_ hml
              rw [List.getElem_map] at cl
              have Hts := Lib.hid (take_snoc xs m hml)
              have Hmem := Lib.hid (List.getElem_mem hml)
              generalize xs[m] = x at cl Hts Hmem
              have Hends := Lib.hid (iEnds_any _ xs x wr (HSP.out.below hbm.out).map (HSP.out.below hbm.out).tys Htok.out Hkinds.out Hmem.out)
              unfold PT.ptr at cl Hends
              cases hee : endsN (ptysOf xs) 9 x.ty with
              | true =>
                rw [hee] at Hends
                have Hin5 := Lib.hid (show ∀ y ∈ xs.take (m + 1), endsN (ptysOf xs) 9 y.ty = true from fun y hy => by
                  rw [Hts.out] at hy
                  rcases List.mem_append.1 hy with hy | hy
                  · exact hin4.out y hy
                  · simp at hy; subst hy; exact hee)
                clear hee
                go_wp2_with fail
                refine Hends.out.mono ?_
                rintro e w9 ⟨rfl, hb9⟩
                have Hb9 := Lib.hid (hbm.out.trans (hb9.mono hbm.out.size))
                clear hb9
                go_wp2_with fail
                go_roundw
                case rel => exact ⟨m + 1, by go_num, by omega, Hin5.out, Hb9.out⟩
                case measure => simp [intOf]; omega
              | false =>
                rw [hee] at Hends
                have Hend := Lib.hid (show schemaL s = none by
                  rw [HF2.out, if_neg]
                  rintro ⟨_, h⟩
                  have := h x.ty (List.mem_map_of_mem (f := (·.ty)) Hmem.out)
                  rw [hee] at this; cases this)
                clear hee
                go_wp2_with fail
                refine Hends.out.mono ?_
                rintro e w9 ⟨rfl, hb9⟩
                have Hb9 := Lib.hid (HbM.out.trans (hb9.mono HbM.out.size))
                clear hb9
                go_wp2_with fail
                go_ret2
                exact IsPost.no Hend.out rfl Hb9.out
            · have m2 : ¬ (m : Int) < (xs.length : Int) := by omega
              have Hfin := Lib.hid (show schemaL s = some (ptysOf xs) by
                rw [HF2.out, if_pos]
                refine ⟨Hkinds.out, fun t ht => ?_⟩
                obtain ⟨x, hx, rfl⟩ := List.mem_map.1 ht
                exact hin4.out x (by rw [List.take_of_length_le (by omega)]; exact hx))
              go_wp2_with fail
              go_ret2
              exact IsPost.yes Hfin.out rfl ((HSL.out.below hbp.out).below hbm.out) HbM.out
    · have hu1 : u.isEmpty = false := by simpa using hu
      have hu2 : (!u.isEmpty) = true := by simpa using hu
      have hu3 : (u == []) = false := by simpa using hu
      have hu4 : (u != []) = true := by simpa using hu
      have Hlin := Lib.hid (show linesI (s.length + 1) s [] = (if (cutL 10 u).2.2 = false ∨ (ptysOf xs).length = 8 then none else match typeI (cutL 10 u).1 with
        | none => none
        | some t => if (ptysOf xs).any (fun v => decide (v.name = t.name)) = true then none else linesI fuel (cutL 10 u).2.1 (ptysOf xs ++ [t])) by rw [hlin.out, linesI, if_neg hu]; rfl)
      have Hcut := Lib.hid (fun W => Cut_any u 10 W (by omega))
      have hcl := cutL_len 10 u
      have hsh : (cutL 10 u).2.2 = true → (cutL 10 u).2.1.length < u.length := fun h => by
        rcases cutL_cases 10 u with ⟨_, e⟩ | ⟨p, t, e1, _, e⟩
        · rw [e] at h; cases h
        · rw [e]; show t.length < u.length; rw [e1]; simp; omega
      have Hsh := Lib.hid hsh
      generalize cutL 10 u = q at *
      obtain ⟨ln, rest, told⟩ := q
      simp only at hcl Hlin Hsh
      have hcl1 := hcl.1
      have hcl2 := hcl.2
      clear hcl hu hlin hsh
      go_wp2_with fail
      refine (Hcut.out _).mono ?_
      rintro e w1 ⟨rfl, k1, rfl⟩
      unfold cutV
      cases told with
      | false =>
        have Hend := Lib.hid (show schemaL s = none by rw [HF.out, Hlin.out]; simp)
        go_wp2_with fail
        go_ret2
        exact IsPost.no Hend.out rfl (below_drewN hbr.out _)
      | true =>
        have hrl := Hsh.out (by simp)
        rcases Nat.eq_or_lt_of_le hx8 with h8 | h8
        · have q1 : ((xs.length : Int) == 8) = true := by simp [h8]
          have Hend := Lib.hid (show schemaL s = none by rw [HF.out, Hlin.out]; simp [ptysOf, h8])
          clear h8
          go_wp2_with fail
          go_ret2
          exact IsPost.no Hend.out rfl (below_drewN hbr.out _)
        · have q1 : ((xs.length : Int) == 8) = false := by rw [beq_eq_false_iff_ne]; omega
          have Hlin2 := Lib.hid (show linesI (s.length + 1) s [] = (match typeI ln with
            | none => none
            | some t => if (ptysOf xs).any (fun v => decide (v.name = t.name)) = true then none else linesI fuel rest (ptysOf xs ++ [t])) by rw [Hlin.out, if_neg (by simp [ptysOf]; omega)])
          have Htype := Lib.hid (fun W => readType_any ln W (by omega))
          have Htok := Lib.hid (fun t (h : typeI ln = some t) => (typeI_some.1 h).1)
          clear Hlin
          generalize typeI ln = ot at Hlin2 Htype Htok
          go_wp2_with fail
          refine (Htype.out _).mono ?_
          rintro e w2 ⟨hcase, hb2⟩
          have hbo : Below wo.heap.size wo w2 := (below_drewN (Below.refl _ _) k1).trans (by simpa using hb2)
          have Hbo := Lib.hid hbo
          cases ot with
          | none =>
            obtain ⟨pp, rfl⟩ := hcase
            have Hend := Lib.hid (show schemaL s = none by rw [HF.out, Hlin2.out])
            go_wp2_with fail
            refine wp_region_slots3 [45, 46, 47, 48, 49, 50, 51, 52, 53, 54, 55, 56, 57, 58] (by kernel_rfl) (by kernel_rfl) (by kernel_rfl) (fun u => by dsimp only [frameOf, setMany, List.set, Nat.zero_add, Nat.reduceAdd])
              (fun i v W => match i with | 0 => v = .bool false | 1 => v = .bool true | 2 => v = .bool true | 13 => v = .bool true | _ => True) (fun L U W => ∃ q, W = (w2).drewN q) (fun _ _ => True) (fun _ _ _ _ _ h => h) ⟨1, rfl⟩ ?_ ?_
            · repeat (first | exact Steps.nil | (refine Steps.cons ?_ ?_; rotate_left))
              all_goals
                rintro L U W hL hpre ⟨q, rfl⟩ hun hdep K hK
                clear hun hdep
                first | (simp [Region.binds] at hpre; done) | simp [Region.binds] at hpre | clear hpre
                go_simp
                first | exact hK _ _ _ rfl trivial ⟨q, rfl⟩ rfl | exact hK _ _ _ rfl trivial ⟨q, rfl⟩ (by simp [Act.put, hpre]) | exact hK undef _ _ trivial trivial ⟨q, rfl⟩ (by simp [Act.put, hpre]) | exact hK _ _ _ trivial trivial ⟨q, rfl⟩ rfl | exact hK _ _ _ trivial trivial ⟨q, rfl⟩ (by simp [Act.put, hpre])
            · rintro L U W hL hφ ⟨q, rfl⟩
              have e13 : U 13 = .bool true := hφ 13 (by decide)
              simp only [e13]
              clear hφ hL
              go_wp2_with fail
              go_ret2
              exact IsPost.no Hend.out rfl (below_drewN (hbr.out.trans (Hbo.out.mono (by omega))) _)
          | some t =>
            obtain ⟨x, hxt, rfl, hxb, hxty, hxf⟩ := hcase
            subst hxt
            have hxb2 : wo.heap.size ≤ x.blk := by simpa using hxb
            have hxz : x.blk < w2.heap.size := hxty.1
            have y1 : w2.cell? ⟨x.blk, 1, none⟩ = some (.string ⟨x.ty.name.toArray⟩) := hxty.2.2.2.1
            have u0 := (hbo.cell (p := ⟨w.heap.size + 1, 0, none⟩) (show w.heap.size + 1 < wo.heap.size by omega)).trans s0
            have u1 := (hbo.cell (p := ⟨w.heap.size + 1, 1, none⟩) (show w.heap.size + 1 < wo.heap.size by omega)).trans s1
            have Hnm2 := Lib.hid (FMap.below hnm.out hbo)
            have Hxty := Lib.hid hxty
            have Hxf := Lib.hid hxf
            have Htk := Lib.hid (Htok.out x.ty rfl)
            have hnl : x.ty.name.length ≤ 3 := (nameOk_iff.1 Htk.out.2.1).2.1
            have hlook : ∀ q, (Instr.lookup 83 (.map (some w.heap.size)) (.string ⟨x.ty.name.toArray⟩) false).run Tryd.prog (w2.drewN q) = .ok (ptrP (findP xs x.ty.name)) (w2.drewN q) := fun q => named_look (FMap.below Hnm2.out (below_drewN (Below.refl _ _) q)) x.ty.name (by omega)
            have hz2 : wo.heap.size ≤ w2.heap.size := hbo.size
            clear hbo s0 s1 hxty hxf
            unfold PT.ptr
            cases hfp : findP xs x.ty.name with
            | some z =>
              have Hend := Lib.hid (show schemaL s = none by
                rw [HF.out, Hlin2.out]
                have : (ptysOf xs).any (fun v => decide (v.name = x.ty.name)) = true := by
                  cases hh : (ptysOf xs).any (fun v => decide (v.name = x.ty.name)) with
                  | true => rfl
                  | false => rw [findP_none.2 hh] at hfp; cases hfp
                simp [this])
              rw [hfp] at hlook
              unfold ptrP PT.ptr at hlook
              clear hfp
              go_wp2_with fail
              refine wp_region_slots3 [45, 46, 47, 48, 49, 50, 51, 52, 53, 54, 55, 56, 57, 58] (by kernel_rfl) (by kernel_rfl) (by kernel_rfl) (fun u => by dsimp only [frameOf, setMany, List.set, Nat.zero_add, Nat.reduceAdd])
                (fun i v W => match i with | 0 => v = .bool true | 1 => v = .bool false | 2 => v = .bool false | 3 => v = .pointer (some ⟨w.heap.size + 1, 0, none⟩) | 4 => v = .pointer (some ⟨w.heap.size + 1, 0, none⟩) | 5 => v = .pointer (some ⟨w.heap.size + 1, 1, none⟩) | 6 => v = .map (some w.heap.size) | 7 => v = .pointer (some ⟨x.blk, 0, none⟩) | 8 => v = .pointer (some ⟨x.blk, 0, none⟩) | 9 => v = .pointer (some ⟨x.blk, 1, none⟩) | 10 => v = .string ⟨x.ty.name.toArray⟩ | 11 => v = .pointer (some ⟨z.blk, 0, none⟩) | 12 => v = .bool true | 13 => v = .bool true | _ => True) (fun L U W => ∃ q, W = (w2).drewN q) (fun _ _ => True) (fun _ _ _ _ _ h => h) ⟨1, rfl⟩ ?_ ?_
              · repeat (first | exact Steps.nil | (refine Steps.cons ?_ ?_; rotate_left))
                all_goals
                  rintro L U W hL hpre ⟨q, rfl⟩ hun hdep K hK
                  have hlq := hlook q
                  clear hun hdep
                  first | (simp [Region.binds] at hpre; done) | simp [Region.binds] at hpre | clear hpre
                  go_simp
                  first | exact hK _ _ _ rfl trivial ⟨q, rfl⟩ rfl | exact hK _ _ _ rfl trivial ⟨q, rfl⟩ (by simp [Act.put, hpre]) | exact hK undef _ _ trivial trivial ⟨q, rfl⟩ (by simp [Act.put, hpre]) | exact hK _ _ _ trivial trivial ⟨q, rfl⟩ rfl | exact hK _ _ _ trivial trivial ⟨q, rfl⟩ (by simp [Act.put, hpre])
              · rintro L U W hL hφ ⟨q, rfl⟩
                have e13 : U 13 = .bool true := hφ 13 (by decide)
                simp only [e13]
                clear hφ hL
                go_wp2_with fail
                go_ret2
                exact IsPost.no Hend.out rfl (below_drewN (hbr.out.trans (Hbo.out.mono (by omega))) _)
            | none =>
              have Hany := Lib.hid (findP_none.1 hfp)
              have Hfp := Lib.hid hfp
              rw [hfp] at hlook
              unfold ptrP at hlook
              clear hfp
              have Hlin3 := Lib.hid (show linesI (s.length + 1) s [] = linesI fuel rest (ptysOf (xs ++ [x])) by
                rw [Hlin2.out]
                show (if _ then _ else _) = _
                rw [if_neg (by rw [Hany.out]; decide)]; simp [ptysOf])
              go_wp2_with fail
              refine wp_region_slots3 [45, 46, 47, 48, 49, 50, 51, 52, 53, 54, 55, 56, 57, 58] (by kernel_rfl) (by kernel_rfl) (by kernel_rfl) (fun u => by dsimp only [frameOf, setMany, List.set, Nat.zero_add, Nat.reduceAdd])
                (fun i v W => match i with | 0 => v = .bool true | 1 => v = .bool false | 2 => v = .bool false | 3 => v = .pointer (some ⟨w.heap.size + 1, 0, none⟩) | 4 => v = .pointer (some ⟨w.heap.size + 1, 0, none⟩) | 5 => v = .pointer (some ⟨w.heap.size + 1, 1, none⟩) | 6 => v = .map (some w.heap.size) | 7 => v = .pointer (some ⟨x.blk, 0, none⟩) | 8 => v = .pointer (some ⟨x.blk, 0, none⟩) | 9 => v = .pointer (some ⟨x.blk, 1, none⟩) | 10 => v = .string ⟨x.ty.name.toArray⟩ | 11 => v = .pointer none | 12 => v = .bool false | 13 => v = .bool false | _ => True) (fun L U W => ∃ q, W = (w2).drewN q) (fun _ _ => True) (fun _ _ _ _ _ h => h) ⟨1, rfl⟩ ?_ ?_
              · repeat (first | exact Steps.nil | (refine Steps.cons ?_ ?_; rotate_left))
                all_goals
                  rintro L U W hL hpre ⟨q, rfl⟩ hun hdep K hK
                  have hlq := hlook q
                  clear hun hdep
                  first | (simp [Region.binds] at hpre; done) | simp [Region.binds] at hpre | clear hpre
                  go_simp
                  first | exact hK _ _ _ rfl trivial ⟨q, rfl⟩ rfl | exact hK _ _ _ rfl trivial ⟨q, rfl⟩ (by simp [Act.put, hpre]) | exact hK undef _ _ trivial trivial ⟨q, rfl⟩ (by simp [Act.put, hpre]) | exact hK _ _ _ trivial trivial ⟨q, rfl⟩ rfl | exact hK _ _ _ trivial trivial ⟨q, rfl⟩ (by simp [Act.put, hpre])
              · rintro L U W hL hφ ⟨q, rfl⟩
                have e13 : U 13 = .bool false := hφ 13 (by decide)
                simp only [e13]
                clear hφ hL
                obtain ⟨w3, hw3⟩ : ∃ w3, w3 = w2.drewN q := ⟨_, rfl⟩
                rw [← hw3]
                have hb3 : Below wo.heap.size wo w3 := by rw [hw3]; exact below_drewN Hbo.out _
                have hb23 : Below w2.heap.size w2 w3 := by rw [hw3]; exact below_drewN (Below.refl _ _) _
                have Hx3 := Lib.hid (Hxty.out.below hb23)
                have hown3 := ownsRow_below hown.out hb3
                have hT3 := rangeAt_below hT.out (show w.heap.size + 1 < wo.heap.size by omega) hb3
                have hK3 := there_below hK.out (show w.heap.size + 1 < wo.heap.size by omega) hb3
                have hz3 : wo.heap.size ≤ w3.heap.size := hb3.size
                have v0 : w3.cell? ⟨w.heap.size + 1, 0, none⟩ = some (.slice A xs.length cA) := by simpa using rangeAt_cell hT3 0 rfl
                have Hb3 := Lib.hid hb3
                have Hown3 := Lib.hid hown3
                have HT3 := Lib.hid hT3
                have HK3 := Lib.hid hK3
                have Hnm3 := Lib.hid (FMap.below Hnm2.out hb23)
                have Hb23 := Lib.hid hb23
                clear hlook hb3 hown3 hT3 hK3 hw3 hb23 u0 u1 y1
                go_wp2_with (at_builtin; refine wpList_app1W _ rfl _ _ 82 rfl (w.heap.size + 2) 81 (.pointer none) 8 Tryd.underlying82 Tryd.infoPt rfl w3 (.pointer (some ⟨x.blk, 0, none⟩)) rfl rfl (.slice A xs.length cA) xs.length (xs.map (·.ptr)) rfl rfl Hown3.out (by unfold maxLen; omega) (by omega) (by omega) ?_; intro v5 w5 hown5 hg5 hwh; have hb5 : Below (w.heap.size + 2) w3 w5 := (Below.refl _ _).grown hg5 (by omega) (fun k hk => (Hown3.out.lt k hk).1); have HT5 := Lib.hid (rangeAt_below HT3.out (show w.heap.size + 1 < w.heap.size + 2 by omega) hb5); have HK5 := Lib.hid (there_below HK3.out (show w.heap.size + 1 < w.heap.size + 2 by omega) hb5); have Hnm5 := Lib.hid (FMap.belowAt Hnm3.out (show w.heap.size < w.heap.size + 2 by omega) hb5); have Hty5 := Lib.hid (ITys.push hty.out Hb3.out hown.out Hx3.out hxb2 (fun k hk => (by have := Hxf.out k hk; simpa using this)) (by omega) hg5 hwh); obtain ⟨A5, n5, c5, e5⟩ := own_slice hown5; subst e5; have Hown5 := Lib.hid hown5; have Hb5 := Lib.hid hb5; have p0 : w5.cell? ⟨w.heap.size + 1, 0, none⟩ = some (.slice A xs.length cA) := (by simpa using rangeAt_cell HT5.out 0 rfl); have f0 : w5.frozen? ⟨w.heap.size + 1, 0, none⟩ = false := (by simpa using (HK5.out 0 (by decide)).2); have hz5 : w3.heap.size ≤ w5.heap.size := hg5.size; clear hown5 hg5 hwh hb5 v0)
                obtain ⟨w6, hw6⟩ : ∃ w6, w6 = w5.setCell ⟨w.heap.size + 1, 0, none⟩ (.slice A5 n5 c5) := ⟨_, rfl⟩
                rw [← hw6]
                have hg6 : w5.grownBy w6 (some (w.heap.size + 1)) := by rw [hw6]; exact grown_set _ _ _
                have hT6 : w6.rangeAt (w.heap.size + 1) 0 [.slice A5 n5 c5, .map (some w.heap.size)] := by rw [hw6]; exact rangeAt_setCells_in [] [.slice A xs.length cA] [.map (some w.heap.size)] [.slice A5 n5 c5] HT5.out rfl
                have hK6 : w6.there (w.heap.size + 1) 0 2 := by rw [hw6]; exact World.there_setCells HK5.out (w.heap.size + 1) 0 [.slice A5 n5 c5]
                have Hown6 := Lib.hid (Hown5.out.kept hg6 (.inr (fun e => by have := (Hown5.out.lt _ e).1; omega)))
                have Hnm6 := Lib.hid (FMap.kept Hnm5.out hg6 (by simp))
                have Hty6 := Lib.hid (Hty5.out.far hg6 (by omega))
                have Hb6 := Lib.hid (show Below w.heap.size w w6 from ((hbr.out.trans (Hb3.out.mono (by omega))).trans (Hb5.out.mono (by omega))).trans (by rw [hw6]; exact (Below.refl _ _).setCell (by simp) _))
                have hz6 : w.heap.size + 2 ≤ w6.heap.size := Nat.le_trans (by omega) hg6.size
                have m1 : w6.cell? ⟨w.heap.size + 1, 1, none⟩ = some (.map (some w.heap.size)) := by simpa using rangeAt_cell hT6 1 rfl
                have n1 : w6.cell? ⟨x.blk, 1, none⟩ = some (.string ⟨x.ty.name.toArray⟩) := (Hty6.out.1 x (by simp)).1.2.2.2.1
                have HT6 := Lib.hid hT6
                have HK6 := Lib.hid hK6
                clear hw6 hg6 hT6 hK6 p0 f0
                refine wp_region_slots3 [69, 70, 71, 72, 73, 74, 75, 76, 77, 999] (by kernel_rfl) (by kernel_rfl) (by kernel_rfl) (fun u => by dsimp only [frameOf, setMany, List.set, Nat.zero_add, Nat.reduceAdd])
                  (fun i v W => match i with | 0 => v = .pointer (some ⟨w.heap.size + 1, 0, none⟩) | 1 => v = .pointer (some ⟨w.heap.size + 1, 0, none⟩) | 2 => v = .pointer (some ⟨w.heap.size + 1, 1, none⟩) | 3 => v = .map (some w.heap.size) | 4 => v = .pointer (some ⟨x.blk, 0, none⟩) | 5 => v = .pointer (some ⟨x.blk, 0, none⟩) | 6 => v = .pointer (some ⟨x.blk, 1, none⟩) | 7 => v = .string ⟨x.ty.name.toArray⟩ | 8 => v = .pointer (some ⟨x.blk, 0, none⟩) | _ => True) (fun L U W => ∃ q, (L 9 = false → W = w6.drewN q) ∧ (L 9 = true → (w6.drewN q).grownBy W (some w.heap.size) ∧ INamed W w.heap.size (xs ++ [x]))) (fun _ _ => True) (fun _ _ _ _ _ h => h) ⟨1, fun _ => rfl, by simp⟩ ?_ ?_
                · repeat (first | exact Steps.nil | (refine Steps.cons ?_ ?_; rotate_left))
                  all_goals
                    rintro L U W hL hpre ⟨q, hq1, hq2⟩ hun hdep K hK
                    have Hdep := Lib.hid hdep
                    have Hq2 := Lib.hid hq2
                    clear hun hdep hq2
                    first | (simp [Region.binds] at hpre; done) | simp [Region.binds] at hpre | clear hpre
                  · obtain rfl := hq1 (Hdep.out 9 _ rfl { on := 3, ground := Ground.data } (by simp) (by rfl) (Hdep.out 3 _ rfl { on := 2, ground := Ground.data } (by simp) (by rfl) (Hdep.out 2 _ rfl { on := 1, ground := Ground.data } (by simp) (by rfl) (Hdep.out 1 _ rfl { on := 0, ground := Ground.data } (by simp) (by rfl) hL))))
                    go_simp
                    first | exact hK _ _ _ rfl trivial ⟨q, fun _ => rfl, Hq2.out⟩ rfl | exact hK _ _ _ rfl trivial ⟨q, fun _ => rfl, Hq2.out⟩ (by simp [Act.put, hpre])
                  · obtain rfl := hq1 (Hdep.out 9 _ rfl { on := 3, ground := Ground.data } (by simp) (by rfl) (Hdep.out 3 _ rfl { on := 2, ground := Ground.data } (by simp) (by rfl) (Hdep.out 2 _ rfl { on := 1, ground := Ground.data } (by simp) (by rfl) hL)))
                    go_simp
                    first | exact hK _ _ _ rfl trivial ⟨q, fun _ => rfl, Hq2.out⟩ rfl | exact hK _ _ _ rfl trivial ⟨q, fun _ => rfl, Hq2.out⟩ (by simp [Act.put, hpre])
                  · obtain rfl := hq1 (Hdep.out 9 _ rfl { on := 3, ground := Ground.data } (by simp) (by rfl) (Hdep.out 3 _ rfl { on := 2, ground := Ground.data } (by simp) (by rfl) hL))
                    go_simp
                    first | exact hK _ _ _ rfl trivial ⟨q, fun _ => rfl, Hq2.out⟩ rfl | exact hK _ _ _ rfl trivial ⟨q, fun _ => rfl, Hq2.out⟩ (by simp [Act.put, hpre])
                  · obtain rfl := hq1 (Hdep.out 9 _ rfl { on := 3, ground := Ground.data } (by simp) (by rfl) hL)
                    go_simp
                    first | exact hK _ _ _ rfl trivial ⟨q, fun _ => rfl, Hq2.out⟩ rfl | exact hK _ _ _ rfl trivial ⟨q, fun _ => rfl, Hq2.out⟩ (by simp [Act.put, hpre])
                  · obtain rfl := hq1 (Hdep.out 9 _ rfl { on := 7, ground := Ground.data } (by simp) (by rfl) (Hdep.out 7 _ rfl { on := 6, ground := Ground.data } (by simp) (by rfl) (Hdep.out 6 _ rfl { on := 5, ground := Ground.data } (by simp) (by rfl) (Hdep.out 5 _ rfl { on := 4, ground := Ground.data } (by simp) (by rfl) hL))))
                    go_simp
                    first | exact hK _ _ _ rfl trivial ⟨q, fun _ => rfl, Hq2.out⟩ rfl | exact hK _ _ _ rfl trivial ⟨q, fun _ => rfl, Hq2.out⟩ (by simp [Act.put, hpre])
                  · obtain rfl := hq1 (Hdep.out 9 _ rfl { on := 7, ground := Ground.data } (by simp) (by rfl) (Hdep.out 7 _ rfl { on := 6, ground := Ground.data } (by simp) (by rfl) (Hdep.out 6 _ rfl { on := 5, ground := Ground.data } (by simp) (by rfl) hL)))
                    go_simp
                    first | exact hK _ _ _ rfl trivial ⟨q, fun _ => rfl, Hq2.out⟩ rfl | exact hK _ _ _ rfl trivial ⟨q, fun _ => rfl, Hq2.out⟩ (by simp [Act.put, hpre])
                  · obtain rfl := hq1 (Hdep.out 9 _ rfl { on := 7, ground := Ground.data } (by simp) (by rfl) (Hdep.out 7 _ rfl { on := 6, ground := Ground.data } (by simp) (by rfl) hL))
                    go_simp
                    first | exact hK _ _ _ rfl trivial ⟨q, fun _ => rfl, Hq2.out⟩ rfl | exact hK _ _ _ rfl trivial ⟨q, fun _ => rfl, Hq2.out⟩ (by simp [Act.put, hpre])
                  · obtain rfl := hq1 (Hdep.out 9 _ rfl { on := 7, ground := Ground.data } (by simp) (by rfl) hL)
                    go_simp
                    first | exact hK _ _ _ rfl trivial ⟨q, fun _ => rfl, Hq2.out⟩ rfl | exact hK _ _ _ rfl trivial ⟨q, fun _ => rfl, Hq2.out⟩ (by simp [Act.put, hpre])
                  · obtain rfl := hq1 (Hdep.out 9 _ rfl { on := 8, ground := Ground.data } (by simp) (by rfl) hL)
                    go_simp
                    first | exact hK _ _ _ rfl trivial ⟨q, fun _ => rfl, Hq2.out⟩ rfl | exact hK _ _ _ rfl trivial ⟨q, fun _ => rfl, Hq2.out⟩ (by simp [Act.put, hpre])
                  · obtain rfl := hq1 hL
                    obtain ⟨w7, hrun, r1, r2⟩ := FMap.store (FMap.below Hnm6.out (below_drewN (Below.refl _ _) q)) Tryd.keyStr Tryd.underlying83 (by unfold maxLen; omega) (.pointer (some ⟨x.blk, 0, none⟩)) (keyName (n := x.ty.name) (by omega))
                    have hn7 : INamed w7 w.heap.size (xs ++ [x]) := by
                      unfold INamed
                      rw [List.length_append]
                      exact r1.of_eq (fun l hl => namedF_snoc Hfp.out l hl)
                    have R2 := Lib.hid r2
                    have Hn7 := Lib.hid hn7
                    clear r1 r2 hn7
                    go_simp
                    exact hK undef _ _ trivial trivial ⟨q, fun h => by simp at h, fun _ => ⟨R2.out, Hn7.out⟩⟩ (by simp [Act.put, hpre])
                · rintro L U W hL hφ ⟨q, _, hq2⟩
                  obtain ⟨hg7, hn7⟩ := hq2 (hL 9 (by decide))
                  have hzq : w6.heap.size ≤ W.heap.size := by have := hg7.size; simpa using this
                  have hb7 : Below w.heap.size w W := (below_drewN Hb6.out q).grown hg7 (by simp; omega) (fun k hk => by injection hk with hk; omega)
                  have HT7 := Lib.hid (rangeAt_grown (rangeAt_below HT6.out (show w.heap.size + 1 < w6.heap.size by omega) (below_drewN (Below.refl _ _) q)) hg7 (by simp))
                  have HK7 := Lib.hid (there_grown (there_below HK6.out (show w.heap.size + 1 < w6.heap.size by omega) (below_drewN (Below.refl _ _) q)) hg7 (by simp; omega) (by simp))
                  have Hown7 := Lib.hid ((ownsRow_below Hown6.out (below_drewN (Below.refl _ _) q)).kept hg7 (.inr (fun e => by have := (Hown6.out.lt _ e).1; omega)))
                  have Hty7 := Lib.hid ((Hty6.out.below (below_drewN (Below.refl _ _) q)).far hg7 (by omega))
                  have Hn7 := Lib.hid hn7
                  have Hb7 := Lib.hid hb7
                  clear hL hφ hq2 hg7 hn7 hb7 m1 n1
                  go_wp2_with fail
                  go_roundw
                  case rel => exact ⟨rest, fuel, xs ++ [x], .slice A5 n5 c5, rfl, by omega, by omega, Hlin3.out, by simp; omega, HT7.out, HK7.out, by rw [List.length_append, List.map_append]; exact Hown7.out, Hn7.out, Hty7.out, Hb7.out, by omega⟩
                  case measure => rw [strLen_mk, strLen_mk]; omega

theorem readSchema_any (s : List UInt8) (w : World) (hs : s.length ≤ 4000000) :
    Calls Tryd.prog 29 #[.string ⟨s.toArray⟩] w (IsPost (schemaL s) w) := by
  by_cases h : 400 < s.length
  · exact iSchema_long s w hs h
  · exact iSchema_go s w (by omega)
end Go.Proofs.YtcjfgbcdlcdeaaaDoor
