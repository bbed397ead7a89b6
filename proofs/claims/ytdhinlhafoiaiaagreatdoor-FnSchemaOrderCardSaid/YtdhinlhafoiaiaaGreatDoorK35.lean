/- Texts joined: IForm2, IForm3. Conditions: as each theorem names them. -/
import Derived.Test.YtdhinlhafoiaiaaGreatDoorK03
import Derived.Test.YtdhinlhafoiaiaaGreatDoorK17
import Derived.Test.YtdhinlhafoiaiaaGreatDoorK34
/- The program's SchemaForm. -/
namespace Go.Proofs.YtdhinlhafoiaiaaGreatDoor
open Go.RowKit
set_option maxRecDepth 100000
set_option linter.unusedVariables false
set_option linter.unusedSimpArgs false
attribute [local go_sem] ba_get ba_toList ba_extract take_drop_all ByteArray.mk_append_mk

theorem Bld.below {B b : Nat} {l : List UInt8} {w w' : World} (h : Bld B b l w) (hb : Below w.heap.size w w') : Bld B b l w' := by
  have key : ∀ p, BldAt B b p (bcells l) w → BldAt B b p (bcells l) w' := by
    rintro p ⟨hB, v, hbk, hown, hne⟩
    have hlt : b < w.heap.size := by
      rcases Nat.lt_or_ge b w.heap.size with h' | h'
      · exact h'
      · simp [Array.getElem?_eq_none h'] at hbk
    exact ⟨hB, v, (hb.block b hlt).trans hbk, ownsRow_below hown hb, hne⟩
  rcases h with h | h
  · exact .inl (key _ h)
  · exact .inr (key _ h)

/-- The map of new names while it is made. -/
def newP (ns : List Name) (m : Nat) (l : Lit) : Value := match l with | .string s => (if s ∈ ns.take m then .string ⟨(newN ns s).toArray⟩ else .string ⟨#[]⟩) | _ => .string ⟨#[]⟩
theorem newP_snoc {ns : List Name} {m : Nat} (h : m < ns.length) (l : Lit) (hl : WideAt.IsKeyLit l) : (if l.sameKey (.string ns[m]) = true then .string ⟨(newN ns ns[m]).toArray⟩ else newP ns m l) = newP ns (m + 1) l := by
  by_cases e : l = .string ns[m]
  · subst e
    rw [if_pos (WideAt.sameKey_self hl)]
    unfold newP
    simp only []
    rw [if_pos (by rw [take_snoc ns m h]; exact List.mem_append.2 (.inr (List.mem_singleton.2 rfl)))]
  · rw [if_neg (fun hh => e ((WideAt.sameKey_iff (show WideAt.IsKeyLit (.string ns[m]) from trivial)).1 hh))]
    cases l with
    | string s =>
      have hne : ¬ s = ns[m] := fun h2 => e (by rw [h2])
      unfold newP
      simp only []
      simp only [take_snoc ns m h, List.mem_append, List.mem_singleton, hne, or_false]
    | _ => rfl
theorem own_cap {w : World} {base k n m c : Nat} {A : Option Addr} {e : TypeId} {zs : List Value} (h : w.ownsRow base e k (.slice A m c) n zs) : n ≤ c := by
  rcases h.2 with ⟨h1, h2⟩ | ⟨g, cap, cur, h1, _, _, hnc, _⟩
  · omega
  · injection h1 with _ _ h3
    omega
theorem tyB_form (ns : List Name) (t : Ty) : tyB (formY ns t) ++ [10] = t.sort :: (newN ns t.name ++ 61 :: (joinL 44 (t.fields.map (fun f => fdB t.sort (formF ns t.sort f))) ++ [10])) := by
  show (t.sort :: (newN ns t.name ++ 61 :: joinL 44 ((t.fields.map (formF ns t.sort)).map (fdB t.sort)))) ++ [10] = _
  rw [List.map_map, List.cons_append, List.append_assoc]
  rfl
theorem newP_end (ns : List Name) : newP ns ns.length = newF ns := by
  funext l
  unfold newP newF
  rw [List.take_length]
  cases l <;> rfl

set_option maxHeartbeats 8000000 in
theorem iForm_any (s d : List UInt8) (w : World) (hs : s.length ≤ 4000000) (hd : d.length ≤ 4000000) :
    Calls Tryz.prog 17 #[.string ⟨s.toArray⟩, .string ⟨d.toArray⟩] w fun e w' => e = .returned (formV (formL (bothL s d))) ∧ Below w.heap.size w w' := by
  have Hk := Lib.hid (fun W => iBoth_any s d W hs hd)
  have Hgood := Lib.hid (fun S k (h : bothL s d = some (S, k)) => bothL_good h)
  generalize bothL s d = o at Hk Hgood
  go_enter Tryz.func17, Tryz.ntmps17
  go_wp2_with fail
  refine (Hk.out _).mono ?_
  rintro e w1 ⟨hcase, hb1⟩
  cases o with
  | none =>
    obtain ⟨p, a, b, c, rfl⟩ := hcase
    go_wp2_with fail
    refine bodyPost_ret (v := .tuple #[.string ⟨#[]⟩, .string ⟨#[]⟩, .bool false]) (by simp [results, Tryz.results17, go_sem]) rfl ?_
    exact ⟨rfl, hb1.alloc hb1.size _⟩
  | some x =>
    obtain ⟨S, k⟩ := x
    obtain ⟨p, xs, hxs, rfl, hsl⟩ := hcase
    simp only at hxs
    subst hxs
    obtain ⟨⟨hlines, hkinds, _⟩, _, _, hkok, hkd, href⟩ := Hgood.out _ k rfl
    have hx8 : xs.length ≤ 8 := by have := hlines.2.1; rwa [ptysOf_len] at this
    have hok : ∀ y ∈ xs, tyOk y.ty := fun y hy => hlines.1 _ (List.mem_map_of_mem hy)
    have Hok := Lib.hid hok
    have hcl0 := metL_closed hkinds (by rw [ptysOf_len]; exact hx8) href
    have Hclk := Lib.hid hcl0.1
    have Hclt := Lib.hid hcl0.2
    have Hsl := Lib.hid hsl
    have Hb1 := Lib.hid hb1
    have Hkok := Lib.hid hkok
    have Hm := Lib.hid (fun W (h : ISc W p xs) => iMet_any p xs k W h hkinds hok hx8 hkok href)
    have Hmets := Lib.hid (metN_mets hkinds 9 k [] href (Mets.nil _)).1
    change Hid (Mets (ptysOf xs) (metL (ptysOf xs) k)) at Hmets
    have hnl : (metL (ptysOf xs) k).length ≤ 8 := Nat.le_trans Hmets.out.len (by rw [ptysOf_len]; exact hx8)
    have HF : Hid (formL (some (ptysOf xs, k)) = if (bothL (scB (formS (ptysOf xs) (metL (ptysOf xs) k))) (kdB (formK (metL (ptysOf xs) k) k))).isSome = true then some (scB (formS (ptysOf xs) (metL (ptysOf xs) k)), kdB (formK (metL (ptysOf xs) k) k)) else none) := rfl
    have hfl := formK_len (metL (ptysOf xs) k) hkok
    clear hlines hkinds hkok href hsl hb1 Hgood Hk hok hcl0
    generalize metL (ptysOf xs) k = ns at *
    unfold kdV at *
    have hmm := @run_makeMap Tryz.prog
    go_wp2_with fail
    refine (Hm.out _ (Hsl.out.isc.below ((Below.refl _ _).alloc (Nat.le_refl _) _))).mono ?_
    rintro e w2 ⟨v, rfl, ⟨A, c, rfl, hrow⟩, hb2⟩
    have K0 := Lib.hid (show w2.rangeAt w1.heap.size 0 [.string ⟨k.signs.toArray⟩, .string ⟨k.base.toArray⟩, .string ⟨k.name.toArray⟩] from rangeAt_below (rangeAt_new w1 [.string ⟨k.signs.toArray⟩, .string ⟨k.base.toArray⟩, .string ⟨k.name.toArray⟩] 70) (by simp) hb2)
    have Hrow := Lib.hid hrow
    have hz12 : w1.heap.size < w2.heap.size := by have := hb2.size; simp at this; omega
    have Hb2 := Lib.hid (((Below.refl w1.heap.size w1).alloc (Nat.le_refl _) _).trans (hb2.mono (by simp)))
    clear hrow hb2
    go_wp2_with fail
    obtain ⟨w3, hw3⟩ : ∃ w3, w3 = w2.alloc (.map #[] 0) := ⟨_, rfl⟩
    rw [← hw3]
    have Hb3 := Lib.hid (show Below w2.heap.size w2 w3 from by rw [hw3]; exact (Below.refl _ _).alloc (Nat.le_refl _) _)
    have Hfm0 := Lib.hid (show FMap Tryz.prog 9 (.string ⟨#[]⟩) w3 w2.heap.size 0 (newP ns 0) from by rw [hw3]; exact (FMap.made w2 _ _ _).of_eq (fun l _ => by cases l <;> simp [newP]))
    have hz3 : w2.heap.size < w3.heap.size := by rw [hw3]; simp
    have Hnd := Lib.hid Hmets.out.1
    clear hw3
    generalize hMB : w2.heap.size = MB at *
    go_loopw [41] (fun i wr => ∃ m : Nat, i = .int .i64 m ∧ m ≤ ns.length ∧ Hid (FMap Tryz.prog 9 (.string ⟨#[]⟩) wr MB m (newP ns m)) ∧ Hid (Below MB w3 wr)) (fun i _ => ns.length - (intOf i).toNat)
    case atStart => exact ⟨0, rfl, Nat.zero_le _, Hfm0.out, Below.refl _ _⟩
    case round =>
      obtain ⟨m, rfl, hm, hfm, hbr⟩ := hrel
      have m1 : (0 : Int) ≤ (m : Int) := by omega
      have hzr : w3.heap.size ≤ wr.heap.size := hbr.out.size
      have Hbm := Lib.hid (show Below MB w2 wr from Hb3.out.trans hbr.out)
      by_cases hlt : m < ns.length
      · have m2 : (m : Int) < (ns.length : Int) := by omega
        have Htys := fun x hx => (Hsl.out.tys x hx).below (Hb2.out.trans (Hbm.out.mono (by omega)))
        obtain ⟨b, off, x, rfl, hb, hc, hxm, hfp, hft, hty⟩ := PtrRow.at_ (Hrow.out.below (by rw [hMB]; exact Hbm.out)) Htys Hmets.out hlt
        obtain ⟨z0, _, z1, z2, z3, z4, A8, c8, hz8, hl8', hrow8⟩ := hty
        unfold PT.ptr at hc
        have hxn : x.ty.name = ns[m] := (findP_mem hfp).2.1
        have Hnp := Lib.hid (fun l hl => newP_snoc hlt l hl)
        have hnew : newN ns ns[m] = [97, byteOf (97 + m)] := by unfold newN; rw [placeN_nodup Hnd.out hlt]
        rw [hnew, ← hxn] at Hnp
        have hnl3 := (nameOk_iff.1 (Hok.out x hxm).2.1).2.1
        have hxl : x.blk < MB := (by have := (Hsl.out.tys x hxm).1; omega)
        have hi : IntKind.i64.wrap (97 + (m : Int)) = 97 + (m : Int) := by first | exact IntWalk.i64_in _ (by omega) | go_num
        have hu : IntKind.u8.wrap (97 + (m : Int)) = ((97 + m : Nat) : Int) := by rw [IntWalk.u8_in _ (by omega)]; omega
        clear hz8 hrow8 hfp hft hnew hxn z1 z3 z4 Htys
        go_wp2_with fail
        refine wp_region_slots3 [46, 47, 48, 49, 50, 51, 52, 53, 54, 55, 56, 999] (by kernel_rfl) (by kernel_rfl) (by kernel_rfl) (fun u => by dsimp only [frameOf, setMany, List.set, Nat.zero_add, Nat.reduceAdd])
          (fun ix v W => match ix with | 0 => v = .map (some MB) | 1 => v = .pointer (some ⟨x.blk, 0, none⟩) | 2 => v = .pointer (some ⟨x.blk, 0, none⟩) | 3 => v = .pointer (some ⟨x.blk, 1, none⟩) | 4 => v = .string ⟨(x.ty.name : List UInt8).toArray⟩ | 5 => v = .int .i64 (m : Int) | 6 => v = .int .i64 (97 + (m : Int)) | 7 => v = .int .u8 ((97 + m : Nat) : Int) | 8 => ∃ g, v = .slice (some ⟨g, 0, none⟩) 1 1 | 9 => v = .string ⟨([byteOf (97 + m)] : List UInt8).toArray⟩ | 10 => v = .string ⟨([97, byteOf (97 + m)] : List UInt8).toArray⟩ | _ => True)
          (fun L U W => Below MB wr W ∧ wr.heap.size ≤ W.heap.size ∧ (L 8 = true → ∃ g, U 8 = .slice (some ⟨g, 0, none⟩) 1 1 ∧ MB < g ∧ g < W.heap.size ∧ W.cell? ⟨g, 0, none⟩ = some (.int .u8 ((97 + m : Nat) : Int))) ∧ (L 11 = false → FMap Tryz.prog 9 (.string ⟨#[]⟩) W MB m (newP ns m)) ∧ (L 11 = true → FMap Tryz.prog 9 (.string ⟨#[]⟩) W MB (m + 1) (newP ns (m + 1)))) (fun _ _ => True) (fun _ _ _ _ _ h => h) (⟨(Below.refl _ _).drew, by simp, fun h => Bool.noConfusion h, fun _ => hfm.out.drew, fun h => Bool.noConfusion h⟩) ?_ ?_
        · repeat (first | exact Steps.nil | (refine Steps.cons ?_ ?_; rotate_left))
          all_goals
            rintro L U W hL hpre hR hun hdep K hK
            have HR := Lib.hid hR
            obtain ⟨R1, R2, R3, R4, R5⟩ := HR.out
            have a1 : W.cell? ⟨x.blk, 1, none⟩ = some (.string ⟨x.ty.name.toArray⟩) := (R1.cell (p := ⟨x.blk, 1, none⟩) hxl).trans z2
            clear hun hdep hR
            first | (simp [Region.binds] at hpre; done) | simp [Region.binds] at hpre | clear hpre
          iterate 6
            · go_simp
              first | exact hK _ _ _ rfl trivial HR.out rfl | exact hK _ _ _ rfl trivial HR.out (by simp [Act.put, hpre]) | exact hK undef _ _ trivial trivial HR.out (by simp [Act.put, hpre]) | exact hK _ _ _ trivial trivial HR.out rfl | exact hK _ _ _ trivial trivial HR.out (by simp [Act.put, hpre])
          · go_simp
            exact hK (.int .i64 (97 + (m : Int))) _ _ rfl trivial HR.out (by simp [Act.put, hpre, hi])
          · go_simp
            exact hK (.int .u8 ((97 + m : Nat) : Int)) _ _ rfl trivial HR.out (by simp [Act.put, hpre, hu])
          · go_simp
            refine hK _ _ _ ⟨_, rfl⟩ trivial ⟨R1.alloc (by omega) _, by simp; omega, fun _ => ⟨W.heap.size, rfl, by omega, by simp, by simp⟩, fun h => (R4 (by simpa using h)).alloc _, fun h => (R5 (by simpa using h)).alloc _⟩ (by simp [Act.put, hpre])
          · have l8 : L 8 = true := by first | exact hpre.1 | exact hpre.2.1
            obtain ⟨g, u8', hg0, hg, hc⟩ := R3 l8
            have hcv := Tryz.conv1 W g 1 (byteOf (97 + m)) (by rw [byteOf_toNat (by omega)]; exact hc)
            go_simp
            exact hK _ _ _ rfl trivial HR.out (by simp [Act.put, hpre, u8'])
          · go_simp
            first | exact hK _ _ _ rfl trivial HR.out rfl | exact hK _ _ _ rfl trivial HR.out (by simp [Act.put, hpre]) | exact hK undef _ _ trivial trivial HR.out (by simp [Act.put, hpre]) | exact hK _ _ _ trivial trivial HR.out rfl | exact hK _ _ _ trivial trivial HR.out (by simp [Act.put, hpre])
          · have h11 : L 11 = false := hL
            obtain ⟨w7, hrun, r1, r2⟩ := FMap.store (R4 h11) Tryz.keyStr Tryz.underlying89 (by unfold maxLen; omega) (.string ⟨([97, byteOf (97 + m)] : List UInt8).toArray⟩) (keyName (n := x.ty.name) (by omega))
            have hf7 : FMap Tryz.prog 9 (.string ⟨#[]⟩) w7 MB (m + 1) (newP ns (m + 1)) := r1.of_eq (fun l hl => Hnp.out l hl)
            have Hf7 := Lib.hid hf7
            have Hg7 := Lib.hid r2
            clear r1 r2 hf7
            have hz7 := Hg7.out.size
            go_simp
            exact hK undef _ _ trivial trivial ⟨R1.grown Hg7.out (by omega) (fun k hk => by injection hk with hk; omega), by omega, fun h => by obtain ⟨g, q1, q2, q3, q4⟩ := R3 (by simpa using h); exact ⟨g, q1, q2, by omega, (Hg7.out.cell_far ⟨g, 0, none⟩ q3 (by simp; omega)).trans q4⟩, fun h => by simp at h, fun _ => Hf7.out⟩ (by simp [Act.put, hpre])
        · rintro L U W hL hφ hR
          clear hφ
          obtain ⟨r1, r2, _, _, r5⟩ := hR
          have r5 := r5 (hL 11 (by decide))
          clear hL
          go_wp2_with fail
          go_roundw
          case rel => exact ⟨m + 1, by go_num, by omega, r5, hbr.out.trans r1⟩
          case measure => simp [intOf]; omega
      · obtain rfl : m = ns.length := by omega
        have Hnew := Lib.hid (show INew wr MB ns from by have := hfm.out; rw [newP_end] at this; exact this)
        have hz4 : MB < wr.heap.size := by omega
        have Hb4 := Lib.hid Hbm.out
        clear hfm hm hbr Hbm hzr m1
        go_wp2_with fail
        obtain ⟨w5, hw5⟩ : ∃ w5, w5 = wr.alloc (.cells #[.pointer none, .slice none 0 0] 92) := ⟨_, rfl⟩
        rw [← hw5]
        have HB5 := Lib.hid (show Bld wr.heap.size wr.heap.size [] w5 from by rw [hw5]; exact Bld_new wr)
        have Hb5 := Lib.hid (show Below wr.heap.size wr w5 from by rw [hw5]; exact (Below.refl _ _).alloc (Nat.le_refl _) _)
        have hz5 : wr.heap.size < w5.heap.size := by rw [hw5]; simp
        clear hw5
        generalize hB14 : wr.heap.size = B14 at *
        obtain ⟨w4, rfl⟩ : ∃ w4 : World, w4 = wr := ⟨_, rfl⟩
        go_loopw [60] (fun i wr => ∃ m : Nat, i = .int .i64 m ∧ m ≤ ns.length ∧ Hid (Bld B14 B14 (scB ((ns.take m).filterMap fun n => (findTy (ptysOf xs) n).map (formY ns))) wr) ∧ Hid ((scB ((ns.take m).filterMap fun n => (findTy (ptysOf xs) n).map (formY ns))).length ≤ m * 4000) ∧ Hid (Below B14 w5 wr)) (fun i _ => ns.length - (intOf i).toNat)
        case atStart => exact ⟨0, rfl, Nat.zero_le _, HB5.out, by simp [Hid, scB], Below.refl _ _⟩
        case round =>
          obtain ⟨m, rfl, hm, hbl, hlen, hbr⟩ := hrel
          have m1 : (0 : Int) ≤ (m : Int) := by omega
          have hzr : w5.heap.size ≤ wr.heap.size := hbr.out.size
          have Hbm := Lib.hid (show Below MB w2 wr from Hb4.out.trans ((Hb5.out.trans hbr.out).mono (by omega)))
          by_cases hlt : m < ns.length
          · have m2 : (m : Int) < (ns.length : Int) := by omega
            have Htys := fun x hx => (Hsl.out.tys x hx).below (Hb2.out.trans (Hbm.out.mono (by omega)))
            obtain ⟨b, off, x, rfl, hb, hc, hxm, hfp, hft, hty⟩ := PtrRow.at_ (Hrow.out.below (by rw [hMB]; exact Hbm.out)) Htys Hmets.out hlt
            obtain ⟨z0, _, z1, z2, z3, z4, A8, c8, hz8, hl8', hrow8⟩ := hty
            rw [hz8] at z3
            unfold PT.ptr at hc
            have hxn : x.ty.name = ns[m] := (findP_mem hfp).2.1
            have Hto := Lib.hid (Hok.out x hxm)
            have hf8 : x.ty.fields.length ≤ 8 := Hto.out.2.2.2.1
            have Hct := Lib.hid (Hclt.out ns[m] (List.getElem_mem hlt) x.ty hft)
            have Hsn := Lib.hid (show (ns.take (m + 1)).filterMap (fun n => (findTy (ptysOf xs) n).map (formY ns)) = (ns.take m).filterMap (fun n => (findTy (ptysOf xs) n).map (formY ns)) ++ [formY ns x.ty] from by rw [take_snoc ns m hlt]; exact formS_snoc hft)
            have Hmem := Lib.hid (show x.ty.name ∈ ns from by rw [hxn]; exact List.getElem_mem hlt)
            have Hrow8 := Lib.hid hrow8
            have hxl : x.blk < MB := (by have := (Hsl.out.tys x hxm).1; omega)
            have hcl := x.ty.sort.toNat_lt
            have Z0 := Lib.hid z1
            have Z1 := Lib.hid z2
            generalize (ns.take m).filterMap (fun n => (findTy (ptysOf xs) n).map (formY ns)) = acc at *
            clear hrow8 hz8 hfp hft hxn z4 Htys
            go_wp2_with fail
            obtain ⟨wB, rfl⟩ : ∃ wB : World, wB = wr := ⟨_, rfl⟩
            clear hc z1 z2 z3
            have HO0 := Lib.hid (World.ownsRow_nil wB wB.heap.size 9 1)
            go_loopw [69, 17] (fun i lv wr => ∃ j : Nat, i = .int .i64 j ∧ j ≤ x.ty.fields.length ∧ Hid (wr.ownsRow wB.heap.size 9 1 lv j (scells ((x.ty.fields.take j).map (fun f => fdB x.ty.sort (formF ns x.ty.sort f))))) ∧ Hid (Below wB.heap.size wB wr)) (fun i _ _ => x.ty.fields.length - (intOf i).toNat)
            case atStart => exact ⟨0, rfl, Nat.zero_le _, HO0.out, Below.refl _ _⟩
            case round =>
              obtain ⟨j, rfl, hj, hown, hbi⟩ := hrel
              have j1 : (0 : Int) ≤ (j : Int) := by omega
              have hzi : wB.heap.size ≤ wr.heap.size := hbi.out.size
              obtain ⟨A3, n3, c3, hlv⟩ := own_slice hown.out
              subst hlv
              by_cases hjl : j < x.ty.fields.length
              · have j2 : (j : Int) < (x.ty.fields.length : Int) := by omega
                obtain ⟨b8, o8, rfl, hb8, hrg⟩ := IFds.range (Hrow8.out.below hbi.out) hjl
                have Hfs := Lib.hid (take_snoc x.ty.fields j hjl)
                have Hgm := Lib.hid (List.getElem_mem hjl)
                have Hrg := Lib.hid (show wr.rangeAt b8 (o8 + j * 6) [.int .i64 (x.ty.fields[j].tag : Int), .string ⟨x.ty.fields[j].name.toArray⟩, .string ⟨x.ty.fields[j].kind.signs.toArray⟩, .string ⟨x.ty.fields[j].kind.base.toArray⟩, .string ⟨x.ty.fields[j].kind.name.toArray⟩, .string ⟨x.ty.fields[j].given.toArray⟩] from hrg)
                clear hrg
                generalize x.ty.fields[j] = g at Hfs Hgm Hrg
                go_wp2_with ((with_reducible refine wpList_load_mid (op := ⟨_, .load 94 _, _, _, _, none⟩) rfl 94 _ rfl b8 (o8 + j * 6) ?_ _ _ Hrg.out Tryz.underlying94 ?_ ?_ ?_); rfl; rfl; kernel_rfl)
                obtain ⟨W5, hW5⟩ : ∃ W5, W5 = wr.alloc (.cells #[.int .i64 (g.tag : Int), .string ⟨g.name.toArray⟩, .string ⟨g.kind.signs.toArray⟩, .string ⟨g.kind.base.toArray⟩, .string ⟨g.kind.name.toArray⟩, .string ⟨g.given.toArray⟩] 94) := ⟨_, rfl⟩
                rw [← hW5]
                have hb5 : Below wr.heap.size wr W5 := by rw [hW5]; exact (Below.refl _ _).alloc (Nat.le_refl _) _
                have X5 := Lib.hid (show W5.rangeAt wr.heap.size 0 [.int .i64 (g.tag : Int), .string ⟨g.name.toArray⟩, .string ⟨g.kind.signs.toArray⟩, .string ⟨g.kind.base.toArray⟩, .string ⟨g.kind.name.toArray⟩, .string ⟨g.given.toArray⟩] from by rw [hW5]; exact rangeAt_new wr [.int .i64 (g.tag : Int), .string ⟨g.name.toArray⟩, .string ⟨g.kind.signs.toArray⟩, .string ⟨g.kind.base.toArray⟩, .string ⟨g.kind.name.toArray⟩, .string ⟨g.given.toArray⟩] _)
                have F0 := Lib.hid (show W5.cell? ⟨wr.heap.size, 0, none⟩ = some (.int .i64 (g.tag : Int)) from by simpa using rangeAt_cell X5.out 0 rfl)
                have F1 := Lib.hid (show W5.cell? ⟨wr.heap.size, 1, none⟩ = some (.string ⟨g.name.toArray⟩) from by simpa using rangeAt_cell X5.out 1 rfl)
                have L5 := Lib.hid (show wr.heap.size < W5.heap.size from by rw [hW5]; simp)
                have Hbi5 := Lib.hid (hbi.out.trans (hb5.mono hzi))
                have Hown5 := Lib.hid (ownsRow_below hown.out hb5)
                have Hfo := Lib.hid (Hto.out.2.2.1.1 g Hgm.out)
                have Hd := Lib.hid (fun W => decimal_any g.tag g.tag W (Nat.le_refl _) (by have := Hfo.out.2.1; omega))
                have hdl := decB_len 2 g.tag (by have := Hfo.out.2.1; have e : 10 ^ (2 + 1) = 1000 := rfl; omega)
                have hgn := (nameOk_iff.1 Hfo.out.2.2.1).2.1
                have hgg := given_len Hfo.out
                generalize wr.heap.size = BF at *
                clear hW5 hb5 Hrg
                refine wp_region_slots3 [73, 74, 75, 76, 77, 78, 79, 20] (by kernel_rfl) (by kernel_rfl) (by kernel_rfl) (fun u => by dsimp only [frameOf, setMany, List.set, Nat.zero_add, Nat.reduceAdd])
                  (fun ix v W => match ix with | 0 => v = .pointer (some ⟨BF, 0, none⟩) | 1 => v = .int .i64 (g.tag : Int) | 2 => v = .string ⟨(decB g.tag : List UInt8).toArray⟩ | 3 => v = .string ⟨(decB g.tag ++ [58] : List UInt8).toArray⟩ | 4 => v = .pointer (some ⟨BF, 1, none⟩) | 5 => v = .string ⟨(g.name : List UInt8).toArray⟩ | 6 => v = .string ⟨(decB g.tag ++ 58 :: g.name : List UInt8).toArray⟩ | 7 => v = .string ⟨(decB g.tag ++ 58 :: g.name : List UInt8).toArray⟩ | _ => True)
                  (fun L U W => Below W5.heap.size W5 W) (fun _ _ => True) (fun _ _ _ _ _ h => h) ((Below.refl _ _).drew) ?_ ?_
                · repeat (first | exact Steps.nil | (refine Steps.cons ?_ ?_; rotate_left))
                  all_goals
                    rintro L U W hL hpre hR hun hdep K hK
                    have HR := Lib.hid hR
                    have hB := HR.out
                    have a0 : W.cell? ⟨BF, 0, none⟩ = some (.int .i64 (g.tag : Int)) := (hB.cell (p := ⟨BF, 0, none⟩) L5.out).trans F0.out
                    have a1 : W.cell? ⟨BF, 1, none⟩ = some (.string ⟨g.name.toArray⟩) := (hB.cell (p := ⟨BF, 1, none⟩) L5.out).trans F1.out
                    clear hun hdep hR
                    first | (simp [Region.binds] at hpre; done) | simp [Region.binds] at hpre | clear hpre
                  iterate 2
                    · go_simp
                      first | exact hK _ _ _ rfl trivial HR.out rfl | exact hK _ _ _ rfl trivial HR.out (by simp [Act.put, hpre]) | exact hK undef _ _ trivial trivial HR.out (by simp [Act.put, hpre]) | exact hK _ _ _ trivial trivial HR.out rfl | exact hK _ _ _ trivial trivial HR.out (by simp [Act.put, hpre])
                  · go_simp
                    refine (Hd.out W).mono ?_
                    rintro e w5 ⟨rfl, hb5⟩
                    exact hK _ _ _ rfl trivial (hB.trans (hb5.mono hB.size)) (by simp [Act.put, hpre])
                  · go_simp
                    rw [if_neg (by first | omega | (simp; omega))]
                    go_simp
                    first | exact hK _ _ _ rfl trivial HR.out rfl | exact hK _ _ _ rfl trivial HR.out (by simp [Act.put, hpre])
                  iterate 2
                    · go_simp
                      first | exact hK _ _ _ rfl trivial HR.out rfl | exact hK _ _ _ rfl trivial HR.out (by simp [Act.put, hpre]) | exact hK undef _ _ trivial trivial HR.out (by simp [Act.put, hpre]) | exact hK _ _ _ trivial trivial HR.out rfl | exact hK _ _ _ trivial trivial HR.out (by simp [Act.put, hpre])
                  · go_simp
                    rw [if_neg (by first | omega | (simp; omega))]
                    go_simp
                    first | exact hK _ _ _ rfl trivial HR.out rfl | exact hK _ _ _ rfl trivial HR.out (by simp [Act.put, hpre])
                  · go_simp
                    first | exact hK _ _ _ rfl trivial HR.out rfl | exact hK _ _ _ rfl trivial HR.out (by simp [Act.put, hpre]) | exact hK undef _ _ trivial trivial HR.out (by simp [Act.put, hpre]) | exact hK _ _ _ trivial trivial HR.out rfl | exact hK _ _ _ trivial trivial HR.out (by simp [Act.put, hpre])
                · rintro L U W hL hφ hR
                  have e7 : U 7 = .string ⟨(decB g.tag ++ 58 :: g.name : List UInt8).toArray⟩ := hφ 7 (by decide)
                  simp only [e7]
                  clear hφ
                  have Hb6 := Lib.hid (Hbi5.out.trans (hR.mono (by have := L5.out; omega)))
                  have Hown6 := Lib.hid (ownsRow_below Hown5.out hR)
                  have z1 : W.cell? ⟨x.blk, 0, none⟩ = some (.int .u8 (x.ty.sort.toNat : Int)) := (Hb6.out.cell (p := ⟨x.blk, 0, none⟩) (show x.blk < _ by omega)).trans Z0.out
                  have X6 := Lib.hid (rangeAt_below X5.out L5.out hR)
                  have f2 : W.cell? ⟨BF, 2, none⟩ = some (.string ⟨g.kind.signs.toArray⟩) := by simpa using rangeAt_cell X6.out 2 rfl
                  have f3 : W.cell? ⟨BF, 3, none⟩ = some (.string ⟨g.kind.base.toArray⟩) := by simpa using rangeAt_cell X6.out 3 rfl
                  have f4 : W.cell? ⟨BF, 4, none⟩ = some (.string ⟨g.kind.name.toArray⟩) := by simpa using rangeAt_cell X6.out 4 rfl
                  have f5 : W.cell? ⟨BF, 5, none⟩ = some (.string ⟨g.given.toArray⟩) := by simpa using rangeAt_cell X6.out 5 rfl
                  have hzw : wB.heap.size ≤ W.heap.size := Hb6.out.size
                  have LF : BF < W.heap.size := by have := L5.out; have := hR.size; omega
                  clear hL hR
                  by_cases h69 : x.ty.sort = 69
                  · have t69 : ((x.ty.sort.toNat : Int) != 69) = false := by have := byte_eq (d := 69) h69; simpa using this
                    have hgv : g.given = [] := (Hfo.out.2.2.2.1 h69).2
                    rw [hgv] at f5
                    have Hrest2 := Lib.hid (show fdB x.ty.sort (formF ns x.ty.sort g) = decB g.tag ++ 58 :: g.name from by unfold fdB tailB formF; rw [if_pos h69, if_pos h69]; simp)
                    clear h69 hgv
                    go_wp2_with (at_builtin; refine wpList_app1W _ rfl _ _ 58 rfl wB.heap.size 9 (.string ⟨#[]⟩) 16 Tryz.underlying58 Tryz.infoStr rfl W (.string ⟨(decB g.tag ++ 58 :: g.name : List UInt8).toArray⟩) rfl rfl (.slice A3 n3 c3) j (scells ((x.ty.fields.take j).map (fun f => fdB x.ty.sort (formF ns x.ty.sort f)))) rfl rfl Hown6.out (by unfold maxLen; omega) (by omega) (by omega) ?_; intro v7 w9 hown9 hg9 _; have Hown9 := Lib.hid hown9; have Hg9 := Lib.hid hg9; clear hown9 hg9)
                    go_roundw
                    case rel =>
                      refine ⟨j + 1, by go_num, by omega, ?_, Hb6.out.grown Hg9.out (by omega) (fun j hj => (Hown6.out.lt j hj).1)⟩
                      rw [Hfs.out, List.map_append, List.map_singleton, scells_snoc, Hrest2.out]
                      exact Hown9.out
                    case measure => simp [intOf]; omega
                  · have t69 : ((x.ty.sort.toNat : Int) != 69) = true := by have := byte_ne (d := 69) h69; simpa using this
                    have Hkd := Lib.hid (Hfo.out.2.2.2.2 h69).1
                    have hkl := formK_len ns Hkd.out
                    have Han := Lib.hid (iAnew_any ns MB g.kind W (FMap.belowAt Hnew.out hz4 ((Hb5.out.trans hbr.out).trans (Hb6.out.mono (by omega)))) Hkd.out (Hct.out h69 g Hgm.out))
                    have Htx := Lib.hid (fun W => iText_any (formK ns g.kind) W hkl)
                    have hff : fdB x.ty.sort (formF ns x.ty.sort g) = decB g.tag ++ 58 :: (g.name ++ 58 :: (kdB (formK ns g.kind) ++ if g.given = [] then [] else 61 :: g.given)) := by unfold fdB tailB formF; rw [if_neg h69, if_neg h69]
                    clear h69
                    go_wp2_with fail
                    refine Han.out.mono ?_
                    rintro e w7 ⟨rfl, hb7⟩
                    have Hb7 := Lib.hid hb7
                    clear hb7 f2 f3 f4 f5 z1
                    go_wp2_with fail
                    refine (Htx.out _).mono ?_
                    rintro e w8 ⟨rfl, hb8⟩
                    have hbw8 := Hb7.out.trans (hb8.mono Hb7.out.size)
                    have Hb8 := Lib.hid (Hb6.out.trans (hbw8.mono hzw))
                    have Hown8 := Lib.hid (ownsRow_below Hown6.out hbw8)
                    have f5 : w8.cell? ⟨BF, 5, none⟩ = some (.string ⟨g.given.toArray⟩) := by simpa using rangeAt_cell (rangeAt_below X6.out LF hbw8) 5 rfl
                    have hz8 : wB.heap.size ≤ w8.heap.size := Hb8.out.size
                    clear hb8 hbw8
                    by_cases hg : g.given = []
                    · rw [hg] at f5
                      have Hrest2 := Lib.hid (hff.trans (by rw [if_pos hg, List.append_nil]))
                      clear hg hff
                      go_wp2_with (at_builtin; refine wpList_app1W _ rfl _ _ 58 rfl wB.heap.size 9 (.string ⟨#[]⟩) 16 Tryz.underlying58 Tryz.infoStr rfl w8 (.string ⟨(decB g.tag ++ 58 :: (g.name ++ 58 :: kdB (formK ns g.kind)) : List UInt8).toArray⟩) rfl rfl (.slice A3 n3 c3) j (scells ((x.ty.fields.take j).map (fun f => fdB x.ty.sort (formF ns x.ty.sort f)))) rfl rfl Hown8.out (by unfold maxLen; omega) (by omega) (by omega) ?_; intro v7 w9 hown9 hg9 _; have Hown9 := Lib.hid hown9; have Hg9 := Lib.hid hg9; clear hown9 hg9)
                      go_roundw
                      case rel =>
                        refine ⟨j + 1, by go_num, by omega, ?_, Hb8.out.grown Hg9.out (by omega) (fun j hj => (Hown8.out.lt j hj).1)⟩
                        rw [Hfs.out, List.map_append, List.map_singleton, scells_snoc, Hrest2.out]
                        exact Hown9.out
                      case measure => simp [intOf]; omega
                    · have s1 : g.given.isEmpty = false := by simpa using hg
                      have s2 : (!g.given.isEmpty) = true := by simp [s1]
                      have Hrest2 := Lib.hid (hff.trans (by rw [if_neg hg]))
                      clear hg hff
                      go_wp2_with (at_builtin; refine wpList_app1W _ rfl _ _ 58 rfl wB.heap.size 9 (.string ⟨#[]⟩) 16 Tryz.underlying58 Tryz.infoStr rfl w8 (.string ⟨(decB g.tag ++ 58 :: (g.name ++ 58 :: (kdB (formK ns g.kind) ++ 61 :: g.given)) : List UInt8).toArray⟩) rfl rfl (.slice A3 n3 c3) j (scells ((x.ty.fields.take j).map (fun f => fdB x.ty.sort (formF ns x.ty.sort f)))) rfl rfl Hown8.out (by unfold maxLen; omega) (by omega) (by omega) ?_; intro v7 w9 hown9 hg9 _; have Hown9 := Lib.hid hown9; have Hg9 := Lib.hid hg9; clear hown9 hg9)
                      go_roundw
                      case rel =>
                        refine ⟨j + 1, by go_num, by omega, ?_, Hb8.out.grown Hg9.out (by omega) (fun j hj => (Hown8.out.lt j hj).1)⟩
                        rw [Hfs.out, List.map_append, List.map_singleton, scells_snoc, Hrest2.out]
                        exact Hown9.out
                      case measure => simp [intOf]; omega
              · obtain rfl : j = x.ty.fields.length := by omega
                have Hw := Lib.hid hown.out
                rw [List.take_length] at Hw
                have hcap := own_cap Hw.out
                obtain ⟨A9, c9, e9, hr9⟩ := RowAt.own Hw.out
                injection e9 with e9 e10 e11
                subst e9 e10 e11
                have Hsh := Lib.hid (show ∀ g ∈ x.ty.fields, FShort x.ty.sort (formF ns x.ty.sort g) from fun g hg => formF_short (Hto.out.2.2.1.1 g hg))
                have Hln := Lib.hid (show ∀ q ∈ x.ty.fields.map (fun f => fdB x.ty.sort (formF ns x.ty.sort f)), q.length ≤ 400 from fun q hq => by obtain ⟨f, hf, rfl⟩ := List.mem_map.1 hq; exact fdB_len (Hsh.out f hf))
                have Hjoin := Lib.hid (fun W (h : Below wr.heap.size wr W) => show Calls Tryz.prog 64 #[.slice A3 x.ty.fields.length c3, .string ⟨#[44]⟩] W fun e w' => e = .returned (.string ⟨(joinL 44 (x.ty.fields.map (fun f => fdB x.ty.sort (formF ns x.ty.sort f)))).toArray⟩) ∧ Below W.heap.size W w' from by
                  have h3 := iJoin_any A3 c3 (x.ty.fields.map (fun f => fdB x.ty.sort (formF ns x.ty.sort f))) W (by rw [List.length_map]; exact hr9.below h) (by rw [List.length_map]; omega) (by rw [List.length_map]; exact hcap) (fun q hq => by have := Hln.out q hq; omega)
                  rwa [List.length_map] at h3)
                have hjl := joinL_len 44 400 _ Hln.out
                rw [List.length_map] at hjl
                have Hty := Lib.hid (tyB_form ns x.ty)
                have Hsn2 := Lib.hid (show scB ((ns.take (m + 1)).filterMap fun n => (findTy (ptysOf xs) n).map (formY ns)) = scB acc ++ (x.ty.sort :: (newN ns x.ty.name ++ 61 :: (joinL 44 (x.ty.fields.map (fun f => fdB x.ty.sort (formF ns x.ty.sort f))) ++ [10]))) from by rw [Hsn.out, scB_snoc, Hty.out])
                have hnn2 : (newN ns x.ty.name).length = 2 := rfl
                have Hbj := Lib.hid (hbr.out.trans (hbi.out.mono (by omega)))
                have hblj := Lib.hid (hbl.out.below hbi.out)
                have Hlk := Lib.hid (fun W (h : Below B14 wr W) => (show INew W MB ns from FMap.belowAt Hnew.out hz4 (Hb5.out.trans (Hbj.out.trans h))).look Hmem.out (show x.ty.name.length ≤ 100 by have := (nameOk_iff.1 Hto.out.2.1).2.1; omega))
                have z0' : wr.cell? ⟨x.blk, 0, none⟩ = some (.int .u8 (x.ty.sort.toNat : Int)) := (hbi.out.cell (p := ⟨x.blk, 0, none⟩) (show x.blk < _ by omega)).trans Z0.out
                have z1' : wr.cell? ⟨x.blk, 1, none⟩ = some (.string ⟨x.ty.name.toArray⟩) := (hbi.out.cell (p := ⟨x.blk, 1, none⟩) (show x.blk < _ by omega)).trans Z1.out
                have hl1 : (scB acc).length ≤ m * 4000 := hlen.out
                have hm8 : m * 4000 ≤ 32000 := by omega
                have hnl3 := (nameOk_iff.1 Hto.out.2.1).2.1
                have hzb : B14 ≤ wr.heap.size := by omega
                obtain ⟨nn, hnn⟩ : ∃ nn, nn = newN ns x.ty.name := ⟨_, rfl⟩
                obtain ⟨js, hjs⟩ : ∃ js, js = joinL 44 (x.ty.fields.map (fun f => fdB x.ty.sort (formF ns x.ty.sort f))) := ⟨_, rfl⟩
                rw [← hnn] at Hsn2 Hlk hnn2
                rw [← hjs] at Hsn2 Hjoin hjl
                clear hr9 Hw Hty hbl hnn hjs Hsn Hln Hsh hown HF
                have hbl := hblj
                go_wp2_with fail
                refine wp_region_slots3 [106, 107, 108, 109, 110, 111, 112, 113, 114, 115, 116, 117, 118, 119, 120, 121, 122, 123, 124] (by kernel_rfl) (by kernel_rfl) (by kernel_rfl) (fun u => by dsimp only [frameOf, setMany, List.set, Nat.zero_add, Nat.reduceAdd])
                  (fun ix v W => match ix with | 0 => v = .pointer (some ⟨x.blk, 0, none⟩) | 1 => v = .pointer (some ⟨x.blk, 0, none⟩) | 2 => v = .pointer (some ⟨x.blk, 0, none⟩) | 3 => v = .int .u8 (x.ty.sort.toNat : Int) | 4 => ∃ g, v = .slice (some ⟨g, 0, none⟩) 1 1 | 5 => v = .string ⟨([x.ty.sort] : List UInt8).toArray⟩ | 6 => v = .map (some MB) | 7 => v = .pointer (some ⟨x.blk, 0, none⟩) | 8 => v = .pointer (some ⟨x.blk, 0, none⟩) | 9 => v = .pointer (some ⟨x.blk, 1, none⟩) | 10 => v = .string ⟨(x.ty.name : List UInt8).toArray⟩ | 11 => v = .string ⟨(nn : List UInt8).toArray⟩ | 12 => v = .string ⟨(x.ty.sort :: nn : List UInt8).toArray⟩ | 13 => v = .string ⟨(x.ty.sort :: (nn ++ [61]) : List UInt8).toArray⟩ | 14 => v = .slice A3 x.ty.fields.length c3 | 15 => v = .string ⟨(js : List UInt8).toArray⟩ | 16 => v = .string ⟨(x.ty.sort :: (nn ++ 61 :: js) : List UInt8).toArray⟩ | 17 => v = .string ⟨(x.ty.sort :: (nn ++ 61 :: (js ++ [10])) : List UInt8).toArray⟩ | _ => True)
                  (fun L U W => (L 18 = false → Below wr.heap.size wr W ∧ (L 4 = true → ∃ g, U 4 = .slice (some ⟨g, 0, none⟩) 1 1 ∧ g < W.heap.size ∧ W.cell? ⟨g, 0, none⟩ = some (.int .u8 (x.ty.sort.toNat : Int)))) ∧ (L 18 = true → Bld B14 B14 (scB acc ++ (x.ty.sort :: (nn ++ 61 :: (js ++ [10])))) W ∧ Below B14 wr W)) (fun _ _ => True) (fun _ _ _ _ _ h => h) (⟨fun _ => ⟨(Below.refl _ _).drew, fun h => Bool.noConfusion h⟩, fun h => Bool.noConfusion h⟩) ?_ ?_
                · repeat (first | exact Steps.nil | (refine Steps.cons ?_ ?_; rotate_left))
                  all_goals
                    rintro L U W hL hpre hR hun hdep K hK
                    have HR := Lib.hid hR
                    obtain ⟨R1, R2⟩ := HR.out
                    have hBB : Below B14 wr W := by
                      cases h : L 18 with
                      | false => exact (R1 h).1.mono (by omega)
                      | true => exact (R2 h).2
                    have a0 : W.cell? ⟨x.blk, 0, none⟩ = some (.int .u8 (x.ty.sort.toNat : Int)) := (hBB.cell (p := ⟨x.blk, 0, none⟩) (show x.blk < B14 by omega)).trans z0'
                    have a1 : W.cell? ⟨x.blk, 1, none⟩ = some (.string ⟨x.ty.name.toArray⟩) := (hBB.cell (p := ⟨x.blk, 1, none⟩) (show x.blk < B14 by omega)).trans z1'
                    have hlook := Hlk.out W hBB
                    have Hdep := Lib.hid hdep
                    clear hun hdep hR
                    first | (simp [Region.binds] at hpre; done) | simp [Region.binds] at hpre | clear hpre
                  iterate 4
                    · go_simp
                      first | exact hK _ _ _ rfl trivial HR.out rfl | exact hK _ _ _ rfl trivial HR.out (by simp [Act.put, hpre]) | exact hK undef _ _ trivial trivial HR.out (by simp [Act.put, hpre]) | exact hK _ _ _ trivial trivial HR.out rfl | exact hK _ _ _ trivial trivial HR.out (by simp [Act.put, hpre])
                  · go_simp
                    refine hK _ _ _ ⟨_, rfl⟩ trivial ⟨fun h => ⟨(R1 (by simpa using h)).1.alloc (R1 (by simpa using h)).1.size _, fun _ => ⟨W.heap.size, rfl, by simp, by simp⟩⟩, fun h => ⟨(R2 (by simpa using h)).1.below ((Below.refl _ _).alloc (Nat.le_refl _) _), (R2 (by simpa using h)).2.alloc (by have := hBB.size; omega) _⟩⟩ (by simp [Act.put, hpre])
                  · have h18 : L 18 = false := (Hdep.out 18 _ rfl { on := 17, ground := Ground.data } (by simp) (by rfl) (Hdep.out 17 _ rfl { on := 16, ground := Ground.data } (by simp) (by rfl) (Hdep.out 16 _ rfl { on := 13, ground := Ground.data } (by simp) (by rfl) (Hdep.out 13 _ rfl { on := 12, ground := Ground.data } (by simp) (by rfl) (Hdep.out 12 _ rfl { on := 5, ground := Ground.data } (by simp) (by rfl) hL)))))
                    have l4 : L 4 = true := by first | exact hpre.1 | exact hpre.2.1
                    obtain ⟨g, u4', hg, hc⟩ := (R1 h18).2 l4
                    have hcv := Tryz.conv1 W g 1 x.ty.sort hc
                    go_simp
                    exact hK _ _ _ rfl trivial HR.out (by simp [Act.put, hpre, u4'])
                  iterate 9
                    · go_simp
                      first | exact hK _ _ _ rfl trivial HR.out rfl | exact hK _ _ _ rfl trivial HR.out (by simp [Act.put, hpre]) | exact hK undef _ _ trivial trivial HR.out (by simp [Act.put, hpre]) | exact hK _ _ _ trivial trivial HR.out rfl | exact hK _ _ _ trivial trivial HR.out (by simp [Act.put, hpre])
                  · have h18 : L 18 = false := (Hdep.out 18 _ rfl { on := 17, ground := Ground.data } (by simp) (by rfl) (Hdep.out 17 _ rfl { on := 16, ground := Ground.data } (by simp) (by rfl) (Hdep.out 16 _ rfl { on := 15, ground := Ground.data } (by simp) (by rfl) hL)))
                    go_simp
                    refine (Hjoin.out W (R1 h18).1).mono ?_
                    rintro e w5' ⟨rfl, hb5'⟩
                    exact hK _ _ _ rfl trivial ⟨fun h => ⟨(R1 h18).1.trans (hb5'.mono (R1 h18).1.size), fun h4 => by obtain ⟨g, q1, q2, q3⟩ := (R1 h18).2 (by simpa using h4); exact ⟨g, q1, Nat.lt_of_lt_of_le q2 hb5'.size, (hb5'.cell (p := ⟨g, 0, none⟩) q2).trans q3⟩⟩, fun h => absurd (h18.symm.trans (by simpa using h)) (by decide)⟩ (by simp [Act.put, hpre])
                  · go_simp
                    rw [if_neg (by first | omega | (simp; omega))]
                    go_simp
                    first | exact hK _ _ _ rfl trivial HR.out rfl | exact hK _ _ _ rfl trivial HR.out (by simp [Act.put, hpre])
                  · go_simp
                    rw [if_neg (by first | omega | (simp; omega))]
                    go_simp
                    first | exact hK _ _ _ rfl trivial HR.out rfl | exact hK _ _ _ rfl trivial HR.out (by simp [Act.put, hpre])
                  · have h18 : L 18 = false := hL
                    have hbw := BWrite_any B14 B14 (scB acc) (x.ty.sort :: (nn ++ 61 :: (js ++ [10]))) W (hbl.out.below (R1 h18).1) (by simp; omega) (by have := hBB.size; omega)
                    go_simp
                    refine hbw.mono ?_
                    rintro e w5' ⟨rfl, q1, q2⟩
                    exact hK (.tuple #[.int .i64 ((nn.length : Int) + ((js.length : Int) + 1 + 1) + 1), .nilIface]) _ _ trivial trivial ⟨fun h => by simp at h, fun _ => ⟨q1, hBB.trans q2⟩⟩ (by simp [Act.put, hpre])
                · rintro L U W hL hφ hR
                  clear hφ
                  obtain ⟨q1, q2⟩ := hR.2 (hL 18 (by decide))
                  have Q1 := Lib.hid q1
                  have Q2 := Lib.hid (Hbj.out.trans q2)
                  clear hL hR q1 q2
                  go_wp2_with fail
                  go_roundw
                  case rel => exact ⟨m + 1, by go_num, by omega, by rw [Hsn2.out]; exact Q1.out, by rw [Hid] at *; rw [Hsn2]; simp; omega, Q2.out⟩
                  case measure => simp [intOf]; omega
          · obtain rfl : m = ns.length := by omega
            have Heq : Hid ((ns.take ns.length).filterMap (fun n => (findTy (ptysOf xs) n).map (formY ns)) = formS (ptysOf xs) ns) := by rw [Hid, List.take_length]; rfl
            have HF2 := HF.out
            rw [← Heq.out] at HF2
            have hl1 : (scB ((ns.take ns.length).filterMap fun n => (findTy (ptysOf xs) n).map (formY ns))).length ≤ ns.length * 4000 := hlen.out
            have hm8 : ns.length * 4000 ≤ 32000 := by omega
            generalize (ns.take ns.length).filterMap (fun n => (findTy (ptysOf xs) n).map (formY ns)) = fin at *
            clear Heq
            have Hk2 := Lib.hid (fun W => iBoth_any (scB fin) (kdB (formK ns k)) W (by omega) (by omega))
            have Han := Lib.hid (fun W (h : Below B14 wr W) => iAnew_any ns MB k W (FMap.belowAt Hnew.out hz4 ((Hb5.out.trans hbr.out).trans h)) Hkok.out Hclk.out)
            have Htx := Lib.hid (fun W => iText_any (formK ns k) W hfl)
            have hz1B : w1.heap.size < B14 := by omega
            have k0' : wr.cell? ⟨w1.heap.size, 0, none⟩ = some (.string ⟨k.signs.toArray⟩) := by simpa using rangeAt_cell (rangeAt_below K0.out (show w1.heap.size < MB by omega) Hbm.out) 0 rfl
            have k1' : wr.cell? ⟨w1.heap.size, 1, none⟩ = some (.string ⟨k.base.toArray⟩) := by simpa using rangeAt_cell (rangeAt_below K0.out (show w1.heap.size < MB by omega) Hbm.out) 1 rfl
            have k2' : wr.cell? ⟨w1.heap.size, 2, none⟩ = some (.string ⟨k.name.toArray⟩) := by simpa using rangeAt_cell (rangeAt_below K0.out (show w1.heap.size < MB by omega) Hbm.out) 2 rfl
            have hzb : B14 ≤ wr.heap.size := by omega
            have Hbw := Lib.hid (show Below w.heap.size w wr from Hb1.out.trans ((Hb2.out.trans (Hbm.out.mono (by omega))).mono Hb1.out.size))
            generalize kdB (formK ns k) = kd at *
            generalize scB fin = sb at *
            go_wp2_with fail
            refine wp_region_slots3 [126, 127, 128, 129, 130, 21, 22] (by kernel_rfl) (by kernel_rfl) (by kernel_rfl) (fun u => by dsimp only [frameOf, setMany, List.set, Nat.zero_add, Nat.reduceAdd])
              (fun ix v W => match ix with | 0 => v = .string ⟨(sb : List UInt8).toArray⟩ | 1 => v = .agg #[.string ⟨k.signs.toArray⟩, .string ⟨k.base.toArray⟩, .string ⟨k.name.toArray⟩] | 2 => v = .map (some MB) | 3 => v = kdV (formK ns k) | 4 => v = .string ⟨(kd : List UInt8).toArray⟩ | 5 => v = .string ⟨(sb : List UInt8).toArray⟩ | 6 => v = .string ⟨(kd : List UInt8).toArray⟩ | _ => True)
              (fun L U W => Below B14 wr W ∧ (L 0 = false → Bld B14 B14 sb W)) (fun _ _ => True) (fun _ _ _ _ _ h => h) (⟨(Below.refl _ _).drew, fun _ => hbl.out.below (Below.refl _ _).drew⟩) ?_ ?_
            · repeat (first | exact Steps.nil | (refine Steps.cons ?_ ?_; rotate_left))
              all_goals
                rintro L U W hL hpre hR hun hdep K hK
                have HR := Lib.hid hR
                obtain ⟨R1, R2⟩ := HR.out
                have a0 : W.cell? ⟨w1.heap.size, 0, none⟩ = some (.string ⟨k.signs.toArray⟩) := (R1.cell (p := ⟨w1.heap.size, 0, none⟩) hz1B).trans k0'
                have a1 : W.cell? ⟨w1.heap.size, 1, none⟩ = some (.string ⟨k.base.toArray⟩) := (R1.cell (p := ⟨w1.heap.size, 1, none⟩) hz1B).trans k1'
                have a2 : W.cell? ⟨w1.heap.size, 2, none⟩ = some (.string ⟨k.name.toArray⟩) := (R1.cell (p := ⟨w1.heap.size, 2, none⟩) hz1B).trans k2'
                clear hun hdep hR
                first | (simp [Region.binds] at hpre; done) | simp [Region.binds] at hpre | clear hpre
              · have h0 : L 0 = false := hL
                have hbs := BString_any B14 B14 sb W (R2 h0) (by have := R1.size; omega)
                go_simp
                refine hbs.mono ?_
                rintro e w5' ⟨rfl, q2⟩
                exact hK _ _ _ rfl trivial ⟨R1.trans q2, fun h => by simp at h⟩ (by simp [Act.put, hpre])
              iterate 2
                · go_simp
                  first | exact hK _ _ _ rfl trivial HR.out rfl | exact hK _ _ _ rfl trivial HR.out (by simp [Act.put, hpre]) | exact hK undef _ _ trivial trivial HR.out (by simp [Act.put, hpre]) | exact hK _ _ _ trivial trivial HR.out rfl | exact hK _ _ _ trivial trivial HR.out (by simp [Act.put, hpre])
              · go_simp
                refine (Han.out W R1).mono ?_
                rintro e w5' ⟨rfl, hb5'⟩
                exact hK _ _ _ rfl trivial ⟨R1.trans (hb5'.mono (by have := R1.size; omega)), fun h => (R2 (by simpa using h)).below hb5'⟩ (by simp [Act.put, hpre])
              · go_simp
                refine (Htx.out W).mono ?_
                rintro e w5' ⟨rfl, hb5'⟩
                exact hK _ _ _ rfl trivial ⟨R1.trans (hb5'.mono (by have := R1.size; omega)), fun h => (R2 (by simpa using h)).below hb5'⟩ (by simp [Act.put, hpre])
              iterate 2
                · go_simp
                  first | exact hK _ _ _ rfl trivial HR.out rfl | exact hK _ _ _ rfl trivial HR.out (by simp [Act.put, hpre]) | exact hK undef _ _ trivial trivial HR.out (by simp [Act.put, hpre]) | exact hK _ _ _ trivial trivial HR.out rfl | exact hK _ _ _ trivial trivial HR.out (by simp [Act.put, hpre])
            · rintro L U W hL hφ hR
              have e5 : U 5 = .string ⟨(sb : List UInt8).toArray⟩ := hφ 5 (by decide)
              have e6 : U 6 = .string ⟨(kd : List UInt8).toArray⟩ := hφ 6 (by decide)
              simp only [e5, e6]
              clear hφ
              have Hb9 := Lib.hid (Hbw.out.trans (hR.1.mono (by have := Hb1.out.size; omega)))
              clear hL hR
              go_wp2_with fail
              refine (Hk2.out _).mono ?_
              rintro e w9 ⟨hcase, hb9⟩
              have Hbz := Lib.hid (Hb9.out.trans (hb9.mono Hb9.out.size))
              clear hb9
              cases ho : bothL sb kd with
              | none =>
                rw [ho] at hcase HF2
                obtain ⟨p', a', b', c', rfl⟩ := hcase
                have HF3 := Lib.hid HF2
                clear ho HF2 HF
                go_wp2_with fail
                refine bodyPost_ret (v := .tuple #[.string ⟨#[]⟩, .string ⟨#[]⟩, .bool false]) (by simp [results, Tryz.results17, go_sem]) rfl ?_
                exact ⟨by rw [HF3.out]; rfl, Hbz.out.alloc Hbz.out.size _⟩
              | some z =>
                rw [ho] at hcase HF2
                obtain ⟨p', xs', _, rfl, _⟩ := hcase
                have HF3 := Lib.hid HF2
                clear ho HF2 HF
                unfold kdV
                go_wp2_with fail
                refine bodyPost_ret (v := .tuple #[.string ⟨sb.toArray⟩, .string ⟨kd.toArray⟩, .bool true]) (by simp [results, Tryz.results17, go_sem]) rfl ?_
                exact ⟨by rw [HF3.out]; rfl, Hbz.out.alloc Hbz.out.size _⟩
end Go.Proofs.YtdhinlhafoiaiaaGreatDoor
/- The program's SchemaAlike. -/
namespace Go.Proofs.YtdhinlhafoiaiaaGreatDoor
open Go.RowKit
set_option maxRecDepth 100000
set_option linter.unusedVariables false
set_option linter.unusedSimpArgs false
attribute [local go_sem] ba_get ba_toList ba_extract take_drop_all ByteArray.mk_append_mk

set_option maxHeartbeats 1000000 in
theorem iAlike_any (a b c d : List UInt8) (w : World) (ha : a.length ≤ 4000000) (hb : b.length ≤ 4000000) (hc : c.length ≤ 4000000) (hd : d.length ≤ 4000000) :
    Calls Tryz.prog 39 #[.string ⟨a.toArray⟩, .string ⟨b.toArray⟩, .string ⟨c.toArray⟩, .string ⟨d.toArray⟩] w fun e w' => e = .returned (.bool (alikeB (formL (bothL a b)) (formL (bothL c d)))) ∧ Below w.heap.size w w' := by
  have H1 := Lib.hid (fun W => iForm_any a b W ha hb)
  have H2 := Lib.hid (fun W => iForm_any c d W hc hd)
  generalize formL (bothL a b) = x at *
  generalize formL (bothL c d) = y at *
  go_enter Tryz.func39, Tryz.ntmps39
  go_wp2_with fail
  refine (H1.out _).mono ?_
  rintro e w1 ⟨he, hb1⟩
  have Hb1 := Lib.hid hb1
  clear hb1 H1
  rcases x with _ | ⟨x1, x2⟩
  · obtain rfl : e = .returned (.tuple #[.string ⟨#[]⟩, .string ⟨#[]⟩, .bool false]) := he
    go_wp2_with fail
    refine (H2.out _).mono ?_
    rintro e w2 ⟨he, hb2⟩
    have Hb2 := Lib.hid (Hb1.out.trans (hb2.mono Hb1.out.size))
    clear hb2 H2
    rcases y with _ | ⟨y1, y2⟩
    · obtain rfl : e = .returned (.tuple #[.string ⟨#[]⟩, .string ⟨#[]⟩, .bool false]) := he
      go_wp2_with fail
      go_ret
      exact ⟨rfl, Hb2.out⟩
    · obtain rfl : e = .returned (.tuple #[.string ⟨y1.toArray⟩, .string ⟨y2.toArray⟩, .bool true]) := he
      go_wp2_with fail
      go_ret
      exact ⟨rfl, Hb2.out⟩
  · obtain rfl : e = .returned (.tuple #[.string ⟨x1.toArray⟩, .string ⟨x2.toArray⟩, .bool true]) := he
    go_wp2_with fail
    refine (H2.out _).mono ?_
    rintro e w2 ⟨he, hb2⟩
    have Hb2 := Lib.hid (Hb1.out.trans (hb2.mono Hb1.out.size))
    clear hb2 H2
    rcases y with _ | ⟨y1, y2⟩
    · obtain rfl : e = .returned (.tuple #[.string ⟨#[]⟩, .string ⟨#[]⟩, .bool false]) := he
      go_wp2_with fail
      go_ret
      exact ⟨rfl, Hb2.out⟩
    · obtain rfl : e = .returned (.tuple #[.string ⟨y1.toArray⟩, .string ⟨y2.toArray⟩, .bool true]) := he
      by_cases h1 : x1 = y1
      · have t1 : (x1 == y1) = true := by simpa using h1
        clear h1
        by_cases h2 : x2 = y2
        · have t2 : (x2 == y2) = true := by simpa using h2
          clear h2
          have Hr := Lib.hid (show alikeB (some (x1, x2)) (some (y1, y2)) = true from by simp [alikeB, t1, t2])
          go_wp2_with fail
          go_ret
          exact ⟨by rw [Hr.out]; rfl, Hb2.out⟩
        · have t2 : (x2 == y2) = false := by simpa using h2
          clear h2
          have Hr := Lib.hid (show alikeB (some (x1, x2)) (some (y1, y2)) = false from by simp [alikeB, t1, t2])
          go_wp2_with fail
          go_ret
          exact ⟨by rw [Hr.out]; rfl, Hb2.out⟩
      · have t1 : (x1 == y1) = false := by simpa using h1
        clear h1
        have Hr := Lib.hid (show alikeB (some (x1, x2)) (some (y1, y2)) = false from by simp [alikeB, t1])
        go_wp2_with fail
        go_ret
        exact ⟨by rw [Hr.out]; rfl, Hb2.out⟩
end Go.Proofs.YtdhinlhafoiaiaaGreatDoor
