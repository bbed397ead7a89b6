/- Texts joined: SForm1, SForm2. Conditions: as each theorem names them. -/
import Derived.Test.YtdhinlhafoiaiaaGreatDoorK02
import Derived.Test.YtdhinlhafoiaiaaGreatDoorK03
import Derived.Test.YtdhinlhafoiaiaaGreatDoorK09
import Derived.Test.YtdhinlhafoiaiaaGreatDoorK13
import Derived.Test.YtdhinlhafoiaiaaGreatDoorK14
import Derived.Test.YtdhinlhafoiaiaaGreatDoorK19
import Derived.Test.YtdhinlhafoiaiaaGreatDoorK24
/- The reference's forms: the place of a name, a name anew, a kind anew. -/
namespace Go.Proofs.YtdhinlhafoiaiaaGreatDoor
open Go.RowKit
set_option maxRecDepth 100000
set_option linter.unusedVariables false
set_option linter.unusedSimpArgs false
attribute [local go_sem] ba_get ba_toList ba_extract take_drop_all ByteArray.mk_append_mk

/-- Where a name is, or -1. -/
def placeI (ns : List Name) (n : Name) : Int := if n ∈ ns then (placeN ns n : Int) else -1
set_option maxHeartbeats 1000000 in
theorem sAt_any (fb : Nat) (A : Option Addr) (c : Nat) (ns : List Name) (n : Name) (w : World) (h1 : w.cell? ⟨fb, 1, none⟩ = some (.slice A ns.length c)) (hr : RowAt w A ns.length (scells ns)) (hl : ns.length ≤ 100) :
    Calls Tryz.prog 104 #[.pointer (some ⟨fb, 0, none⟩), .string ⟨n.toArray⟩] w fun e w' => e = .returned (.int .i64 (placeI ns n)) ∧ w = w' := by
  have Hr := Lib.hid hr
  clear hr
  go_enter Tryz.func104, Tryz.ntmps104
  go_wp2_with fail
  go_loop [5] (fun i => ∃ k : Nat, i = .int .i64 k ∧ k ≤ ns.length ∧ Hid (∀ j, (hj : j < k) → (hn : j < ns.length) → ns[j] ≠ n)) (fun i => ns.length - (intOf i).toNat)
  case atStart => exact ⟨0, rfl, Nat.zero_le _, fun j hj => by omega⟩
  case round =>
    obtain ⟨k, rfl, hk, hin⟩ := hrel
    have k1 : (0 : Int) ≤ (k : Int) := by omega
    by_cases hlt : k < ns.length
    · have k2 : (k : Int) < (ns.length : Int) := by omega
      obtain ⟨b, off, rfl, hb, hc⟩ := Hr.out.at_ hlt
      have c0 : w.cell? ⟨b, off + k, none⟩ = some (.string ⟨ns[k].toArray⟩) := by rw [hc]; simp [scells]
      have Hx : Hid (ns[k] = ns[k]) := rfl
      by_cases he : ns[k] = n
      · have Hfin := Lib.hid (show placeI ns n = (k : Int) from by
          unfold placeI
          rw [if_pos (by rw [← he]; exact List.getElem_mem hlt), ← he, placeN_at hlt (fun j hj => by rw [he]; exact hin.out j hj (by omega))])
        have t1 : (ns[k] == n) = true := by simp [he]
        generalize ns[k] = x at c0 t1
        clear he hc
        go_wp2_with fail
        go_ret
        exact ⟨by rw [Hfin.out]; rfl, rfl⟩
      · have t1 : (ns[k] == n) = false := by simpa using he
        have Hin := Lib.hid (show ∀ j, (hj : j < k + 1) → (hn : j < ns.length) → ns[j] ≠ n from fun j hj hn => by
          rcases Nat.lt_or_ge j k with h | h
          · exact hin.out j h hn
          · obtain rfl : j = k := by omega
            exact he)
        generalize ns[k] = x at c0 t1
        clear he hc
        go_wp2_with fail
        go_round
        case rel => exact ⟨k + 1, by go_num, by omega, Hin.out⟩
        case measure => simp [intOf]; omega
    · have Hfin := Lib.hid (show placeI ns n = -1 from if_neg (fun h => by
        obtain ⟨j, hj, e⟩ := List.mem_iff_getElem.1 h
        exact hin.out j (by omega) hj e))
      go_wp2_with fail
      go_ret
      exact ⟨by rw [Hfin.out]; rfl, rfl⟩

set_option maxHeartbeats 1000000 in
theorem sName_any (fb : Nat) (A : Option Addr) (c : Nat) (ns : List Name) (n : Name) (w : World) (h1 : w.cell? ⟨fb, 1, none⟩ = some (.slice A ns.length c)) (hr : RowAt w A ns.length (scells ns)) (hl : ns.length ≤ 8) (hn : n ∈ ns) :
    Calls Tryz.prog 77 #[.pointer (some ⟨fb, 0, none⟩), .string ⟨n.toArray⟩] w fun e w' => e = .returned (.string ⟨(newN ns n).toArray⟩) ∧ Below w.heap.size w w' := by
  have Ha := Lib.hid (sAt_any fb A c ns n w h1 hr (by omega))
  have hp := placeN_lt hn
  have HF : Hid (newN ns n = [97, byteOf (97 + placeN ns n)]) := rfl
  have e : placeI ns n = (placeN ns n : Int) := if_pos hn
  rw [e] at Ha
  generalize placeN ns n = p at *
  have hcv := fun W => Tryz.conv1 W w.heap.size 1 (byteOf (97 + p))
  rw [byteOf_toNat (by omega)] at hcv
  have hu : IntKind.u8.wrap (97 + (p : Int)) = ((97 + p : Nat) : Int) := by rw [IntWalk.u8_in _ (by omega)]; omega
  clear e
  go_enter Tryz.func77, Tryz.ntmps77
  go_wp2_with fail
  refine Ha.out.mono ?_
  rintro e w1 ⟨rfl, rfl⟩
  go_wp2_with fail
  go_ret
  exact ⟨by rw [HF.out]; rfl, (Below.refl _ _).alloc (Nat.le_refl _) _⟩

set_option maxHeartbeats 1000000 in
theorem sFKind_any (fb : Nat) (A : Option Addr) (c : Nat) (ns : List Name) (k : Kd) (w : World) (h1 : w.cell? ⟨fb, 1, none⟩ = some (.slice A ns.length c)) (hr : RowAt w A ns.length (scells ns)) (hl : ns.length ≤ 8) (hk : kdOk k) (hn : k.base = [64] → k.name ∈ ns) (hfb : fb < w.heap.size) :
    Calls Tryz.prog 78 #[.pointer (some ⟨fb, 0, none⟩), .string ⟨(kdB k).toArray⟩] w fun e w' => e = .returned (.string ⟨(kdB (formK ns k)).toArray⟩) ∧ Below w.heap.size w w' := by
  have Hca := Lib.hid (fun W => l2CoreK_any k hk W)
  have Hrc := Lib.hid (fun W => l2RefCore_any k hk W)
  by_cases hb : k.base = [64]
  · have Hir := Lib.hid (show isRef k = true by simp [isRef, hb])
    have Hnm0 := Lib.hid (show refNm k = k.name by simp [refNm, hb])
    have HF := Lib.hid (show kdB (formK ns k) = k.signs ++ 64 :: (newN ns k.name ++ [59]) from by unfold formK kdB coreB; rw [if_pos hb]; simp [hb])
    have hnl := (nameOk_iff.1 (by rcases hk.2.1 with h | h; exact h.2; exact absurd h.1 (by rw [hb]; decide) : nameOk k.name = true)).2.1
    have hsl : k.signs.length ≤ 12 := by have := hk.2.2; unfold kdB at this; simp at this; omega
    have Hnm := Lib.hid (fun W (h : Below w.heap.size w W) => sName_any fb A c ns k.name W ((h.cell (p := ⟨fb, 1, none⟩) hfb).trans h1) (hr.below h) hl (hn hb))
    have hn2 : (newN ns k.name).length = 2 := rfl
    have ek : kdB k = k.signs ++ (64 :: (k.name ++ [59])) := by unfold kdB coreB; rw [if_pos hb]
    have ec : coreB k = 64 :: (k.name ++ [59]) := if_pos hb
    rw [Hir.out, Hnm0.out] at Hrc
    rw [ek] at Hca ⊢
    rw [ec] at Hca Hrc
    have hw1 : IntKind.i64.wrap (k.signs.length : Int) = k.signs.length := IntWalk.i64_in _ ⟨by omega, by omega⟩
    clear hb ek ec hk hn h1 hr
    go_enter Tryz.func78, Tryz.ntmps78
    go_wp2_with fail
    refine (Hca.out _).mono ?_
    rintro e w1 ⟨rfl, rfl⟩
    go_wp2_with fail
    refine (Hrc.out _).mono ?_
    rintro e w1 ⟨rfl, rfl⟩
    go_wp2_with fail
    refine wp_region_slots3 [18, 19, 20, 21, 22, 23, 24, 25, 26, 27, 28, 29, 30, 4] (by kernel_rfl) (by kernel_rfl) (by kernel_rfl) (fun u => by dsimp only [frameOf, setMany, List.set, Nat.zero_add, Nat.reduceAdd])
      (fun ix v W => match ix with | 0 => v = .string ⟨(k.signs ++ (64 :: (k.name ++ [59])) : List UInt8).toArray⟩ | 1 => v = .string ⟨(k.signs ++ (64 :: (k.name ++ [59])) : List UInt8).toArray⟩ | 2 => v = .int .i64 ((k.signs.length : Int) + ((k.name.length : Int) + 1 + 1)) | 3 => v = .string ⟨(64 :: (k.name ++ [59]) : List UInt8).toArray⟩ | 4 => v = .int .i64 ((k.name.length : Int) + 1 + 1) | 5 => v = .int .i64 (k.signs.length : Int) | 6 => v = .string ⟨k.signs.toArray⟩ | 7 => v = .string ⟨(k.signs ++ [64] : List UInt8).toArray⟩ | 8 => v = .pointer (some ⟨fb, 0, none⟩) | 9 => v = .string ⟨k.name.toArray⟩ | 10 => v = .string ⟨(newN ns k.name : List UInt8).toArray⟩ | 11 => v = .string ⟨(k.signs ++ 64 :: newN ns k.name : List UInt8).toArray⟩ | 12 => v = .string ⟨(k.signs ++ 64 :: (newN ns k.name ++ [59]) : List UInt8).toArray⟩ | 13 => v = .string ⟨(k.signs ++ 64 :: (newN ns k.name ++ [59]) : List UInt8).toArray⟩ | _ => True)
      (fun L U W => Below w.heap.size w W) (fun _ _ => True) (fun _ _ _ _ _ h => h) ((Below.refl _ _).drew) ?_ ?_
    · repeat (first | exact Steps.nil | (refine Steps.cons ?_ ?_; rotate_left))
      all_goals
        rintro L U W hL hpre hR hun hdep K hK
        have HR := Lib.hid hR
        have hB := HR.out
        clear hun hdep hR
        first | (simp [Region.binds] at hpre; done) | simp [Region.binds] at hpre | clear hpre
      iterate 6
        · go_simp
          first | exact hK _ _ _ rfl trivial HR.out rfl | exact hK _ _ _ rfl trivial HR.out (by simp [Act.put, hpre, hw1]) | exact hK undef _ _ trivial trivial HR.out (by simp [Act.put, hpre, hw1]) | exact hK _ _ _ trivial trivial HR.out rfl | exact hK _ _ _ trivial trivial HR.out (by simp [Act.put, hpre, hw1])
      · go_simp
        rw [if_pos (by omega)]
        go_simp
        first | exact hK _ _ _ rfl trivial HR.out rfl | exact hK _ _ _ rfl trivial HR.out (by simp [Act.put, hpre])
      · go_simp
        rw [if_neg (by first | omega | (simp; omega))]
        go_simp
        first | exact hK _ _ _ rfl trivial HR.out rfl | exact hK _ _ _ rfl trivial HR.out (by simp [Act.put, hpre])
      iterate 2
        · go_simp
          first | exact hK _ _ _ rfl trivial HR.out rfl | exact hK _ _ _ rfl trivial HR.out (by simp [Act.put, hpre, hw1]) | exact hK undef _ _ trivial trivial HR.out (by simp [Act.put, hpre, hw1]) | exact hK _ _ _ trivial trivial HR.out rfl | exact hK _ _ _ trivial trivial HR.out (by simp [Act.put, hpre, hw1])
      · go_simp
        refine (Hnm.out W hB).mono ?_
        rintro e w5 ⟨rfl, hb5⟩
        exact hK _ _ _ rfl trivial (hB.trans (hb5.mono hB.size)) (by simp [Act.put, hpre])
      · go_simp
        rw [if_neg (by first | omega | (simp; omega))]
        go_simp
        first | exact hK _ _ _ rfl trivial HR.out rfl | exact hK _ _ _ rfl trivial HR.out (by simp [Act.put, hpre])
      · go_simp
        rw [if_neg (by first | omega | (simp; omega))]
        go_simp
        first | exact hK _ _ _ rfl trivial HR.out rfl | exact hK _ _ _ rfl trivial HR.out (by simp [Act.put, hpre])
      · go_simp
        first | exact hK _ _ _ rfl trivial HR.out rfl | exact hK _ _ _ rfl trivial HR.out (by simp [Act.put, hpre, hw1]) | exact hK undef _ _ trivial trivial HR.out (by simp [Act.put, hpre, hw1]) | exact hK _ _ _ trivial trivial HR.out rfl | exact hK _ _ _ trivial trivial HR.out (by simp [Act.put, hpre, hw1])
    · rintro L U W hL hφ hR
      have e13 : U 13 = .string ⟨(k.signs ++ 64 :: (newN ns k.name ++ [59]) : List UInt8).toArray⟩ := hφ 13 (by decide)
      simp only [e13]
      clear hφ
      have Hb := Lib.hid hR
      clear hL hR
      go_wp2_with fail
      go_ret
      exact ⟨by rw [HF.out]; rfl, Hb.out⟩
  · have Hir := Lib.hid (show isRef k = false by simp [isRef, hb])
    have HF := Lib.hid (show kdB (formK ns k) = kdB k from by unfold formK; rw [if_neg hb])
    rw [Hir.out] at Hrc
    generalize kdB k = kk at *
    clear hb hn
    go_enter Tryz.func78, Tryz.ntmps78
    go_wp2_with fail
    refine (Hca.out _).mono ?_
    rintro e w1 ⟨rfl, rfl⟩
    go_wp2_with fail
    refine (Hrc.out _).mono ?_
    rintro e w1 ⟨rfl, rfl⟩
    go_wp2_with fail
    go_ret
    exact ⟨by rw [HF.out]; rfl, Below.refl _ _⟩
end Go.Proofs.YtdhinlhafoiaiaaGreatDoor
/- The reference's texts of types: joined parts; the text of a type. -/
namespace Go.Proofs.YtdhinlhafoiaiaaGreatDoor
open Go.RowKit
set_option maxRecDepth 100000
set_option linter.unusedVariables false
set_option linter.unusedSimpArgs false
attribute [local go_sem] ba_get ba_toList ba_extract take_drop_all ByteArray.mk_append_mk

theorem joinL_snoc (c : UInt8) (p : List UInt8) : ∀ (l : List (List UInt8)), joinL c (l ++ [p]) = if l = [] then p else joinL c l ++ c :: p
  | [] => rfl
  | [q] => rfl
  | q :: r :: l => by
    have ih := joinL_snoc c p (r :: l)
    rw [if_neg (by simp)] at ih ⊢
    rw [List.cons_append, joinL_cons c q (by simp), ih, joinL_cons c q (by simp)]
    simp
theorem joinL_len (c : UInt8) (m : Nat) : ∀ (l : List (List UInt8)), (∀ p ∈ l, p.length ≤ m) → (joinL c l).length ≤ l.length * (m + 1)
  | [], _ => by simp [joinL]
  | [q], h => by have := h q (by simp); simp [joinL]; omega
  | q :: r :: l, h => by
    have h1 := h q (by simp)
    have h2 := joinL_len c m (r :: l) (fun p hp => h p (by simp [hp]))
    rw [joinL_cons c q (by simp), List.length_append, List.length_cons, List.length_cons, Nat.add_mul]
    omega

set_option maxHeartbeats 1000000 in
theorem sJoin_any (A : Option Addr) (c : Nat) (ps : List (List UInt8)) (w : World) (hr : RowAt w A ps.length (scells ps)) (hl : ps.length ≤ 100) (hp : ∀ p ∈ ps, p.length ≤ 10000) :
    Calls Tryz.prog 106 #[.slice A ps.length c] w fun e w' => e = .returned (.string ⟨(joinL 44 ps).toArray⟩) ∧ w = w' := by
  have Hr := Lib.hid hr
  have Hp := Lib.hid hp
  clear hr hp
  go_enter Tryz.func106, Tryz.ntmps106
  go_wp2_with fail
  go_loop [4, 3] (fun i s => ∃ k : Nat, i = .int .i64 k ∧ k ≤ ps.length ∧ s = .string ⟨(joinL 44 (ps.take k)).toArray⟩) (fun i _ => ps.length - (intOf i).toNat)
  case atStart => exact ⟨0, rfl, Nat.zero_le _, rfl⟩
  case round =>
    obtain ⟨k, rfl, hk, rfl⟩ := hrel
    have k1 : (0 : Int) ≤ (k : Int) := by omega
    have hjl := joinL_len 44 10000 (ps.take k) (fun p hp => Hp.out p (List.mem_of_mem_take hp))
    rw [List.length_take, Nat.min_eq_left hk] at hjl
    by_cases hlt : k < ps.length
    · have k2 : (k : Int) < (ps.length : Int) := by omega
      obtain ⟨b, off, rfl, hb, hc⟩ := Hr.out.at_ hlt
      have c0 : w.cell? ⟨b, off + k, none⟩ = some (.string ⟨ps[k].toArray⟩) := by rw [hc]; simp [scells]
      have Hsn := Lib.hid (show joinL 44 (ps.take (k + 1)) = if ps.take k = [] then ps[k] else joinL 44 (ps.take k) ++ 44 :: ps[k] from by rw [take_snoc ps k hlt]; exact joinL_snoc 44 ps[k] (ps.take k))
      have hpl := Hp.out _ (List.getElem_mem hlt)
      have He : Hid (ps.take k = [] ↔ k = 0) := by
        constructor
        · intro h
          have := congrArg List.length h
          rw [List.length_take, Nat.min_eq_left hk] at this
          simpa using this
        · rintro rfl; rfl
      generalize ps[k] = p at c0 Hsn hpl
      clear hc
      by_cases h0 : k = 0
      · have h0i : ¬ (0 : Int) < (k : Int) := by omega
        have Hs2 := Lib.hid (Hsn.out.trans (if_pos (He.out.2 h0)))
        have hj0 : joinL 44 (ps.take k) = [] := by rw [He.out.2 h0]; rfl
        rw [hj0]
        clear h0 hjl hj0
        go_wp2_with fail
        go_round
        case rel => exact ⟨k + 1, by go_num, by omega, by rw [Hs2.out]⟩
        case measure => simp [intOf]; omega
      · have h0i : (0 : Int) < (k : Int) := by omega
        have Hs2 := Lib.hid (Hsn.out.trans (if_neg (fun h => h0 (He.out.1 h))))
        generalize joinL 44 (ps.take k) = js at *
        clear h0
        go_wp2_with fail
        go_round
        case rel => exact ⟨k + 1, by go_num, by omega, by rw [Hs2.out]⟩
        case measure => simp [intOf]; omega
    · obtain rfl : k = ps.length := by omega
      have Hfin : Hid (ps.take ps.length = ps) := List.take_length
      go_wp2_with fail
      go_ret
      exact ⟨by first | rfl | rw [Hfin.out], rfl⟩
/-- What the text of a type asks of its fields. -/
def FShort (st : UInt8) (f : Fd) : Prop := f.tag ≤ 200 ∧ f.name.length ≤ 100 ∧ (kdB f.kind).length ≤ 100 ∧ f.given.length ≤ 100 ∧ (st = 69 → f.given = [])
theorem fdB_len {st : UInt8} {f : Fd} (h : FShort st f) : (fdB st f).length ≤ 400 := by
  obtain ⟨h1, h2, h3, h4, _⟩ := h
  have hd := decB_len 2 f.tag (by have e : 10 ^ (2 + 1) = 1000 := rfl; omega)
  unfold fdB tailB
  split
  · simp; omega
  · split
    · simp; omega
    · simp; omega
set_option maxHeartbeats 4000000 in
theorem sOut20_any (t : Ty) (fv : Value) (w : World) (hf : SFds w fv t.fields) (h8 : t.fields.length ≤ 20) (hnm : t.name.length ≤ 100) (hs : ∀ f ∈ t.fields, FShort t.sort f) :
    Calls Tryz.prog 79 #[styV t fv] w fun e w' => e = .returned (.string ⟨(tyB t ++ [10]).toArray⟩) ∧ Below w.heap.size w w' := by
  obtain ⟨A, c, rfl, _, hrow⟩ := hf
  have Hrow := Lib.hid hrow
  have Hs := Lib.hid hs
  have HF : Hid (tyB t ++ [10] = t.sort :: (t.name ++ 61 :: (joinL 44 (t.fields.map (fdB t.sort)) ++ [10]))) := by unfold tyB Hid; simp
  have hcl := t.sort.toNat_lt
  unfold styV
  clear hrow hs
  go_enter Tryz.func79, Tryz.ntmps79
  go_wp2_with fail
  obtain ⟨w2, hw2⟩ : ∃ w2, w2 = (w.alloc (.cells #[.int .u8 (t.sort.toNat : Int), .string ⟨t.name.toArray⟩, .slice A t.fields.length c] 86)).alloc (.cells #[] 9) := ⟨_, rfl⟩
  rw [← hw2]
  have T0 := Lib.hid (show w2.cell? ⟨w.heap.size, 0, none⟩ = some (.int .u8 (t.sort.toNat : Int)) from by rw [hw2]; simp [go_sem])
  have T1 := Lib.hid (show w2.cell? ⟨w.heap.size, 1, none⟩ = some (.string ⟨t.name.toArray⟩) from by rw [hw2]; simp [go_sem])
  have T2 := Lib.hid (show w2.cell? ⟨w.heap.size, 2, none⟩ = some (.slice A t.fields.length c) from by rw [hw2]; simp [go_sem])
  have Hb2 := Lib.hid (show Below w.heap.size w w2 from by rw [hw2]; exact ((Below.refl _ _).alloc (Nat.le_refl _) _).alloc (by simp) _)
  have hz2 : w2.heap.size = w.heap.size + 2 := by rw [hw2]; simp
  have Hown2 := Lib.hid (show w2.ownsRow (w.heap.size + 1) 9 1 (.slice (some ⟨w.heap.size + 1, 0, none⟩) 0 0) 0 [] from ⟨rfl, .inr ⟨w.heap.size + 1, 0, #[], rfl, Nat.le_refl _, by rw [hw2]; have := heap_alloc_new (w.alloc (.cells #[.int .u8 (t.sort.toNat : Int), .string ⟨t.name.toArray⟩, .slice A t.fields.length c] 86)) (.cells #[] 9); simpa using this, Nat.le_refl _, Nat.zero_le _, rfl, rfl⟩⟩)
  clear hw2
  go_loopw [4, 3] (fun i lv wr => ∃ k : Nat, i = .int .i64 k ∧ k ≤ t.fields.length ∧ Hid (wr.ownsRow (w.heap.size + 1) 9 1 lv k (scells ((t.fields.take k).map (fdB t.sort)))) ∧ Hid (Below (w.heap.size + 1) w2 wr)) (fun i _ _ => t.fields.length - (intOf i).toNat)
  case atStart => exact ⟨0, rfl, Nat.zero_le _, Hown2.out, Below.refl _ _⟩
  case round =>
    obtain ⟨k, rfl, hk, hown, hbr⟩ := hrel
    have k1 : (0 : Int) ≤ (k : Int) := by omega
    have hzr : w2.heap.size ≤ wr.heap.size := hbr.out.size
    have t0 : wr.cell? ⟨w.heap.size, 0, none⟩ = some (.int .u8 (t.sort.toNat : Int)) := (hbr.out.cell (p := ⟨w.heap.size, 0, none⟩) (Nat.lt_succ_self _)).trans T0.out
    have t1 : wr.cell? ⟨w.heap.size, 1, none⟩ = some (.string ⟨t.name.toArray⟩) := (hbr.out.cell (p := ⟨w.heap.size, 1, none⟩) (Nat.lt_succ_self _)).trans T1.out
    have t2 : wr.cell? ⟨w.heap.size, 2, none⟩ = some (.slice A t.fields.length c) := (hbr.out.cell (p := ⟨w.heap.size, 2, none⟩) (Nat.lt_succ_self _)).trans T2.out
    have Hbw := Lib.hid (show Below w.heap.size w wr from Hb2.out.trans (hbr.out.mono (by omega)))
    obtain ⟨A3, n3, c3, hlv⟩ := own_slice hown.out
    subst hlv
    by_cases hlt : k < t.fields.length
    · have k2 : (k : Int) < (t.fields.length : Int) := by omega
      obtain ⟨b, off, rfl, hbl, g0, g1, g2, g3⟩ := SFds.at_ (Hrow.out.below Hbw.out) hlt
      have Hts := Lib.hid (take_snoc t.fields k hlt)
      have Hfs := Lib.hid (Hs.out _ (List.getElem_mem hlt))
      generalize t.fields[k] = f at g0 g1 g2 g3 Hts Hfs
      obtain ⟨f1, f2, f3, f4, f5⟩ := Hfs.out
      have Hf5 := Lib.hid f5
      have hdl := decB_len 2 f.tag (by have e : 10 ^ (2 + 1) = 1000 := rfl; omega)
      have Hd := Lib.hid (fun W => l6Dec_any f.tag f.tag W (Nat.le_refl _) (by omega))
      have hbn : ¬ (b = wr.heap.size) := by omega
      clear f5
      go_wp2_with fail
      obtain ⟨W5, hW5⟩ : ∃ W5, W5 = wr.alloc (.cells #[.int .i64 (f.tag : Int), .string ⟨f.name.toArray⟩, .string ⟨(kdB f.kind).toArray⟩, .string ⟨f.given.toArray⟩] 120) := ⟨_, rfl⟩
      rw [← hW5]
      have hb5 : Below wr.heap.size wr W5 := by rw [hW5]; exact (Below.refl _ _).alloc (Nat.le_refl _) _
      have F0 := Lib.hid (show W5.cell? ⟨wr.heap.size, 0, none⟩ = some (.int .i64 (f.tag : Int)) from by rw [hW5]; simp)
      have F1 := Lib.hid (show W5.cell? ⟨wr.heap.size, 1, none⟩ = some (.string ⟨f.name.toArray⟩) from by rw [hW5]; simp)
      have F2 := Lib.hid (show W5.cell? ⟨wr.heap.size, 2, none⟩ = some (.string ⟨(kdB f.kind).toArray⟩) from by rw [hW5]; simp)
      have F3 := Lib.hid (show W5.cell? ⟨wr.heap.size, 3, none⟩ = some (.string ⟨f.given.toArray⟩) from by rw [hW5]; simp)
      have L5 := Lib.hid (show wr.heap.size < W5.heap.size from by rw [hW5]; simp)
      have Hb5 := Lib.hid (show Below (w.heap.size + 1) w2 W5 from hbr.out.trans (hb5.mono (by omega)))
      have Hown5 := Lib.hid (ownsRow_below hown.out hb5)
      have h5w : w.heap.size + 1 < wr.heap.size := by omega
      generalize wr.heap.size = B5 at *
      clear hW5 hb5 g0 g1 g2 g3 t0 t1 t2
      refine wp_region_slots3 [20, 21, 22, 23, 24, 25, 26, 6] (by kernel_rfl) (by kernel_rfl) (by kernel_rfl) (fun u => by dsimp only [frameOf, setMany, List.set, Nat.zero_add, Nat.reduceAdd])
        (fun ix v W => match ix with | 0 => v = .pointer (some ⟨B5, 0, none⟩) | 1 => v = .int .i64 (f.tag : Int) | 2 => v = .string ⟨(decB f.tag : List UInt8).toArray⟩ | 3 => v = .string ⟨(decB f.tag ++ [58] : List UInt8).toArray⟩ | 4 => v = .pointer (some ⟨B5, 1, none⟩) | 5 => v = .string ⟨(f.name : List UInt8).toArray⟩ | 6 => v = .string ⟨(decB f.tag ++ 58 :: f.name : List UInt8).toArray⟩ | 7 => v = .string ⟨(decB f.tag ++ 58 :: f.name : List UInt8).toArray⟩ | _ => True)
        (fun L U W => Below W5.heap.size W5 W) (fun _ _ => True) (fun _ _ _ _ _ h => h) ((Below.refl _ _).drew) ?_ ?_
      · repeat (first | exact Steps.nil | (refine Steps.cons ?_ ?_; rotate_left))
        all_goals
          rintro L U W hL hpre hR hun hdep K hK
          have HR := Lib.hid hR
          have hB := HR.out
          have a0 : W.cell? ⟨B5, 0, none⟩ = some (.int .i64 (f.tag : Int)) := (hB.cell (p := ⟨B5, 0, none⟩) L5.out).trans F0.out
          have a1 : W.cell? ⟨B5, 1, none⟩ = some (.string ⟨f.name.toArray⟩) := (hB.cell (p := ⟨B5, 1, none⟩) L5.out).trans F1.out
          clear hun hdep hR
          first | (simp [Region.binds] at hpre; done) | simp [Region.binds] at hpre | clear hpre
        iterate 2
          · go_simp
            first | exact hK _ _ _ rfl trivial HR.out rfl | exact hK _ _ _ rfl trivial HR.out (by simp [Act.put, hpre]) | exact hK undef _ _ trivial trivial HR.out (by simp [Act.put, hpre]) | exact hK _ _ _ trivial trivial HR.out rfl | exact hK _ _ _ trivial trivial HR.out (by simp [Act.put, hpre])
        · go_simp
          refine (Hd.out W).mono ?_
          rintro e w5 ⟨rfl, hb5⟩
          exact hK _ _ _ rfl trivial (hB.trans (hb5.mono hB.size)) (by simp [Act.put, hpre])
        · go_simp
          rw [if_neg (by first | omega | (simp; omega))]
          go_simp
          first | exact hK _ _ _ rfl trivial HR.out rfl | exact hK _ _ _ rfl trivial HR.out (by simp [Act.put, hpre])
        iterate 2
          · go_simp
            first | exact hK _ _ _ rfl trivial HR.out rfl | exact hK _ _ _ rfl trivial HR.out (by simp [Act.put, hpre]) | exact hK undef _ _ trivial trivial HR.out (by simp [Act.put, hpre]) | exact hK _ _ _ trivial trivial HR.out rfl | exact hK _ _ _ trivial trivial HR.out (by simp [Act.put, hpre])
        · go_simp
          rw [if_neg (by first | omega | (simp; omega))]
          go_simp
          first | exact hK _ _ _ rfl trivial HR.out rfl | exact hK _ _ _ rfl trivial HR.out (by simp [Act.put, hpre])
        · go_simp
          first | exact hK _ _ _ rfl trivial HR.out rfl | exact hK _ _ _ rfl trivial HR.out (by simp [Act.put, hpre]) | exact hK undef _ _ trivial trivial HR.out (by simp [Act.put, hpre]) | exact hK _ _ _ trivial trivial HR.out rfl | exact hK _ _ _ trivial trivial HR.out (by simp [Act.put, hpre])
      · rintro L U W hL hφ hR
        have e7 : U 7 = .string ⟨(decB f.tag ++ 58 :: f.name : List UInt8).toArray⟩ := hφ 7 (by decide)
        simp only [e7]
        clear hφ
        have Hb6 := Lib.hid (Hb5.out.trans (hR.mono (by have := L5.out; omega)))
        have Hown6 := Lib.hid (ownsRow_below Hown5.out hR)
        have t0 : W.cell? ⟨w.heap.size, 0, none⟩ = some (.int .u8 (t.sort.toNat : Int)) := (Hb6.out.cell (p := ⟨w.heap.size, 0, none⟩) (Nat.lt_succ_self _)).trans T0.out
        have a2 : W.cell? ⟨B5, 2, none⟩ = some (.string ⟨(kdB f.kind).toArray⟩) := (hR.cell (p := ⟨B5, 2, none⟩) L5.out).trans F2.out
        have a3 : W.cell? ⟨B5, 3, none⟩ = some (.string ⟨f.given.toArray⟩) := (hR.cell (p := ⟨B5, 3, none⟩) L5.out).trans F3.out
        have hzw : w.heap.size + 1 ≤ W.heap.size := by have := hR.size; have := L5.out; omega
        clear hL hR
        by_cases h69 : t.sort = 69
        · have t69 : ((t.sort.toNat : Int) != 69) = false := by have := byte_eq (d := 69) h69; simpa using this
          have hgv := Hf5.out h69
          rw [hgv] at a3
          have Hrest2 := Lib.hid (show fdB t.sort f = decB f.tag ++ 58 :: f.name from by unfold fdB tailB; rw [if_pos h69]; simp)
          clear h69 hgv
          go_wp2_with (at_builtin; refine wpList_app1W _ rfl _ _ 58 rfl (w.heap.size + 1) 9 (.string ⟨#[]⟩) 16 Tryz.underlying58 Tryz.infoStr rfl W (.string ⟨(decB f.tag ++ 58 :: f.name : List UInt8).toArray⟩) rfl rfl (.slice A3 n3 c3) k (scells ((t.fields.take k).map (fdB t.sort))) rfl rfl Hown6.out (by unfold maxLen; omega) (by omega) (by omega) ?_; intro v7 w7 hown7 hg7 _; have Hown7 := Lib.hid hown7; have Hg7 := Lib.hid hg7; clear hown7 hg7)
          go_roundw
          case rel =>
            refine ⟨k + 1, by go_num, by omega, ?_, Hb6.out.grown Hg7.out hzw (fun j hj => (Hown6.out.lt j hj).1)⟩
            rw [Hts.out, List.map_append, List.map_singleton, scells_snoc, Hrest2.out]
            exact Hown7.out
          case measure => simp [intOf]; omega
        · have t69 : ((t.sort.toNat : Int) != 69) = true := by have := byte_ne (d := 69) h69; simpa using this
          by_cases hg : f.given = []
          · rw [hg] at a3
            have Hrest2 := Lib.hid (show fdB t.sort f = decB f.tag ++ 58 :: (f.name ++ 58 :: kdB f.kind) from by unfold fdB tailB; rw [if_neg h69, if_pos hg]; simp)
            clear h69 hg
            go_wp2_with (at_builtin; refine wpList_app1W _ rfl _ _ 58 rfl (w.heap.size + 1) 9 (.string ⟨#[]⟩) 16 Tryz.underlying58 Tryz.infoStr rfl W (.string ⟨(decB f.tag ++ 58 :: (f.name ++ 58 :: kdB f.kind) : List UInt8).toArray⟩) rfl rfl (.slice A3 n3 c3) k (scells ((t.fields.take k).map (fdB t.sort))) rfl rfl Hown6.out (by unfold maxLen; omega) (by omega) (by omega) ?_; intro v7 w7 hown7 hg7 _; have Hown7 := Lib.hid hown7; have Hg7 := Lib.hid hg7; clear hown7 hg7)
            go_roundw
            case rel =>
              refine ⟨k + 1, by go_num, by omega, ?_, Hb6.out.grown Hg7.out hzw (fun j hj => (Hown6.out.lt j hj).1)⟩
              rw [Hts.out, List.map_append, List.map_singleton, scells_snoc, Hrest2.out]
              exact Hown7.out
            case measure => simp [intOf]; omega
          · have s1 : f.given.isEmpty = false := by simpa using hg
            have s2 : (!f.given.isEmpty) = true := by simp [s1]
            have Hrest2 := Lib.hid (show fdB t.sort f = decB f.tag ++ 58 :: (f.name ++ 58 :: (kdB f.kind ++ 61 :: f.given)) from by unfold fdB tailB; rw [if_neg h69, if_neg hg])
            clear h69 hg
            go_wp2_with (at_builtin; refine wpList_app1W _ rfl _ _ 58 rfl (w.heap.size + 1) 9 (.string ⟨#[]⟩) 16 Tryz.underlying58 Tryz.infoStr rfl W (.string ⟨(decB f.tag ++ 58 :: (f.name ++ 58 :: (kdB f.kind ++ 61 :: f.given)) : List UInt8).toArray⟩) rfl rfl (.slice A3 n3 c3) k (scells ((t.fields.take k).map (fdB t.sort))) rfl rfl Hown6.out (by unfold maxLen; omega) (by omega) (by omega) ?_; intro v7 w7 hown7 hg7 _; have Hown7 := Lib.hid hown7; have Hg7 := Lib.hid hg7; clear hown7 hg7)
            go_roundw
            case rel =>
              refine ⟨k + 1, by go_num, by omega, ?_, Hb6.out.grown Hg7.out hzw (fun j hj => (Hown6.out.lt j hj).1)⟩
              rw [Hts.out, List.map_append, List.map_singleton, scells_snoc, Hrest2.out]
              exact Hown7.out
            case measure => simp [intOf]; omega
    · obtain rfl : k = t.fields.length := by omega
      have Hjl := Lib.hid (joinL_len 44 400 (t.fields.map (fdB t.sort)) (fun p hp => by obtain ⟨f, hf, rfl⟩ := List.mem_map.1 hp; exact fdB_len (Hs.out f hf)))
      have hjl := Hjl.out
      rw [List.length_map] at hjl
      have Hw := Lib.hid hown.out
      rw [List.take_length] at Hw
      obtain ⟨A9, c9, e9, hr9⟩ := RowAt.own Hw.out
      injection e9 with e9 e10 e11
      subst e9 e10 e11
      have Hjoin := Lib.hid (fun W (h : Below wr.heap.size wr W) => show Calls Tryz.prog 106 #[.slice A3 t.fields.length c3] W fun e w' => e = .returned (.string ⟨(joinL 44 (t.fields.map (fdB t.sort))).toArray⟩) ∧ W = w' from by
        have := sJoin_any A3 c3 (t.fields.map (fdB t.sort)) W (by simpa using hr9.below h) (by rw [List.length_map]; omega) (fun p hp => by obtain ⟨f, hf, rfl⟩ := List.mem_map.1 hp; have := fdB_len (Hs.out f hf); omega)
        rwa [List.length_map] at this)
      have W0e : ∃ W0, W0 = wr := ⟨_, rfl⟩
      obtain ⟨W0, hW0⟩ := W0e
      have Lw := Lib.hid (show w.heap.size < wr.heap.size by omega)
      have T0' := Lib.hid t0
      have T1' := Lib.hid t1
      clear T0 T1
      have T0 := T0'
      have T1 := T1'
      generalize joinL 44 (t.fields.map (fdB t.sort)) = js at *
      clear t0 t1 hr9 Hw
      go_wp2_with fail
      subst hW0
      refine wp_region_slots3 [47, 48, 49, 50, 51, 52, 53, 54, 55, 56, 57, 58, 2] (by kernel_rfl) (by kernel_rfl) (by kernel_rfl) (fun u => by dsimp only [frameOf, setMany, List.set, Nat.zero_add, Nat.reduceAdd])
        (fun ix v W => match ix with | 0 => v = .pointer (some ⟨w.heap.size, 0, none⟩) | 1 => v = .int .u8 (t.sort.toNat : Int) | 2 => ∃ g, v = .slice (some ⟨g, 0, none⟩) 1 1 | 3 => v = .string ⟨([t.sort] : List UInt8).toArray⟩ | 4 => v = .pointer (some ⟨w.heap.size, 1, none⟩) | 5 => v = .string ⟨(t.name : List UInt8).toArray⟩ | 6 => v = .string ⟨(t.sort :: t.name : List UInt8).toArray⟩ | 7 => v = .string ⟨(t.sort :: (t.name ++ [61]) : List UInt8).toArray⟩ | 8 => v = .slice A3 t.fields.length c3 | 9 => v = .string ⟨(js : List UInt8).toArray⟩ | 10 => v = .string ⟨(t.sort :: (t.name ++ 61 :: js) : List UInt8).toArray⟩ | 11 => v = .string ⟨(t.sort :: (t.name ++ 61 :: (js ++ [10])) : List UInt8).toArray⟩ | 12 => v = .string ⟨(t.sort :: (t.name ++ 61 :: (js ++ [10])) : List UInt8).toArray⟩ | _ => True)
        (fun L U W => Below W0.heap.size W0 W ∧ (L 2 = true → ∃ g, U 2 = .slice (some ⟨g, 0, none⟩) 1 1 ∧ g < W.heap.size ∧ W.cell? ⟨g, 0, none⟩ = some (.int .u8 (t.sort.toNat : Int)))) (fun _ _ => True) (fun _ _ _ _ _ h => h) (⟨(Below.refl _ _).drew, fun h => Bool.noConfusion h⟩) ?_ ?_
      · repeat (first | exact Steps.nil | (refine Steps.cons ?_ ?_; rotate_left))
        all_goals
          rintro L U W hL hpre hR hun hdep K hK
          have HR := Lib.hid hR
          obtain ⟨hB, R2⟩ := HR.out
          have a0 : W.cell? ⟨w.heap.size, 0, none⟩ = some (.int .u8 (t.sort.toNat : Int)) := (hB.cell (p := ⟨w.heap.size, 0, none⟩) Lw.out).trans T0.out
          have a1 : W.cell? ⟨w.heap.size, 1, none⟩ = some (.string ⟨t.name.toArray⟩) := (hB.cell (p := ⟨w.heap.size, 1, none⟩) Lw.out).trans T1.out
          clear hun hdep hR
          first | (simp [Region.binds] at hpre; done) | simp [Region.binds] at hpre | clear hpre
        iterate 2
          · go_simp
            first | exact hK _ _ _ rfl trivial HR.out rfl | exact hK _ _ _ rfl trivial HR.out (by simp [Act.put, hpre]) | exact hK undef _ _ trivial trivial HR.out (by simp [Act.put, hpre]) | exact hK _ _ _ trivial trivial HR.out rfl | exact hK _ _ _ trivial trivial HR.out (by simp [Act.put, hpre])
        · go_simp
          exact hK _ _ _ ⟨_, rfl⟩ trivial ⟨hB.alloc hB.size _, fun _ => ⟨W.heap.size, rfl, by simp, by simp⟩⟩ (by simp [Act.put, hpre])
        · have l2 : L 2 = true := by first | exact hpre.1 | exact hpre.2.1
          obtain ⟨g, u2, hg, hc⟩ := R2 l2
          have hcv := Tryz.conv1 W g 1 t.sort hc
          go_simp
          exact hK _ _ _ rfl trivial HR.out (by simp [Act.put, hpre, u2])
        iterate 2
          · go_simp
            first | exact hK _ _ _ rfl trivial HR.out rfl | exact hK _ _ _ rfl trivial HR.out (by simp [Act.put, hpre]) | exact hK undef _ _ trivial trivial HR.out (by simp [Act.put, hpre]) | exact hK _ _ _ trivial trivial HR.out rfl | exact hK _ _ _ trivial trivial HR.out (by simp [Act.put, hpre])
        · go_simp
          rw [if_neg (by first | omega | (simp; omega))]
          go_simp
          first | exact hK _ _ _ rfl trivial HR.out rfl | exact hK _ _ _ rfl trivial HR.out (by simp [Act.put, hpre])
        · go_simp
          rw [if_neg (by first | omega | (simp; omega))]
          go_simp
          first | exact hK _ _ _ rfl trivial HR.out rfl | exact hK _ _ _ rfl trivial HR.out (by simp [Act.put, hpre])
        · go_simp
          first | exact hK _ _ _ rfl trivial HR.out rfl | exact hK _ _ _ rfl trivial HR.out (by simp [Act.put, hpre]) | exact hK undef _ _ trivial trivial HR.out (by simp [Act.put, hpre]) | exact hK _ _ _ trivial trivial HR.out rfl | exact hK _ _ _ trivial trivial HR.out (by simp [Act.put, hpre])
        · go_simp
          refine (Hjoin.out W hB).mono ?_
          rintro e w5 ⟨rfl, rfl⟩
          exact hK _ _ _ rfl trivial HR.out (by simp [Act.put, hpre])
        · go_simp
          rw [if_neg (by first | omega | (simp; omega))]
          go_simp
          first | exact hK _ _ _ rfl trivial HR.out rfl | exact hK _ _ _ rfl trivial HR.out (by simp [Act.put, hpre])
        · go_simp
          rw [if_neg (by first | omega | (simp; omega))]
          go_simp
          first | exact hK _ _ _ rfl trivial HR.out rfl | exact hK _ _ _ rfl trivial HR.out (by simp [Act.put, hpre])
        · go_simp
          first | exact hK _ _ _ rfl trivial HR.out rfl | exact hK _ _ _ rfl trivial HR.out (by simp [Act.put, hpre]) | exact hK undef _ _ trivial trivial HR.out (by simp [Act.put, hpre]) | exact hK _ _ _ trivial trivial HR.out rfl | exact hK _ _ _ trivial trivial HR.out (by simp [Act.put, hpre])
      · rintro L U W hL hφ hR
        have e12 : U 12 = .string ⟨(t.sort :: (t.name ++ 61 :: (js ++ [10])) : List UInt8).toArray⟩ := hφ 12 (by decide)
        simp only [e12]
        clear hφ
        have Hb9 := Lib.hid (Hbw.out.trans (hR.1.mono Hbw.out.size))
        clear hL hR
        go_wp2_with fail
        go_ret
        exact ⟨by rw [HF.out]; rfl, Hb9.out⟩
theorem sOut_any (t : Ty) (fv : Value) (w : World) (hf : SFds w fv t.fields) (h8 : t.fields.length ≤ 8) (hnm : t.name.length ≤ 100) (hs : ∀ f ∈ t.fields, FShort t.sort f) :
    Calls Tryz.prog 79 #[styV t fv] w fun e w' => e = .returned (.string ⟨(tyB t ++ [10]).toArray⟩) ∧ Below w.heap.size w w' :=
  sOut20_any t fv w hf (by omega) hnm hs
end Go.Proofs.YtdhinlhafoiaiaaGreatDoor
