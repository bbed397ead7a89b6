/- Texts joined: SL7, SForm1, SForm2, SForm3, SForm4, SForm5, Build, IForm1. Conditions: as each theorem names them. -/
import Derived.Lib.Builder
import Derived.Lib.AppendStr
import Derived.Lib.UnsafeStr
import Derived.Lib.MakeNoZero
import Derived.Laws.Externs
import Derived.Laws.BitsLemmas
import Derived.RegionTactic
import Derived.Test.YtdhinlhafoiaiaaGreatDoorK01
import Derived.Test.YtdhinlhafoiaiaaGreatDoorK02
import Derived.Test.YtdhinlhafoiaiaaGreatDoorK03
import Derived.Test.YtdhinlhafoiaiaaGreatDoorK09
import Derived.Test.YtdhinlhafoiaiaaGreatDoorK13
import Derived.Test.YtdhinlhafoiaiaaGreatDoorK14
import Derived.Test.YtdhinlhafoiaiaaGreatDoorK17
import Derived.Test.YtdhinlhafoiaiaaGreatDoorK19
import Derived.Test.YtdhinlhafoiaiaaGreatDoorK20
/- Plain laws of forms: types named anew in the order of meeting; what is met is closed. No program in sight. -/
namespace Go.Proofs.YtdhinlhafoiaiaaGreatDoor
set_option linter.unusedVariables false

/-- The place of a name. -/
def placeN (ns : List Name) (n : Name) : Nat := ns.findIdx fun m => decide (m = n)
/-- A name anew: the letter a, and a letter by the place. -/
def newN (ns : List Name) (n : Name) : Name := [97, byteOf (97 + placeN ns n)]
def formK (ns : List Name) (k : Kd) : Kd := if k.base = [64] then { k with name := newN ns k.name } else k
def formF (ns : List Name) (st : UInt8) (f : Fd) : Fd := if st = 69 then f else { f with kind := formK ns f.kind }
def formY (ns : List Name) (t : Ty) : Ty := { t with name := newN ns t.name, fields := t.fields.map (formF ns t.sort) }
/-- The types of names, named anew. -/
def formS (S : List Ty) (ns : List Name) : List Ty := ns.filterMap fun n => (findTy S n).map (formY ns)

theorem placeN_lt {ns : List Name} {n : Name} (h : n ∈ ns) : placeN ns n < ns.length := by
  unfold placeN
  exact List.findIdx_lt_length_of_exists ⟨n, h, by simp⟩
theorem placeN_le (ns : List Name) (n : Name) : placeN ns n ≤ ns.length := List.findIdx_le_length
/-- Looking from the front. -/
theorem placeN_at {ns : List Name} {i : Nat} (hi : i < ns.length) (hn : ∀ j, (hj : j < i) → ns[j]'(by omega) ≠ ns[i]) : placeN ns ns[i] = i := by
  unfold placeN
  rw [List.findIdx_eq hi]
  exact ⟨by simp, fun j hj => by simpa using hn j hj⟩
theorem placeN_nodup {ns : List Name} (h : ns.Nodup) {i : Nat} (hi : i < ns.length) : placeN ns ns[i] = i :=
  placeN_at hi (fun j hj e => by
    have := (List.nodup_iff_pairwise_ne.1 h)
    rw [List.pairwise_iff_getElem] at this
    exact this j i (by omega) hi hj e)

/-! ### what is met is closed -/
/-- Each name in a type that was met is met. -/
def Closed (S : List Ty) (out : List Name) (k : Kd) : Prop := k.base = [64] → k.name ∈ out
def ClosedT (S : List Ty) (out : List Name) (t : Ty) : Prop := t.sort ≠ 69 → ∀ f ∈ t.fields, Closed S out f.kind
theorem metN_sub (S : List Ty) : ∀ (n : Nat) (k : Kd) (out : List Name), ∀ x ∈ out, x ∈ metN S n k out
  | 0, _, _, x, hx => hx
  | n + 1, k, out, x, hx => by
    unfold metN
    split
    · split
      · simp [hx]
      · rename_i t _
        split
        · simp [hx]
        · have : ∀ (fs : List Fd) (o : List Name), x ∈ o → x ∈ fs.foldl (fun o f => metN S n f.kind o) o := by
            intro fs
            induction fs with
            | nil => intro o h; exact h
            | cons f fs ih => intro o h; exact ih _ (metN_sub S n f.kind o x h)
          exact this _ _ (by simp [hx])
    · exact hx
/-- Where the names that are still open are known: behind meeting, all that was not open before is closed. -/
theorem metN_closed {S : List Ty} (hS : kindsOk S) : ∀ (n : Nat) (k : Kd) (out : List Name), refOk S k → Mets S out → S.length < n + out.length →
    Closed S (metN S n k out) k ∧ ∀ x ∈ metN S n k out, x ∉ out → ∀ t, findTy S x = some t → ClosedT S (metN S n k out) t
  | 0, k, out, _, hm, hn => by have := hm.len; omega
  | n + 1, k, out, hr, hm, hn => by
    by_cases hc : k.base = [64] ∧ k.name ∉ out
    · have h1 := hr hc.1
      cases hf : findTy S k.name with
      | none => rw [hf] at h1; cases h1
      | some t =>
        have htm := findTy_some hf
        have hm1 := hm.snoc (findTy_isSome.1 h1) hc.2
        by_cases h69 : t.sort = 69
        · have e : metN S (n + 1) k out = out ++ [k.name] := by rw [metN, if_pos hc, hf]; exact if_pos h69
          rw [e]
          refine ⟨fun _ => by simp, fun x hx hxo t' ht' => ?_⟩
          rcases List.mem_append.1 hx with hx | hx
          · exact absurd hx hxo
          · simp at hx; subst hx; rw [hf] at ht'; injection ht' with ht'; subst ht'; exact fun h => absurd h69 h
        · have e : metN S (n + 1) k out = t.fields.foldl (fun o f => metN S n f.kind o) (out ++ [k.name]) := by rw [metN, if_pos hc, hf]; exact if_neg h69
          -- along the fields
          have key : ∀ (fs : List Fd), (∀ f ∈ fs, refOk S f.kind) → ∀ (o : List Name), Mets S o → S.length < n + o.length →
              (∀ x ∈ o, x ∈ fs.foldl (fun o f => metN S n f.kind o) o) ∧ (∀ f ∈ fs, Closed S (fs.foldl (fun o f => metN S n f.kind o) o) f.kind) ∧
              ∀ x ∈ fs.foldl (fun o f => metN S n f.kind o) o, x ∉ o → ∀ t, findTy S x = some t → ClosedT S (fs.foldl (fun o f => metN S n f.kind o) o) t := by
            intro fs
            induction fs with
            | nil => intro _ o _ _; exact ⟨fun x hx => hx, (fun f hf => by cases hf), fun x hx hxo => absurd hx hxo⟩
            | cons f fs ih =>
              intro hfr o hmo hno
              obtain ⟨c1, c2⟩ := metN_closed hS n f.kind o (hfr f (by simp)) hmo hno
              obtain ⟨m1, l, hl⟩ := metN_mets hS n f.kind o (hfr f (by simp)) hmo
              obtain ⟨i1, i2, i3⟩ := ih (fun g hg => hfr g (by simp [hg])) (metN S n f.kind o) m1 (by rw [hl, List.length_append]; omega)
              simp only [List.foldl_cons]
              refine ⟨fun x hx => i1 x (metN_sub S n f.kind o x hx), fun g hg => ?_, fun x hx hxo t' ht' => ?_⟩
              · rcases List.mem_cons.1 hg with rfl | hg
                · exact fun hb => i1 _ (c1 hb)
                · exact i2 g hg
              · by_cases hxm : x ∈ metN S n f.kind o
                · exact fun hs g hg hb => i1 _ (c2 x hxm hxo t' ht' hs g hg hb)
                · exact i3 x hx hxm t' ht'
          have hk := key t.fields (fun f hf' => hS t htm.1 h69 f hf') (out ++ [k.name]) hm1 (by rw [List.length_append]; simp; omega)
          rw [e]
          refine ⟨fun _ => hk.1 _ (by simp), fun x hx hxo t' ht' => ?_⟩
          by_cases hxk : x = k.name
          · subst hxk
            rw [hf] at ht'; injection ht' with ht'; subst ht'
            exact fun _ f hf' => hk.2.1 f hf'
          · exact hk.2.2 x hx (by simp [hxo, hxk]) t' ht'
    · have e : metN S (n + 1) k out = out := by rw [metN, if_neg hc]
      rw [e]
      refine ⟨fun hb => ?_, fun x hx hxo => absurd hx hxo⟩
      by_cases hk : k.name ∈ out
      · exact hk
      · exact absurd ⟨hb, hk⟩ hc
theorem metL_closed {S : List Ty} (hS : kindsOk S) (h8 : S.length ≤ 8) {k : Kd} (hr : refOk S k) : Closed S (metL S k) k ∧ ∀ x ∈ metL S k, ∀ t, findTy S x = some t → ClosedT S (metL S k) t := by
  obtain ⟨h1, h2⟩ := metN_closed hS 9 k [] hr (Mets.nil S) (by simp; omega)
  exact ⟨h1, fun x hx => h2 x hx (by simp)⟩
end Go.Proofs.YtdhinlhafoiaiaaGreatDoor
/- The reference's forms: the place of a name, a name anew, a kind anew. -/
namespace Go.Proofs.YtdhinlhafoiaiaaGreatDoor
open Go.RowKit
set_option maxRecDepth 100000
set_option linter.unusedVariables false
set_option linter.unusedSimpArgs false
attribute [local go_sem] ba_get ba_toList ba_extract take_drop_all ByteArray.mk_append_mk

/-- Where a name is, or -1. -/
def placeI (ns : List Name) (n : Name) : Int := if n ∈ ns then (placeN ns n : Int) else -1
set_option maxHeartbeats 1000000 in
theorem sAt_any (fb : Nat) (A : Option Addr) (c : Nat) (ns : List Name) (n : Name) (w : World) (h1 : w.cell? ⟨fb, 1, none⟩ = some (.slice A ns.length c)) (hr : RowAt w A ns.length (scells ns)) (hl : ns.length ≤ 100) :
    Calls Tryz.prog 104 #[.pointer (some ⟨fb, 0, none⟩), .string ⟨n.toArray⟩] w fun e w' => e = .returned (.int .i64 (placeI ns n)) ∧ w = w' := by
  have Hr := Lib.hid hr
  clear hr
  go_enter Tryz.func104, Tryz.ntmps104
  go_wp2_with fail
  go_loop [5] (fun i => ∃ k : Nat, i = .int .i64 k ∧ k ≤ ns.length ∧ Hid (∀ j, (hj : j < k) → (hn : j < ns.length) → ns[j] ≠ n)) (fun i => ns.length - (intOf i).toNat)
  case atStart => exact ⟨0, rfl, Nat.zero_le _, fun j hj => by omega⟩
  case round =>
    obtain ⟨k, rfl, hk, hin⟩ := hrel
    have k1 : (0 : Int) ≤ (k : Int) := by omega
    by_cases hlt : k < ns.length
    · have k2 : (k : Int) < (ns.length : Int) := by omega
      obtain ⟨b, off, rfl, hb, hc⟩ := Hr.out.at_ hlt
      have c0 : w.cell? ⟨b, off + k, none⟩ = some (.string ⟨ns[k].toArray⟩) := by rw [hc]; simp [scells]
      have Hx : Hid (ns[k] = ns[k]) := rfl
      by_cases he : ns[k] = n
      · have Hfin := Lib.hid (show placeI ns n = (k : Int) from by
          unfold placeI
          rw [if_pos (by rw [← he]; exact List.getElem_mem hlt), ← he, placeN_at hlt (fun j hj => by rw [he]; exact hin.out j hj (by omega))])
        have t1 : (ns[k] == n) = true := by simp [he]
        generalize ns[k] = x at c0 t1
        clear he hc
        go_wp2_with fail
        go_ret
        exact ⟨by rw [Hfin.out]; rfl, rfl⟩
      · have t1 : (ns[k] == n) = false := by simpa using he
        have Hin := Lib.hid (show ∀ j, (hj : j < k + 1) → (hn : j < ns.length) → ns[j] ≠ n from fun j hj hn => by
          rcases Nat.lt_or_ge j k with h | h
          · exact hin.out j h hn
          · obtain rfl : j = k := by omega
            exact he)
        generalize ns[k] = x at c0 t1
        clear he hc
        go_wp2_with fail
        go_round
        case rel => exact ⟨k + 1, by go_num, by omega, Hin.out⟩
        case measure => simp [intOf]; omega
    · have Hfin := Lib.hid (show placeI ns n = -1 from if_neg (fun h => by
        obtain ⟨j, hj, e⟩ := List.mem_iff_getElem.1 h
        exact hin.out j (by omega) hj e))
      go_wp2_with fail
      go_ret
      exact ⟨by rw [Hfin.out]; rfl, rfl⟩

set_option maxHeartbeats 1000000 in
theorem sName_any (fb : Nat) (A : Option Addr) (c : Nat) (ns : List Name) (n : Name) (w : World) (h1 : w.cell? ⟨fb, 1, none⟩ = some (.slice A ns.length c)) (hr : RowAt w A ns.length (scells ns)) (hl : ns.length ≤ 8) (hn : n ∈ ns) :
    Calls Tryz.prog 77 #[.pointer (some ⟨fb, 0, none⟩), .string ⟨n.toArray⟩] w fun e w' => e = .returned (.string ⟨(newN ns n).toArray⟩) ∧ Below w.heap.size w w' := by
  have Ha := Lib.hid (sAt_any fb A c ns n w h1 hr (by omega))
  have hp := placeN_lt hn
  have HF : Hid (newN ns n = [97, byteOf (97 + placeN ns n)]) := rfl
  have e : placeI ns n = (placeN ns n : Int) := if_pos hn
  rw [e] at Ha
  generalize placeN ns n = p at *
  have hcv := fun W => Tryz.conv1 W w.heap.size 1 (byteOf (97 + p))
  rw [byteOf_toNat (by omega)] at hcv
  have hu : IntKind.u8.wrap (97 + (p : Int)) = ((97 + p : Nat) : Int) := by rw [IntWalk.u8_in _ (by omega)]; omega
  clear e
  go_enter Tryz.func77, Tryz.ntmps77
  go_wp2_with fail
  refine Ha.out.mono ?_
  rintro e w1 ⟨rfl, rfl⟩
  go_wp2_with fail
  go_ret
  exact ⟨by rw [HF.out]; rfl, (Below.refl _ _).alloc (Nat.le_refl _) _⟩

set_option maxHeartbeats 1000000 in
theorem sFKind_any (fb : Nat) (A : Option Addr) (c : Nat) (ns : List Name) (k : Kd) (w : World) (h1 : w.cell? ⟨fb, 1, none⟩ = some (.slice A ns.length c)) (hr : RowAt w A ns.length (scells ns)) (hl : ns.length ≤ 8) (hk : kdOk k) (hn : k.base = [64] → k.name ∈ ns) (hfb : fb < w.heap.size) :
    Calls Tryz.prog 78 #[.pointer (some ⟨fb, 0, none⟩), .string ⟨(kdB k).toArray⟩] w fun e w' => e = .returned (.string ⟨(kdB (formK ns k)).toArray⟩) ∧ Below w.heap.size w w' := by
  have Hca := Lib.hid (fun W => l2CoreK_any k hk W)
  have Hrc := Lib.hid (fun W => l2RefCore_any k hk W)
  by_cases hb : k.base = [64]
  · have Hir := Lib.hid (show isRef k = true by simp [isRef, hb])
    have Hnm0 := Lib.hid (show refNm k = k.name by simp [refNm, hb])
    have HF := Lib.hid (show kdB (formK ns k) = k.signs ++ 64 :: (newN ns k.name ++ [59]) from by unfold formK kdB coreB; rw [if_pos hb]; simp [hb])
    have hnl := (nameOk_iff.1 (by rcases hk.2.1 with h | h; exact h.2; exact absurd h.1 (by rw [hb]; decide) : nameOk k.name = true)).2.1
    have hsl : k.signs.length ≤ 12 := by have := hk.2.2; unfold kdB at this; simp at this; omega
    have Hnm := Lib.hid (fun W (h : Below w.heap.size w W) => sName_any fb A c ns k.name W ((h.cell (p := ⟨fb, 1, none⟩) hfb).trans h1) (hr.below h) hl (hn hb))
    have hn2 : (newN ns k.name).length = 2 := rfl
    have ek : kdB k = k.signs ++ (64 :: (k.name ++ [59])) := by unfold kdB coreB; rw [if_pos hb]
    have ec : coreB k = 64 :: (k.name ++ [59]) := if_pos hb
    rw [Hir.out, Hnm0.out] at Hrc
    rw [ek] at Hca ⊢
    rw [ec] at Hca Hrc
    have hw1 : IntKind.i64.wrap (k.signs.length : Int) = k.signs.length := IntWalk.i64_in _ ⟨by omega, by omega⟩
    clear hb ek ec hk hn h1 hr
    go_enter Tryz.func78, Tryz.ntmps78
    go_wp2_with fail
    refine (Hca.out _).mono ?_
    rintro e w1 ⟨rfl, rfl⟩
    go_wp2_with fail
    refine (Hrc.out _).mono ?_
    rintro e w1 ⟨rfl, rfl⟩
    go_wp2_with fail
    refine wp_region_slots3 [18, 19, 20, 21, 22, 23, 24, 25, 26, 27, 28, 29, 30, 4] (by kernel_rfl) (by kernel_rfl) (by kernel_rfl) (fun u => by dsimp only [frameOf, setMany, List.set, Nat.zero_add, Nat.reduceAdd])
      (fun ix v W => match ix with | 0 => v = .string ⟨(k.signs ++ (64 :: (k.name ++ [59])) : List UInt8).toArray⟩ | 1 => v = .string ⟨(k.signs ++ (64 :: (k.name ++ [59])) : List UInt8).toArray⟩ | 2 => v = .int .i64 ((k.signs.length : Int) + ((k.name.length : Int) + 1 + 1)) | 3 => v = .string ⟨(64 :: (k.name ++ [59]) : List UInt8).toArray⟩ | 4 => v = .int .i64 ((k.name.length : Int) + 1 + 1) | 5 => v = .int .i64 (k.signs.length : Int) | 6 => v = .string ⟨k.signs.toArray⟩ | 7 => v = .string ⟨(k.signs ++ [64] : List UInt8).toArray⟩ | 8 => v = .pointer (some ⟨fb, 0, none⟩) | 9 => v = .string ⟨k.name.toArray⟩ | 10 => v = .string ⟨(newN ns k.name : List UInt8).toArray⟩ | 11 => v = .string ⟨(k.signs ++ 64 :: newN ns k.name : List UInt8).toArray⟩ | 12 => v = .string ⟨(k.signs ++ 64 :: (newN ns k.name ++ [59]) : List UInt8).toArray⟩ | 13 => v = .string ⟨(k.signs ++ 64 :: (newN ns k.name ++ [59]) : List UInt8).toArray⟩ | _ => True)
      (fun L U W => Below w.heap.size w W) (fun _ _ => True) (fun _ _ _ _ _ h => h) ((Below.refl _ _).drew) ?_ ?_
    · repeat (first | exact Steps.nil | (refine Steps.cons ?_ ?_; rotate_left))
      all_goals
        rintro L U W hL hpre hR hun hdep K hK
        have HR := Lib.hid hR
        have hB := HR.out
        clear hun hdep hR
        first | (simp [Region.binds] at hpre; done) | simp [Region.binds] at hpre | clear hpre
      iterate 6
        · go_simp
          first | exact hK _ _ _ rfl trivial HR.out rfl | exact hK _ _ _ rfl trivial HR.out (by simp [Act.put, hpre, hw1]) | exact hK undef _ _ trivial trivial HR.out (by simp [Act.put, hpre, hw1]) | exact hK _ _ _ trivial trivial HR.out rfl | exact hK _ _ _ trivial trivial HR.out (by simp [Act.put, hpre, hw1])
      · go_simp
        rw [if_pos (by omega)]
        go_simp
        first | exact hK _ _ _ rfl trivial HR.out rfl | exact hK _ _ _ rfl trivial HR.out (by simp [Act.put, hpre])
      · go_simp
        rw [if_neg (by first | omega | (simp; omega))]
        go_simp
        first | exact hK _ _ _ rfl trivial HR.out rfl | exact hK _ _ _ rfl trivial HR.out (by simp [Act.put, hpre])
      iterate 2
        · go_simp
          first | exact hK _ _ _ rfl trivial HR.out rfl | exact hK _ _ _ rfl trivial HR.out (by simp [Act.put, hpre, hw1]) | exact hK undef _ _ trivial trivial HR.out (by simp [Act.put, hpre, hw1]) | exact hK _ _ _ trivial trivial HR.out rfl | exact hK _ _ _ trivial trivial HR.out (by simp [Act.put, hpre, hw1])
      · go_simp
        refine (Hnm.out W hB).mono ?_
        rintro e w5 ⟨rfl, hb5⟩
        exact hK _ _ _ rfl trivial (hB.trans (hb5.mono hB.size)) (by simp [Act.put, hpre])
      · go_simp
        rw [if_neg (by first | omega | (simp; omega))]
        go_simp
        first | exact hK _ _ _ rfl trivial HR.out rfl | exact hK _ _ _ rfl trivial HR.out (by simp [Act.put, hpre])
      · go_simp
        rw [if_neg (by first | omega | (simp; omega))]
        go_simp
        first | exact hK _ _ _ rfl trivial HR.out rfl | exact hK _ _ _ rfl trivial HR.out (by simp [Act.put, hpre])
      · go_simp
        first | exact hK _ _ _ rfl trivial HR.out rfl | exact hK _ _ _ rfl trivial HR.out (by simp [Act.put, hpre, hw1]) | exact hK undef _ _ trivial trivial HR.out (by simp [Act.put, hpre, hw1]) | exact hK _ _ _ trivial trivial HR.out rfl | exact hK _ _ _ trivial trivial HR.out (by simp [Act.put, hpre, hw1])
    · rintro L U W hL hφ hR
      have e13 : U 13 = .string ⟨(k.signs ++ 64 :: (newN ns k.name ++ [59]) : List UInt8).toArray⟩ := hφ 13 (by decide)
      simp only [e13]
      clear hφ
      have Hb := Lib.hid hR
      clear hL hR
      go_wp2_with fail
      go_ret
      exact ⟨by rw [HF.out]; rfl, Hb.out⟩
  · have Hir := Lib.hid (show isRef k = false by simp [isRef, hb])
    have HF := Lib.hid (show kdB (formK ns k) = kdB k from by unfold formK; rw [if_neg hb])
    rw [Hir.out] at Hrc
    generalize kdB k = kk at *
    clear hb hn
    go_enter Tryz.func78, Tryz.ntmps78
    go_wp2_with fail
    refine (Hca.out _).mono ?_
    rintro e w1 ⟨rfl, rfl⟩
    go_wp2_with fail
    refine (Hrc.out _).mono ?_
    rintro e w1 ⟨rfl, rfl⟩
    go_wp2_with fail
    go_ret
    exact ⟨by rw [HF.out]; rfl, Below.refl _ _⟩
end Go.Proofs.YtdhinlhafoiaiaaGreatDoor
/- The reference's texts of types: joined parts; the text of a type. -/
namespace Go.Proofs.YtdhinlhafoiaiaaGreatDoor
open Go.RowKit
set_option maxRecDepth 100000
set_option linter.unusedVariables false
set_option linter.unusedSimpArgs false
attribute [local go_sem] ba_get ba_toList ba_extract take_drop_all ByteArray.mk_append_mk

theorem joinL_snoc (c : UInt8) (p : List UInt8) : ∀ (l : List (List UInt8)), joinL c (l ++ [p]) = if l = [] then p else joinL c l ++ c :: p
  | [] => rfl
  | [q] => rfl
  | q :: r :: l => by
    have ih := joinL_snoc c p (r :: l)
    rw [if_neg (by simp)] at ih ⊢
    rw [List.cons_append, joinL_cons c q (by simp), ih, joinL_cons c q (by simp)]
    simp
theorem joinL_len (c : UInt8) (m : Nat) : ∀ (l : List (List UInt8)), (∀ p ∈ l, p.length ≤ m) → (joinL c l).length ≤ l.length * (m + 1)
  | [], _ => by simp [joinL]
  | [q], h => by have := h q (by simp); simp [joinL]; omega
  | q :: r :: l, h => by
    have h1 := h q (by simp)
    have h2 := joinL_len c m (r :: l) (fun p hp => h p (by simp [hp]))
    rw [joinL_cons c q (by simp), List.length_append, List.length_cons, List.length_cons, Nat.add_mul]
    omega

set_option maxHeartbeats 1000000 in
theorem sJoin_any (A : Option Addr) (c : Nat) (ps : List (List UInt8)) (w : World) (hr : RowAt w A ps.length (scells ps)) (hl : ps.length ≤ 100) (hp : ∀ p ∈ ps, p.length ≤ 10000) :
    Calls Tryz.prog 106 #[.slice A ps.length c] w fun e w' => e = .returned (.string ⟨(joinL 44 ps).toArray⟩) ∧ w = w' := by
  have Hr := Lib.hid hr
  have Hp := Lib.hid hp
  clear hr hp
  go_enter Tryz.func106, Tryz.ntmps106
  go_wp2_with fail
  go_loop [4, 3] (fun i s => ∃ k : Nat, i = .int .i64 k ∧ k ≤ ps.length ∧ s = .string ⟨(joinL 44 (ps.take k)).toArray⟩) (fun i _ => ps.length - (intOf i).toNat)
  case atStart => exact ⟨0, rfl, Nat.zero_le _, rfl⟩
  case round =>
    obtain ⟨k, rfl, hk, rfl⟩ := hrel
    have k1 : (0 : Int) ≤ (k : Int) := by omega
    have hjl := joinL_len 44 10000 (ps.take k) (fun p hp => Hp.out p (List.mem_of_mem_take hp))
    rw [List.length_take, Nat.min_eq_left hk] at hjl
    by_cases hlt : k < ps.length
    · have k2 : (k : Int) < (ps.length : Int) := by omega
      obtain ⟨b, off, rfl, hb, hc⟩ := Hr.out.at_ hlt
      have c0 : w.cell? ⟨b, off + k, none⟩ = some (.string ⟨ps[k].toArray⟩) := by rw [hc]; simp [scells]
      have Hsn := Lib.hid (show joinL 44 (ps.take (k + 1)) = if ps.take k = [] then ps[k] else joinL 44 (ps.take k) ++ 44 :: ps[k] from by rw [take_snoc ps k hlt]; exact joinL_snoc 44 ps[k] (ps.take k))
      have hpl := Hp.out _ (List.getElem_mem hlt)
      have He : Hid (ps.take k = [] ↔ k = 0) := by
        constructor
        · intro h
          have := congrArg List.length h
          rw [List.length_take, Nat.min_eq_left hk] at this
          simpa using this
        · rintro rfl; rfl
      generalize ps[k] = p at c0 Hsn hpl
      clear hc
      by_cases h0 : k = 0
      · have h0i : ¬ (0 : Int) < (k : Int) := by omega
        have Hs2 := Lib.hid (Hsn.out.trans (if_pos (He.out.2 h0)))
        have hj0 : joinL 44 (ps.take k) = [] := by rw [He.out.2 h0]; rfl
        rw [hj0]
        clear h0 hjl hj0
        go_wp2_with fail
        go_round
        case rel => exact ⟨k + 1, by go_num, by omega, by rw [Hs2.out]⟩
        case measure => simp [intOf]; omega
      · have h0i : (0 : Int) < (k : Int) := by omega
        have Hs2 := Lib.hid (Hsn.out.trans (if_neg (fun h => h0 (He.out.1 h))))
        generalize joinL 44 (ps.take k) = js at *
        clear h0
        go_wp2_with fail
        go_round
        case rel => exact ⟨k + 1, by go_num, by omega, by rw [Hs2.out]⟩
        case measure => simp [intOf]; omega
    · obtain rfl : k = ps.length := by omega
      have Hfin : Hid (ps.take ps.length = ps) := List.take_length
      go_wp2_with fail
      go_ret
      exact ⟨by first | rfl | rw [Hfin.out], rfl⟩
/-- What the text of a type asks of its fields. -/
def FShort (st : UInt8) (f : Fd) : Prop := f.tag ≤ 200 ∧ f.name.length ≤ 100 ∧ (kdB f.kind).length ≤ 100 ∧ f.given.length ≤ 100 ∧ (st = 69 → f.given = [])
theorem fdB_len {st : UInt8} {f : Fd} (h : FShort st f) : (fdB st f).length ≤ 400 := by
  obtain ⟨h1, h2, h3, h4, _⟩ := h
  have hd := decB_len 2 f.tag (by have e : 10 ^ (2 + 1) = 1000 := rfl; omega)
  unfold fdB tailB
  split
  · simp; omega
  · split
    · simp; omega
    · simp; omega
set_option maxHeartbeats 4000000 in
theorem sOut_any (t : Ty) (fv : Value) (w : World) (hf : SFds w fv t.fields) (h8 : t.fields.length ≤ 8) (hnm : t.name.length ≤ 100) (hs : ∀ f ∈ t.fields, FShort t.sort f) :
    Calls Tryz.prog 79 #[styV t fv] w fun e w' => e = .returned (.string ⟨(tyB t ++ [10]).toArray⟩) ∧ Below w.heap.size w w' := by
  obtain ⟨A, c, rfl, _, hrow⟩ := hf
  have Hrow := Lib.hid hrow
  have Hs := Lib.hid hs
  have HF : Hid (tyB t ++ [10] = t.sort :: (t.name ++ 61 :: (joinL 44 (t.fields.map (fdB t.sort)) ++ [10]))) := by unfold tyB Hid; simp
  have hcl := t.sort.toNat_lt
  unfold styV
  clear hrow hs
  go_enter Tryz.func79, Tryz.ntmps79
  go_wp2_with fail
  obtain ⟨w2, hw2⟩ : ∃ w2, w2 = (w.alloc (.cells #[.int .u8 (t.sort.toNat : Int), .string ⟨t.name.toArray⟩, .slice A t.fields.length c] 86)).alloc (.cells #[] 9) := ⟨_, rfl⟩
  rw [← hw2]
  have T0 := Lib.hid (show w2.cell? ⟨w.heap.size, 0, none⟩ = some (.int .u8 (t.sort.toNat : Int)) from by rw [hw2]; simp [go_sem])
  have T1 := Lib.hid (show w2.cell? ⟨w.heap.size, 1, none⟩ = some (.string ⟨t.name.toArray⟩) from by rw [hw2]; simp [go_sem])
  have T2 := Lib.hid (show w2.cell? ⟨w.heap.size, 2, none⟩ = some (.slice A t.fields.length c) from by rw [hw2]; simp [go_sem])
  have Hb2 := Lib.hid (show Below w.heap.size w w2 from by rw [hw2]; exact ((Below.refl _ _).alloc (Nat.le_refl _) _).alloc (by simp) _)
  have hz2 : w2.heap.size = w.heap.size + 2 := by rw [hw2]; simp
  have Hown2 := Lib.hid (show w2.ownsRow (w.heap.size + 1) 9 1 (.slice (some ⟨w.heap.size + 1, 0, none⟩) 0 0) 0 [] from ⟨rfl, .inr ⟨w.heap.size + 1, 0, #[], rfl, Nat.le_refl _, by rw [hw2]; have := heap_alloc_new (w.alloc (.cells #[.int .u8 (t.sort.toNat : Int), .string ⟨t.name.toArray⟩, .slice A t.fields.length c] 86)) (.cells #[] 9); simpa using this, Nat.le_refl _, Nat.zero_le _, rfl, rfl⟩⟩)
  clear hw2
  go_loopw [4, 3] (fun i lv wr => ∃ k : Nat, i = .int .i64 k ∧ k ≤ t.fields.length ∧ Hid (wr.ownsRow (w.heap.size + 1) 9 1 lv k (scells ((t.fields.take k).map (fdB t.sort)))) ∧ Hid (Below (w.heap.size + 1) w2 wr)) (fun i _ _ => t.fields.length - (intOf i).toNat)
  case atStart => exact ⟨0, rfl, Nat.zero_le _, Hown2.out, Below.refl _ _⟩
  case round =>
    obtain ⟨k, rfl, hk, hown, hbr⟩ := hrel
    have k1 : (0 : Int) ≤ (k : Int) := by omega
    have hzr : w2.heap.size ≤ wr.heap.size := hbr.out.size
    have t0 : wr.cell? ⟨w.heap.size, 0, none⟩ = some (.int .u8 (t.sort.toNat : Int)) := (hbr.out.cell (p := ⟨w.heap.size, 0, none⟩) (Nat.lt_succ_self _)).trans T0.out
    have t1 : wr.cell? ⟨w.heap.size, 1, none⟩ = some (.string ⟨t.name.toArray⟩) := (hbr.out.cell (p := ⟨w.heap.size, 1, none⟩) (Nat.lt_succ_self _)).trans T1.out
    have t2 : wr.cell? ⟨w.heap.size, 2, none⟩ = some (.slice A t.fields.length c) := (hbr.out.cell (p := ⟨w.heap.size, 2, none⟩) (Nat.lt_succ_self _)).trans T2.out
    have Hbw := Lib.hid (show Below w.heap.size w wr from Hb2.out.trans (hbr.out.mono (by omega)))
    obtain ⟨A3, n3, c3, hlv⟩ := own_slice hown.out
    subst hlv
    by_cases hlt : k < t.fields.length
    · have k2 : (k : Int) < (t.fields.length : Int) := by omega
      obtain ⟨b, off, rfl, hbl, g0, g1, g2, g3⟩ := SFds.at_ (Hrow.out.below Hbw.out) hlt
      have Hts := Lib.hid (take_snoc t.fields k hlt)
      have Hfs := Lib.hid (Hs.out _ (List.getElem_mem hlt))
      generalize t.fields[k] = f at g0 g1 g2 g3 Hts Hfs
      obtain ⟨f1, f2, f3, f4, f5⟩ := Hfs.out
      have Hf5 := Lib.hid f5
      have hdl := decB_len 2 f.tag (by have e : 10 ^ (2 + 1) = 1000 := rfl; omega)
      have Hd := Lib.hid (fun W => l6Dec_any f.tag f.tag W (Nat.le_refl _) (by omega))
      have hbn : ¬ (b = wr.heap.size) := by omega
      clear f5
      go_wp2_with fail
      obtain ⟨W5, hW5⟩ : ∃ W5, W5 = wr.alloc (.cells #[.int .i64 (f.tag : Int), .string ⟨f.name.toArray⟩, .string ⟨(kdB f.kind).toArray⟩, .string ⟨f.given.toArray⟩] 120) := ⟨_, rfl⟩
      rw [← hW5]
      have hb5 : Below wr.heap.size wr W5 := by rw [hW5]; exact (Below.refl _ _).alloc (Nat.le_refl _) _
      have F0 := Lib.hid (show W5.cell? ⟨wr.heap.size, 0, none⟩ = some (.int .i64 (f.tag : Int)) from by rw [hW5]; simp)
      have F1 := Lib.hid (show W5.cell? ⟨wr.heap.size, 1, none⟩ = some (.string ⟨f.name.toArray⟩) from by rw [hW5]; simp)
      have F2 := Lib.hid (show W5.cell? ⟨wr.heap.size, 2, none⟩ = some (.string ⟨(kdB f.kind).toArray⟩) from by rw [hW5]; simp)
      have F3 := Lib.hid (show W5.cell? ⟨wr.heap.size, 3, none⟩ = some (.string ⟨f.given.toArray⟩) from by rw [hW5]; simp)
      have L5 := Lib.hid (show wr.heap.size < W5.heap.size from by rw [hW5]; simp)
      have Hb5 := Lib.hid (show Below (w.heap.size + 1) w2 W5 from hbr.out.trans (hb5.mono (by omega)))
      have Hown5 := Lib.hid (ownsRow_below hown.out hb5)
      have h5w : w.heap.size + 1 < wr.heap.size := by omega
      generalize wr.heap.size = B5 at *
      clear hW5 hb5 g0 g1 g2 g3 t0 t1 t2
      refine wp_region_slots3 [20, 21, 22, 23, 24, 25, 26, 6] (by kernel_rfl) (by kernel_rfl) (by kernel_rfl) (fun u => by dsimp only [frameOf, setMany, List.set, Nat.zero_add, Nat.reduceAdd])
        (fun ix v W => match ix with | 0 => v = .pointer (some ⟨B5, 0, none⟩) | 1 => v = .int .i64 (f.tag : Int) | 2 => v = .string ⟨(decB f.tag : List UInt8).toArray⟩ | 3 => v = .string ⟨(decB f.tag ++ [58] : List UInt8).toArray⟩ | 4 => v = .pointer (some ⟨B5, 1, none⟩) | 5 => v = .string ⟨(f.name : List UInt8).toArray⟩ | 6 => v = .string ⟨(decB f.tag ++ 58 :: f.name : List UInt8).toArray⟩ | 7 => v = .string ⟨(decB f.tag ++ 58 :: f.name : List UInt8).toArray⟩ | _ => True)
        (fun L U W => Below W5.heap.size W5 W) (fun _ _ => True) (fun _ _ _ _ _ h => h) ((Below.refl _ _).drew) ?_ ?_
      · repeat (first | exact Steps.nil | (refine Steps.cons ?_ ?_; rotate_left))
        all_goals
          rintro L U W hL hpre hR hun hdep K hK
          have HR := Lib.hid hR
          have hB := HR.out
          have a0 : W.cell? ⟨B5, 0, none⟩ = some (.int .i64 (f.tag : Int)) := (hB.cell (p := ⟨B5, 0, none⟩) L5.out).trans F0.out
          have a1 : W.cell? ⟨B5, 1, none⟩ = some (.string ⟨f.name.toArray⟩) := (hB.cell (p := ⟨B5, 1, none⟩) L5.out).trans F1.out
          clear hun hdep hR
          first | (simp [Region.binds] at hpre; done) | simp [Region.binds] at hpre | clear hpre
        iterate 2
          · go_simp
            first | exact hK _ _ _ rfl trivial HR.out rfl | exact hK _ _ _ rfl trivial HR.out (by simp [Act.put, hpre]) | exact hK undef _ _ trivial trivial HR.out (by simp [Act.put, hpre]) | exact hK _ _ _ trivial trivial HR.out rfl | exact hK _ _ _ trivial trivial HR.out (by simp [Act.put, hpre])
        · go_simp
          refine (Hd.out W).mono ?_
          rintro e w5 ⟨rfl, hb5⟩
          exact hK _ _ _ rfl trivial (hB.trans (hb5.mono hB.size)) (by simp [Act.put, hpre])
        · go_simp
          rw [if_neg (by first | omega | (simp; omega))]
          go_simp
          first | exact hK _ _ _ rfl trivial HR.out rfl | exact hK _ _ _ rfl trivial HR.out (by simp [Act.put, hpre])
        iterate 2
          · go_simp
            first | exact hK _ _ _ rfl trivial HR.out rfl | exact hK _ _ _ rfl trivial HR.out (by simp [Act.put, hpre]) | exact hK undef _ _ trivial trivial HR.out (by simp [Act.put, hpre]) | exact hK _ _ _ trivial trivial HR.out rfl | exact hK _ _ _ trivial trivial HR.out (by simp [Act.put, hpre])
        · go_simp
          rw [if_neg (by first | omega | (simp; omega))]
          go_simp
          first | exact hK _ _ _ rfl trivial HR.out rfl | exact hK _ _ _ rfl trivial HR.out (by simp [Act.put, hpre])
        · go_simp
          first | exact hK _ _ _ rfl trivial HR.out rfl | exact hK _ _ _ rfl trivial HR.out (by simp [Act.put, hpre]) | exact hK undef _ _ trivial trivial HR.out (by simp [Act.put, hpre]) | exact hK _ _ _ trivial trivial HR.out rfl | exact hK _ _ _ trivial trivial HR.out (by simp [Act.put, hpre])
      · rintro L U W hL hφ hR
        have e7 : U 7 = .string ⟨(decB f.tag ++ 58 :: f.name : List UInt8).toArray⟩ := hφ 7 (by decide)
        simp only [e7]
        clear hφ
        have Hb6 := Lib.hid (Hb5.out.trans (hR.mono (by have := L5.out; omega)))
        have Hown6 := Lib.hid (ownsRow_below Hown5.out hR)
        have t0 : W.cell? ⟨w.heap.size, 0, none⟩ = some (.int .u8 (t.sort.toNat : Int)) := (Hb6.out.cell (p := ⟨w.heap.size, 0, none⟩) (Nat.lt_succ_self _)).trans T0.out
        have a2 : W.cell? ⟨B5, 2, none⟩ = some (.string ⟨(kdB f.kind).toArray⟩) := (hR.cell (p := ⟨B5, 2, none⟩) L5.out).trans F2.out
        have a3 : W.cell? ⟨B5, 3, none⟩ = some (.string ⟨f.given.toArray⟩) := (hR.cell (p := ⟨B5, 3, none⟩) L5.out).trans F3.out
        have hzw : w.heap.size + 1 ≤ W.heap.size := by have := hR.size; have := L5.out; omega
        clear hL hR
        by_cases h69 : t.sort = 69
        · have t69 : ((t.sort.toNat : Int) != 69) = false := by have := byte_eq (d := 69) h69; simpa using this
          have hgv := Hf5.out h69
          rw [hgv] at a3
          have Hrest2 := Lib.hid (show fdB t.sort f = decB f.tag ++ 58 :: f.name from by unfold fdB tailB; rw [if_pos h69]; simp)
          clear h69 hgv
          go_wp2_with (at_builtin; refine wpList_app1W _ rfl _ _ 58 rfl (w.heap.size + 1) 9 (.string ⟨#[]⟩) 16 Tryz.underlying58 Tryz.infoStr rfl W (.string ⟨(decB f.tag ++ 58 :: f.name : List UInt8).toArray⟩) rfl rfl (.slice A3 n3 c3) k (scells ((t.fields.take k).map (fdB t.sort))) rfl rfl Hown6.out (by unfold maxLen; omega) (by omega) (by omega) ?_; intro v7 w7 hown7 hg7 _; have Hown7 := Lib.hid hown7; have Hg7 := Lib.hid hg7; clear hown7 hg7)
          go_roundw
          case rel =>
            refine ⟨k + 1, by go_num, by omega, ?_, Hb6.out.grown Hg7.out hzw (fun j hj => (Hown6.out.lt j hj).1)⟩
            rw [Hts.out, List.map_append, List.map_singleton, scells_snoc, Hrest2.out]
            exact Hown7.out
          case measure => simp [intOf]; omega
        · have t69 : ((t.sort.toNat : Int) != 69) = true := by have := byte_ne (d := 69) h69; simpa using this
          by_cases hg : f.given = []
          · rw [hg] at a3
            have Hrest2 := Lib.hid (show fdB t.sort f = decB f.tag ++ 58 :: (f.name ++ 58 :: kdB f.kind) from by unfold fdB tailB; rw [if_neg h69, if_pos hg]; simp)
            clear h69 hg
            go_wp2_with (at_builtin; refine wpList_app1W _ rfl _ _ 58 rfl (w.heap.size + 1) 9 (.string ⟨#[]⟩) 16 Tryz.underlying58 Tryz.infoStr rfl W (.string ⟨(decB f.tag ++ 58 :: (f.name ++ 58 :: kdB f.kind) : List UInt8).toArray⟩) rfl rfl (.slice A3 n3 c3) k (scells ((t.fields.take k).map (fdB t.sort))) rfl rfl Hown6.out (by unfold maxLen; omega) (by omega) (by omega) ?_; intro v7 w7 hown7 hg7 _; have Hown7 := Lib.hid hown7; have Hg7 := Lib.hid hg7; clear hown7 hg7)
            go_roundw
            case rel =>
              refine ⟨k + 1, by go_num, by omega, ?_, Hb6.out.grown Hg7.out hzw (fun j hj => (Hown6.out.lt j hj).1)⟩
              rw [Hts.out, List.map_append, List.map_singleton, scells_snoc, Hrest2.out]
              exact Hown7.out
            case measure => simp [intOf]; omega
          · have s1 : f.given.isEmpty = false := by simpa using hg
            have s2 : (!f.given.isEmpty) = true := by simp [s1]
            have Hrest2 := Lib.hid (show fdB t.sort f = decB f.tag ++ 58 :: (f.name ++ 58 :: (kdB f.kind ++ 61 :: f.given)) from by unfold fdB tailB; rw [if_neg h69, if_neg hg])
            clear h69 hg
            go_wp2_with (at_builtin; refine wpList_app1W _ rfl _ _ 58 rfl (w.heap.size + 1) 9 (.string ⟨#[]⟩) 16 Tryz.underlying58 Tryz.infoStr rfl W (.string ⟨(decB f.tag ++ 58 :: (f.name ++ 58 :: (kdB f.kind ++ 61 :: f.given)) : List UInt8).toArray⟩) rfl rfl (.slice A3 n3 c3) k (scells ((t.fields.take k).map (fdB t.sort))) rfl rfl Hown6.out (by unfold maxLen; omega) (by omega) (by omega) ?_; intro v7 w7 hown7 hg7 _; have Hown7 := Lib.hid hown7; have Hg7 := Lib.hid hg7; clear hown7 hg7)
            go_roundw
            case rel =>
              refine ⟨k + 1, by go_num, by omega, ?_, Hb6.out.grown Hg7.out hzw (fun j hj => (Hown6.out.lt j hj).1)⟩
              rw [Hts.out, List.map_append, List.map_singleton, scells_snoc, Hrest2.out]
              exact Hown7.out
            case measure => simp [intOf]; omega
    · obtain rfl : k = t.fields.length := by omega
      have Hjl := Lib.hid (joinL_len 44 400 (t.fields.map (fdB t.sort)) (fun p hp => by obtain ⟨f, hf, rfl⟩ := List.mem_map.1 hp; exact fdB_len (Hs.out f hf)))
      have hjl := Hjl.out
      rw [List.length_map] at hjl
      have Hw := Lib.hid hown.out
      rw [List.take_length] at Hw
      obtain ⟨A9, c9, e9, hr9⟩ := RowAt.own Hw.out
      injection e9 with e9 e10 e11
      subst e9 e10 e11
      have Hjoin := Lib.hid (fun W (h : Below wr.heap.size wr W) => show Calls Tryz.prog 106 #[.slice A3 t.fields.length c3] W fun e w' => e = .returned (.string ⟨(joinL 44 (t.fields.map (fdB t.sort))).toArray⟩) ∧ W = w' from by
        have := sJoin_any A3 c3 (t.fields.map (fdB t.sort)) W (by simpa using hr9.below h) (by rw [List.length_map]; omega) (fun p hp => by obtain ⟨f, hf, rfl⟩ := List.mem_map.1 hp; have := fdB_len (Hs.out f hf); omega)
        rwa [List.length_map] at this)
      have W0e : ∃ W0, W0 = wr := ⟨_, rfl⟩
      obtain ⟨W0, hW0⟩ := W0e
      have Lw := Lib.hid (show w.heap.size < wr.heap.size by omega)
      have T0' := Lib.hid t0
      have T1' := Lib.hid t1
      clear T0 T1
      have T0 := T0'
      have T1 := T1'
      generalize joinL 44 (t.fields.map (fdB t.sort)) = js at *
      clear t0 t1 hr9 Hw
      go_wp2_with fail
      subst hW0
      refine wp_region_slots3 [47, 48, 49, 50, 51, 52, 53, 54, 55, 56, 57, 58, 2] (by kernel_rfl) (by kernel_rfl) (by kernel_rfl) (fun u => by dsimp only [frameOf, setMany, List.set, Nat.zero_add, Nat.reduceAdd])
        (fun ix v W => match ix with | 0 => v = .pointer (some ⟨w.heap.size, 0, none⟩) | 1 => v = .int .u8 (t.sort.toNat : Int) | 2 => ∃ g, v = .slice (some ⟨g, 0, none⟩) 1 1 | 3 => v = .string ⟨([t.sort] : List UInt8).toArray⟩ | 4 => v = .pointer (some ⟨w.heap.size, 1, none⟩) | 5 => v = .string ⟨(t.name : List UInt8).toArray⟩ | 6 => v = .string ⟨(t.sort :: t.name : List UInt8).toArray⟩ | 7 => v = .string ⟨(t.sort :: (t.name ++ [61]) : List UInt8).toArray⟩ | 8 => v = .slice A3 t.fields.length c3 | 9 => v = .string ⟨(js : List UInt8).toArray⟩ | 10 => v = .string ⟨(t.sort :: (t.name ++ 61 :: js) : List UInt8).toArray⟩ | 11 => v = .string ⟨(t.sort :: (t.name ++ 61 :: (js ++ [10])) : List UInt8).toArray⟩ | 12 => v = .string ⟨(t.sort :: (t.name ++ 61 :: (js ++ [10])) : List UInt8).toArray⟩ | _ => True)
        (fun L U W => Below W0.heap.size W0 W ∧ (L 2 = true → ∃ g, U 2 = .slice (some ⟨g, 0, none⟩) 1 1 ∧ g < W.heap.size ∧ W.cell? ⟨g, 0, none⟩ = some (.int .u8 (t.sort.toNat : Int)))) (fun _ _ => True) (fun _ _ _ _ _ h => h) (⟨(Below.refl _ _).drew, fun h => Bool.noConfusion h⟩) ?_ ?_
      · repeat (first | exact Steps.nil | (refine Steps.cons ?_ ?_; rotate_left))
        all_goals
          rintro L U W hL hpre hR hun hdep K hK
          have HR := Lib.hid hR
          obtain ⟨hB, R2⟩ := HR.out
          have a0 : W.cell? ⟨w.heap.size, 0, none⟩ = some (.int .u8 (t.sort.toNat : Int)) := (hB.cell (p := ⟨w.heap.size, 0, none⟩) Lw.out).trans T0.out
          have a1 : W.cell? ⟨w.heap.size, 1, none⟩ = some (.string ⟨t.name.toArray⟩) := (hB.cell (p := ⟨w.heap.size, 1, none⟩) Lw.out).trans T1.out
          clear hun hdep hR
          first | (simp [Region.binds] at hpre; done) | simp [Region.binds] at hpre | clear hpre
        iterate 2
          · go_simp
            first | exact hK _ _ _ rfl trivial HR.out rfl | exact hK _ _ _ rfl trivial HR.out (by simp [Act.put, hpre]) | exact hK undef _ _ trivial trivial HR.out (by simp [Act.put, hpre]) | exact hK _ _ _ trivial trivial HR.out rfl | exact hK _ _ _ trivial trivial HR.out (by simp [Act.put, hpre])
        · go_simp
          exact hK _ _ _ ⟨_, rfl⟩ trivial ⟨hB.alloc hB.size _, fun _ => ⟨W.heap.size, rfl, by simp, by simp⟩⟩ (by simp [Act.put, hpre])
        · have l2 : L 2 = true := by first | exact hpre.1 | exact hpre.2.1
          obtain ⟨g, u2, hg, hc⟩ := R2 l2
          have hcv := Tryz.conv1 W g 1 t.sort hc
          go_simp
          exact hK _ _ _ rfl trivial HR.out (by simp [Act.put, hpre, u2])
        iterate 2
          · go_simp
            first | exact hK _ _ _ rfl trivial HR.out rfl | exact hK _ _ _ rfl trivial HR.out (by simp [Act.put, hpre]) | exact hK undef _ _ trivial trivial HR.out (by simp [Act.put, hpre]) | exact hK _ _ _ trivial trivial HR.out rfl | exact hK _ _ _ trivial trivial HR.out (by simp [Act.put, hpre])
        · go_simp
          rw [if_neg (by first | omega | (simp; omega))]
          go_simp
          first | exact hK _ _ _ rfl trivial HR.out rfl | exact hK _ _ _ rfl trivial HR.out (by simp [Act.put, hpre])
        · go_simp
          rw [if_neg (by first | omega | (simp; omega))]
          go_simp
          first | exact hK _ _ _ rfl trivial HR.out rfl | exact hK _ _ _ rfl trivial HR.out (by simp [Act.put, hpre])
        · go_simp
          first | exact hK _ _ _ rfl trivial HR.out rfl | exact hK _ _ _ rfl trivial HR.out (by simp [Act.put, hpre]) | exact hK undef _ _ trivial trivial HR.out (by simp [Act.put, hpre]) | exact hK _ _ _ trivial trivial HR.out rfl | exact hK _ _ _ trivial trivial HR.out (by simp [Act.put, hpre])
        · go_simp
          refine (Hjoin.out W hB).mono ?_
          rintro e w5 ⟨rfl, rfl⟩
          exact hK _ _ _ rfl trivial HR.out (by simp [Act.put, hpre])
        · go_simp
          rw [if_neg (by first | omega | (simp; omega))]
          go_simp
          first | exact hK _ _ _ rfl trivial HR.out rfl | exact hK _ _ _ rfl trivial HR.out (by simp [Act.put, hpre])
        · go_simp
          rw [if_neg (by first | omega | (simp; omega))]
          go_simp
          first | exact hK _ _ _ rfl trivial HR.out rfl | exact hK _ _ _ rfl trivial HR.out (by simp [Act.put, hpre])
        · go_simp
          first | exact hK _ _ _ rfl trivial HR.out rfl | exact hK _ _ _ rfl trivial HR.out (by simp [Act.put, hpre]) | exact hK undef _ _ trivial trivial HR.out (by simp [Act.put, hpre]) | exact hK _ _ _ trivial trivial HR.out rfl | exact hK _ _ _ trivial trivial HR.out (by simp [Act.put, hpre])
      · rintro L U W hL hφ hR
        have e12 : U 12 = .string ⟨(t.sort :: (t.name ++ 61 :: (js ++ [10])) : List UInt8).toArray⟩ := hφ 12 (by decide)
        simp only [e12]
        clear hφ
        have Hb9 := Lib.hid (Hbw.out.trans (hR.1.mono Hbw.out.size))
        clear hL hR
        go_wp2_with fail
        go_ret
        exact ⟨by rw [HF.out]; rfl, Hb9.out⟩
end Go.Proofs.YtdhinlhafoiaiaaGreatDoor
/- The reference's forms: going through a kind, names in the order of meeting. -/
namespace Go.Proofs.YtdhinlhafoiaiaaGreatDoor
open Go.RowKit
set_option maxRecDepth 100000
set_option linter.unusedVariables false
set_option linter.unusedSimpArgs false
attribute [local go_sem] ba_get ba_toList ba_extract take_drop_all ByteArray.mk_append_mk

/-- The form's struct lies at block w0.heap.size; the row of names is its own. -/
def FormSt (w0 : World) (v1 : Value) (w : World) (out : List Name) (nv : Value) : Prop :=
  Below w0.heap.size w0 w ∧ w0.heap.size + 1 ≤ w.heap.size ∧ w.cell? ⟨w0.heap.size, 0, none⟩ = some v1 ∧ w.cell? ⟨w0.heap.size, 1, none⟩ = some nv ∧ w.there w0.heap.size 0 2 ∧ w.ownsRow (w0.heap.size + 1) 9 1 nv out.length (scells out)
theorem FormSt.size {w0 w : World} {v1 nv : Value} {out : List Name} (h : FormSt w0 v1 w out nv) : w0.heap.size < w.heap.size := h.2.1
theorem FormSt.far {w0 w : World} {v1 nv : Value} {out : List Name} (h : FormSt w0 v1 w out nv) : ∀ b, w.heap.size ≤ b → some b ≠ nv.ownBlock := fun b hb e => by
  have := (h.2.2.2.2.2.lt b e.symm).2
  omega
theorem FormSt.below {w0 w w' : World} {v1 nv : Value} {out : List Name} (h : FormSt w0 v1 w out nv) (hb : Below w.heap.size w w') : FormSt w0 v1 w' out nv := by
  obtain ⟨h1, h2, h3, h4, h5, h6⟩ := h
  exact ⟨h1.trans (hb.mono (by omega)), Nat.le_trans h2 hb.size, (hb.cell (p := ⟨w0.heap.size, 0, none⟩) (show w0.heap.size < _ by omega)).trans h3, (hb.cell (p := ⟨w0.heap.size, 1, none⟩) (show w0.heap.size < _ by omega)).trans h4, there_below h5 (by omega) hb, ownsRow_below h6 hb⟩
theorem FormSt.push {w0 w w5 : World} {v1 nv nv5 : Value} {out : List Name} {n : Name} (h : FormSt w0 v1 w out nv) (hown : w5.ownsRow (w0.heap.size + 1) 9 1 nv5 (out.length + 1) (scells out ++ [.string ⟨n.toArray⟩])) (hg : w.grownBy w5 nv.ownBlock)
    (hwh : nv5.ownBlock = nv.ownBlock ∨ ∃ k, nv5.ownBlock = some k ∧ w.heap.size ≤ k) :
    FormSt w0 v1 (w5.setCell ⟨w0.heap.size, 1, none⟩ nv5) (out ++ [n]) nv5 ∧ Kept w0.heap.size nv w (w5.setCell ⟨w0.heap.size, 1, none⟩ nv5) nv5 := by
  obtain ⟨h1, h2, h3, h4, h5, h6⟩ := h
  have hb : Below (w0.heap.size + 1) w w5 := (Below.refl _ _).grown hg h2 (fun k hk => (h6.lt k hk).1)
  have h5' : w5.there w0.heap.size 0 2 := there_below h5 (show w0.heap.size < w0.heap.size + 1 by omega) hb
  refine ⟨⟨(h1.trans (hb.mono (by omega))).setCell (Nat.le_refl _) _, by simp; exact Nat.le_trans h2 hb.size, ?_, ?_, World.there_setCells h5' w0.heap.size 1 [_], ?_⟩, ?_⟩
  · rw [World.cell?_setCell_other _ _ _ _ (by intro e; injection e with e1 e2; omega)]
    exact (hb.cell (p := ⟨w0.heap.size, 0, none⟩) (show w0.heap.size < _ by omega)).trans h3
  · have := World.rangeAt_setCells_same w5 w0.heap.size 1 [nv5] (there_sub h5' 1 1 (by decide) (by decide))
    exact (by simpa using rangeAt_cell this 0 rfl : (w5.setCells w0.heap.size 1 [nv5]).cell? ⟨w0.heap.size, 1, none⟩ = some nv5)
  · rw [List.length_append, scells_snoc]
    exact hown.kept (grown_set w5 _ _) (.inr (fun e => absurd (show w0.heap.size + 1 ≤ w0.heap.size from (hown.lt _ e).1) (by omega)))
  · refine ⟨by simp; exact hg.size, fun b hb h1 h2 => ?_, hwh⟩
    rw [Below.heap_setCell _ _ _ _ h1]
    exact hg.block b hb h2
/-- What going through a kind leaves. -/
def WkPost (w0 : World) (v1 : Value) (out : List Name) (w : World) (nv : Value) (e : Ending) (w' : World) : Prop := e = .returned (.tuple #[]) ∧ ∃ nv', FormSt w0 v1 w' out nv' ∧ Kept w0.heap.size nv w w' nv'

set_option maxHeartbeats 1000000 in
theorem sWalk_no (w0 : World) (v1 : Value) (S : List Ty) (n : Nat) (k : Kd) (out : List Name) (w : World) (nv : Value) (hk : kdOk k) (hb : k.base ≠ [64]) (hst : FormSt w0 v1 w out nv) :
    Calls Tryz.prog 76 #[.pointer (some ⟨w0.heap.size, 0, none⟩), .string ⟨(kdB k).toArray⟩] w (WkPost w0 v1 (metN S (n + 1) k out) w nv) := by
  have hF := Lib.hid (show metN S (n + 1) k out = out from by rw [metN, if_neg (fun h => hb h.1)])
  have Hir := Lib.hid (show isRef k = false by simp [isRef, hb])
  have Hca := Lib.hid (fun W => l2CoreK_any k hk W)
  have Hrc := Lib.hid (fun W => l2RefCore_any k hk W)
  rw [Hir.out] at Hrc
  have Hst := Lib.hid hst
  generalize kdB k = kk at *
  clear hb hst
  go_enter Tryz.func76, Tryz.ntmps76
  go_wp2_with fail
  refine (Hca.out _).mono ?_
  rintro e w1 ⟨rfl, rfl⟩
  go_wp2_with fail
  refine (Hrc.out _).mono ?_
  rintro e w1 ⟨rfl, rfl⟩
  go_wp2_with fail
  go_end0
  rw [hF.out]
  exact ⟨rfl, nv, Hst.out, Kept.refl _ _ _⟩
set_option maxHeartbeats 1000000 in
theorem sWalk_has (w0 : World) (v1 : Value) (S : List Ty) (n : Nat) (k : Kd) (out : List Name) (w : World) (nv : Value) (hk : kdOk k) (hb : k.base = [64]) (hin : k.name ∈ out) (hl8 : out.length ≤ 8) (hst : FormSt w0 v1 w out nv) :
    Calls Tryz.prog 76 #[.pointer (some ⟨w0.heap.size, 0, none⟩), .string ⟨(kdB k).toArray⟩] w (WkPost w0 v1 (metN S (n + 1) k out) w nv) := by
  have hF := Lib.hid (show metN S (n + 1) k out = out from by rw [metN, if_neg (fun h => h.2 hin)])
  have Hir := Lib.hid (show isRef k = true by simp [isRef, hb])
  have Hnm0 := Lib.hid (show refNm k = k.name by simp [refNm, hb])
  have Hca := Lib.hid (fun W => l2CoreK_any k hk W)
  have Hrc := Lib.hid (fun W => l2RefCore_any k hk W)
  rw [Hir.out, Hnm0.out] at Hrc
  have Hst := Lib.hid hst
  obtain ⟨A, c, rfl, hrow⟩ := RowAt.own hst.2.2.2.2.2
  have Hat := Lib.hid (sAt_any w0.heap.size A c out k.name w hst.2.2.2.1 hrow (by omega))
  have e : placeI out k.name = (placeN out k.name : Int) := if_pos hin
  rw [e] at Hat
  generalize placeN out k.name = p at *
  generalize kdB k = kk at *
  have p0 : (0 : Int) ≤ (p : Int) := by omega
  clear hb hst hrow e hin
  go_enter Tryz.func76, Tryz.ntmps76
  go_wp2_with fail
  refine (Hca.out _).mono ?_
  rintro e w1 ⟨rfl, rfl⟩
  go_wp2_with fail
  refine (Hrc.out _).mono ?_
  rintro e w1 ⟨rfl, rfl⟩
  go_wp2_with fail
  refine Hat.out.mono ?_
  rintro e w1 ⟨rfl, rfl⟩
  go_wp2_with fail
  go_end0
  rw [hF.out]
  exact ⟨rfl, _, Hst.out, Kept.refl _ _ _⟩
theorem foldl_take {α β : Type} (g : β → α → β) (b : β) (l : List α) (j : Nat) (hj : j < l.length) : (l.take (j + 1)).foldl g b = g ((l.take j).foldl g b) l[j] := by
  rw [take_snoc l j hj, List.foldl_append]; rfl
set_option maxHeartbeats 4000000 in
theorem sWalk_step (w0 : World) (v1 : Value) (xs : List (Ty × Value)) (hx : SSc w0 v1 xs) (hS : kindsOk (tysOf xs)) (hok : ∀ x ∈ xs, tyOk x.1) (hx8 : xs.length ≤ 8) (n : Nat) (k : Kd) (out : List Name) (w : World) (nv : Value) (hk : kdOk k) (hb : k.base = [64]) (hin : k.name ∉ out) (hr : refOk (tysOf xs) k) (hm : Mets (tysOf xs) out) (hn : xs.length < n + 1 + out.length) (hst : FormSt w0 v1 w out nv)
    (ih : ∀ (k : Kd) (out : List Name) (w : World) (nv : Value), kdOk k → refOk (tysOf xs) k → Mets (tysOf xs) out → xs.length < n + out.length → FormSt w0 v1 w out nv → Calls Tryz.prog 76 #[.pointer (some ⟨w0.heap.size, 0, none⟩), .string ⟨(kdB k).toArray⟩] w (WkPost w0 v1 (metN (tysOf xs) n k out) w nv)) :
    Calls Tryz.prog 76 #[.pointer (some ⟨w0.heap.size, 0, none⟩), .string ⟨(kdB k).toArray⟩] w (WkPost w0 v1 (metN (tysOf xs) (n + 1) k out) w nv) := by
  have h1 := hr hb
  rw [findX_ty] at h1
  obtain ⟨x, hxf⟩ := Option.isSome_iff_exists.1 (by simpa using h1 : (findX xs k.name).isSome = true)
  obtain ⟨t, tv⟩ := x
  have hxm := findX_mem hxf
  have hF := Lib.hid (show metN (tysOf xs) (n + 1) k out = if t.sort = 69 then out ++ [k.name] else t.fields.foldl (fun o f => metN (tysOf xs) n f.kind o) (out ++ [k.name]) from by rw [metN, if_pos ⟨hb, hin⟩, hxm.2.2])
  have Hto := Lib.hid (hok _ hxm.1)
  have hf8 : t.fields.length ≤ 8 := Hto.out.2.2.2.1
  have Htk := Lib.hid (hS t (by have := hxm.1; exact List.mem_map_of_mem (f := (·.1)) this))
  have Hm1 := Lib.hid (hm.snoc (findTy_isSome.1 (hr hb)) hin)
  have hol : out.length ≤ 8 := by have := hm.len; rw [tysOf_len] at this; omega
  have htf : SFds w0 tv t.fields := by obtain ⟨_, _, _, _, _, hf⟩ := hx; exact hf _ hxm.1
  have Hir := Lib.hid (show isRef k = true by simp [isRef, hb])
  have Hnm0 := Lib.hid (show refNm k = k.name by simp [refNm, hb])
  have Hca := Lib.hid (fun W => l2CoreK_any k hk W)
  have Hrc := Lib.hid (fun W => l2RefCore_any k hk W)
  rw [Hir.out, Hnm0.out] at Hrc
  have Hst := Lib.hid hst
  have Hx := Lib.hid hx
  have HS := Lib.hid hS
  have Ih := Lib.hid ih
  obtain ⟨A1, c1, rfl, _⟩ := hx
  obtain ⟨A, c, rfl, hrow⟩ := RowAt.own hst.2.2.2.2.2
  have Hat := Lib.hid (sAt_any w0.heap.size A c out k.name w hst.2.2.2.1 hrow (by omega))
  have e : placeI out k.name = -1 := if_neg hin
  rw [e] at Hat
  have Hfd := Lib.hid (fun W (h : Below w0.heap.size w0 W) => sFind_any _ xs k.name W (Hx.out.below h))
  rw [hxf] at Hfd
  obtain ⟨A4, c4, rfl, _, hrow4⟩ := htf
  have Hrow4 := Lib.hid hrow4
  unfold styR styV at Hfd
  have m0 : w.cell? ⟨w0.heap.size, 0, none⟩ = some (.slice A1 xs.length c1) := hst.2.2.1
  have m1 : w.cell? ⟨w0.heap.size, 1, none⟩ = some (.slice A out.length c) := hst.2.2.2.1
  have hsz := hst.size
  have HT := Lib.hid hst.2.2.2.2.1
  have Hown := Lib.hid hst.2.2.2.2.2
  generalize hkk : kdB k = kk at *
  clear hkk hb hst hrow e hin h1 hxf hxm hrow4 ih hS hm hr
  go_enter Tryz.func76, Tryz.ntmps76
  go_wp2_with fail
  refine (Hca.out _).mono ?_
  rintro e w1 ⟨rfl, rfl⟩
  go_wp2_with fail
  refine (Hrc.out _).mono ?_
  rintro e w1 ⟨rfl, rfl⟩
  go_wp2_with fail
  refine Hat.out.mono ?_
  rintro e w1 ⟨rfl, rfl⟩
  go_wp2_with (at_builtin; refine wpList_app1W _ rfl _ _ 58 rfl (w0.heap.size + 1) 9 (.string ⟨#[]⟩) 16 Tryz.underlying58 Tryz.infoStr rfl w (.string ⟨k.name.toArray⟩) rfl rfl (.slice A out.length c) out.length (scells out) rfl rfl Hown.out (by unfold maxLen; omega) (by omega) (by omega) ?_; intro v5 w5 hown5 hg5 hwh; obtain ⟨A5, n5, c5, e5⟩ := own_slice hown5; subst e5; have hb5 : Below (w0.heap.size + 1) w w5 := (Below.refl _ _).grown hg5 (by omega) (fun k hk => (Hown.out.lt k hk).1); have f5 : w5.frozen? ⟨w0.heap.size, 1, none⟩ = false := (by simpa using ((there_below HT.out (show w0.heap.size < w0.heap.size + 1 by omega) hb5) 1 (by decide)).2); have p5 : w5.cell? ⟨w0.heap.size, 1, none⟩ = some (.slice A out.length c) := (hb5.cell (p := ⟨w0.heap.size, 1, none⟩) (Nat.lt_succ_self _)).trans m1; have HP := Lib.hid (FormSt.push (n := k.name) Hst.out hown5 hg5 hwh); have p6 : (w5.setCell ⟨w0.heap.size, 1, none⟩ (.slice A5 n5 c5)).cell? ⟨w0.heap.size, 0, none⟩ = some (.slice A1 xs.length c1) := HP.out.1.2.2.1; clear hown5 hg5 hwh hb5)
  refine (Hfd.out _ HP.out.1.1).mono ?_
  rintro e w7 ⟨rfl, hb7⟩
  have Hst7 := Lib.hid (HP.out.1.below hb7)
  have Hk7 := Lib.hid (HP.out.2.trans (Kept.of_below hb7))
  clear hb7 p5 p6 f5 m0 m1
  obtain ⟨W8, hW8⟩ : ∃ W8, W8 = w7.alloc (.cells #[.int .u8 (t.sort.toNat : Int), .string ⟨t.name.toArray⟩, .slice A4 t.fields.length c4] 86) := ⟨_, rfl⟩
  have hb8 : Below w7.heap.size w7 W8 := by rw [hW8]; exact (Below.refl _ _).alloc (Nat.le_refl _) _
  have Hst8 := Lib.hid (Hst7.out.below hb8)
  have Hk8 := Lib.hid (Hk7.out.trans (Kept.of_below hb8))
  have X8 := Lib.hid (show W8.rangeAt w7.heap.size 0 [.int .u8 (t.sort.toNat : Int), .string ⟨t.name.toArray⟩, .slice A4 t.fields.length c4] from by rw [hW8]; exact rangeAt_new w7 [.int .u8 (t.sort.toNat : Int), .string ⟨t.name.toArray⟩, .slice A4 t.fields.length c4] _)
  have hz8 : w7.heap.size < W8.heap.size := by rw [hW8]; simp
  have hz7 : w0.heap.size < w7.heap.size := Hst7.out.size
  have Hfar := Lib.hid (Hst7.out.far)
  have hcl := t.sort.toNat_lt
  clear hb8
  by_cases h69 : t.sort = 69
  · have t69 : ((t.sort.toNat : Int) != 69) = false := by have := byte_eq (d := 69) h69; simpa using this
    have HF2 := Lib.hid (hF.out.trans (if_pos h69))
    have x0 : W8.cell? ⟨w7.heap.size, 0, none⟩ = some (.int .u8 (t.sort.toNat : Int)) := by simpa using rangeAt_cell X8.out 0 rfl
    have x2 : W8.cell? ⟨w7.heap.size, 2, none⟩ = some (.slice A4 t.fields.length c4) := by simpa using rangeAt_cell X8.out 2 rfl
    clear h69
    go_wp2_with fail
    rw [← hW8]
    clear hW8
    go_loopw [8] (fun i wr => i = .int .i64 0 ∧ wr = W8) (fun i _ => 0)
    case atStart => exact ⟨rfl, rfl⟩
    case round =>
      obtain ⟨rfl, rfl⟩ := hrel
      by_cases hl0 : 0 < t.fields.length
      · have hl0i : (0 : Int) < (t.fields.length : Int) := by omega
        go_wp2_with fail
        go_end0
        rw [HF2.out]
        exact ⟨rfl, _, Hst8.out, Hk8.out⟩
      · have hl0i : ¬ (0 : Int) < (t.fields.length : Int) := by omega
        go_wp2_with fail
        go_end0
        rw [HF2.out]
        exact ⟨rfl, _, Hst8.out, Hk8.out⟩
  · have t69 : ((t.sort.toNat : Int) != 69) = true := by have := byte_ne (d := 69) h69; simpa using this
    have HF2 := Lib.hid (hF.out.trans (if_neg h69))
    have H69 := Lib.hid h69
    clear h69
    go_wp2_with fail
    rw [← hW8]
    clear hW8
    go_loopw [8] (fun i wr => ∃ (j : Nat) (o : List Name) (nv' : Value), i = .int .i64 j ∧ j ≤ t.fields.length ∧ Hid (o = (t.fields.take j).foldl (fun o f => metN (tysOf xs) n f.kind o) (out ++ [k.name])) ∧ Hid (FormSt w0 (.slice A1 xs.length c1) wr o nv') ∧ Hid (Kept w0.heap.size (.slice A5 n5 c5) W8 wr nv') ∧ Hid (Mets (tysOf xs) o ∧ out.length + 1 ≤ o.length)) (fun i _ => t.fields.length - (intOf i).toNat)
    case atStart => exact ⟨0, _, _, rfl, Nat.zero_le _, rfl, Hst8.out, Kept.refl _ _ _, ⟨Hm1.out, by simp⟩⟩
    case round =>
      obtain ⟨j, o, nv', rfl, hj, ho, hst', hk', hmo⟩ := hrel
      have j1 : (0 : Int) ≤ (j : Int) := by omega
      have hsz' := hst'.out.size
      have x8 := Kept.range hk'.out X8.out hz8 (show w7.heap.size ≠ w0.heap.size by omega) (Hfar.out _ (Nat.le_refl _))
      have x0 : wr.cell? ⟨w7.heap.size, 0, none⟩ = some (.int .u8 (t.sort.toNat : Int)) := by simpa using rangeAt_cell x8 0 rfl
      have x2 : wr.cell? ⟨w7.heap.size, 2, none⟩ = some (.slice A4 t.fields.length c4) := by simpa using rangeAt_cell x8 2 rfl
      clear x8
      by_cases hlt : j < t.fields.length
      · have j2 : (j : Int) < (t.fields.length : Int) := by omega
        obtain ⟨bb, off, rfl, hbb, g0, g1, g2, g3⟩ := SFds.at_ (Hrow4.out.below hst'.out.1) hlt
        have Hfold := Lib.hid (foldl_take (fun o (f : Fd) => metN (tysOf xs) n f.kind o) (out ++ [k.name]) t.fields j hlt)
        have Hgm := Lib.hid (List.getElem_mem hlt)
        generalize t.fields[j] = g at g0 g1 g2 g3 Hfold Hgm
        have Hkd := Lib.hid ((Hto.out.2.2.1.1 g Hgm.out).2.2.2.2 H69.out).1
        have Href := Lib.hid (Htk.out H69.out g Hgm.out)
        have Hcall := Lib.hid (Ih.out g.kind o wr nv' Hkd.out Href.out hmo.out.1 (by have := hmo.out.2; omega) hst'.out)
        have Hmk := Lib.hid (metN_mets HS.out n g.kind o Href.out hmo.out.1)
        clear g0 g1 g3
        go_wp2_with fail
        refine Hcall.out.mono ?_
        rintro e w9 ⟨rfl, nv9, hst9, hk9⟩
        have Hst9 := Lib.hid hst9
        have Hk9 := Lib.hid (hk'.out.trans hk9)
        clear hst9 hk9 x0 x2 g2
        go_wp2_with fail
        go_roundw
        case rel => exact ⟨j + 1, metN (tysOf xs) n g.kind o, nv9, by go_num, by omega, (by rw [Hid] at *; rw [Hfold, ← ho]), Hst9.out, Hk9.out, ⟨Hmk.out.1, by obtain ⟨l, hl⟩ := Hmk.out.2; rw [hl]; have := hmo.out.2; simp; omega⟩⟩
        case measure => simp [intOf]; omega
      · have j2 : ¬ (j : Int) < (t.fields.length : Int) := by omega
        have Hfin := Lib.hid (show metN (tysOf xs) (n + 1) k out = o from by rw [HF2.out, ho.out, List.take_of_length_le (by omega)])
        go_wp2_with fail
        go_end0
        rw [Hfin.out]
        exact ⟨rfl, nv', hst'.out, Hk8.out.trans hk'.out⟩
theorem sWalk_any (w0 : World) (v1 : Value) (xs : List (Ty × Value)) (hx : SSc w0 v1 xs) (hS : kindsOk (tysOf xs)) (hok : ∀ x ∈ xs, tyOk x.1) (hx8 : xs.length ≤ 8) : ∀ (n : Nat) (k : Kd) (out : List Name) (w : World) (nv : Value), kdOk k → refOk (tysOf xs) k → Mets (tysOf xs) out → xs.length < n + out.length → FormSt w0 v1 w out nv →
    Calls Tryz.prog 76 #[.pointer (some ⟨w0.heap.size, 0, none⟩), .string ⟨(kdB k).toArray⟩] w (WkPost w0 v1 (metN (tysOf xs) n k out) w nv) := by
  intro n
  induction n with
  | zero =>
    intro k out w nv _ _ hm hn _
    have := hm.len
    rw [tysOf_len] at this
    omega
  | succ n ih =>
    intro k out w nv hk hr hm hn hst
    have hol : out.length ≤ 8 := by have := hm.len; rw [tysOf_len] at this; omega
    by_cases hb : k.base = [64]
    · by_cases hin : k.name ∈ out
      · exact sWalk_has w0 v1 _ n k out w nv hk hb hin hol hst
      · exact sWalk_step w0 v1 xs hx hS hok hx8 n k out w nv hk hb hin hr hm hn hst ih
    · exact sWalk_no w0 v1 _ n k out w nv hk hb hst
end Go.Proofs.YtdhinlhafoiaiaaGreatDoor
/- The reference's SchemaForm and SchemaAlike. -/
namespace Go.Proofs.YtdhinlhafoiaiaaGreatDoor
open Go.RowKit
set_option maxRecDepth 100000
set_option linter.unusedVariables false
set_option linter.unusedSimpArgs false
attribute [local go_sem] ba_get ba_toList ba_extract take_drop_all ByteArray.mk_append_mk

/-- The form of a schema and a kind, if it is one. -/
def formL (o : Option (List Ty × Kd)) : Option (List UInt8 × List UInt8) :=
  match o with
  | none => none
  | some (S, k) => if (bothL (scB (formS S (metL S k))) (kdB (formK (metL S k) k))).isSome = true then some (scB (formS S (metL S k)), kdB (formK (metL S k) k)) else none
/-- .. as results. -/
def formV : Option (List UInt8 × List UInt8) → Value
  | none => .tuple #[.string ⟨#[]⟩, .string ⟨#[]⟩, .bool false]
  | some x => .tuple #[.string ⟨x.1.toArray⟩, .string ⟨x.2.toArray⟩, .bool true]
theorem formS_snoc {S : List Ty} {ns : List Name} {a : List Name} {n : Name} {t : Ty} (h : findTy S n = some t) : (a ++ [n]).filterMap (fun m => (findTy S m).map (formY ns)) = a.filterMap (fun m => (findTy S m).map (formY ns)) ++ [formY ns t] := by
  rw [List.filterMap_append]; simp [h]
theorem scB_snoc (S : List Ty) (t : Ty) : scB (S ++ [t]) = scB S ++ (tyB t ++ [10]) := by unfold scB; simp
def fsOf (ns : List Name) (st : UInt8) (fs : List Fd) : List Fd := fs.map (formF ns st)
theorem formK_len (ns : List Name) {k : Kd} (hk : kdOk k) : (kdB (formK ns k)).length ≤ 100 := by
  have h := hk.2.2
  unfold formK
  split
  · rename_i hb
    unfold kdB coreB at h ⊢
    simp only [hb, if_true] at h ⊢
    simp [newN] at h ⊢
    omega
  · omega
theorem formF_short {ns : List Name} {st : UInt8} {f : Fd} (h : fdOk st f) : FShort st (formF ns st f) := by
  have hg := given_len h
  obtain ⟨h1, h2, h3, h4, h5⟩ := h
  have hn := (nameOk_iff.1 h3).2.1
  unfold formF
  by_cases hs : st = 69
  · rw [if_pos hs]
    exact ⟨h2, by omega, by rw [(h4 hs).1]; decide, by omega, fun _ => (h4 hs).2⟩
  · rw [if_neg hs]
    exact ⟨h2, show f.name.length ≤ 100 by omega, formK_len ns (h5 hs).1, show f.given.length ≤ 100 by omega, fun h => absurd h hs⟩
theorem sfc_one (fs : List Fd) : ∀ y ∈ fs.flatMap sfc, y.oneCell' = true := by
  intro y hy
  obtain ⟨v, _, hv⟩ := List.mem_flatMap.1 hy
  simp [sfc] at hv
  rcases hv with rfl | rfl | rfl | rfl <;> rfl

/-- What the loop over the fields keeps: the new type's box and its row of fields. -/
def FldSt (b : Nat) (c0 c1 : Value) (W0 W : World) (fs : List Fd) (fv : Value) : Prop :=
  Below b W0 W ∧ b < W0.heap.size ∧ W.rangeAt b 0 [c0, c1, fv] ∧ W.there b 0 3 ∧ W.ownsRow W0.heap.size 120 4 fv fs.length (fs.flatMap sfc)
theorem FldSt.size {b : Nat} {c0 c1 : Value} {W0 W : World} {fs : List Fd} {fv : Value} (h : FldSt b c0 c1 W0 W fs fv) : W0.heap.size ≤ W.heap.size := h.1.size
theorem FldSt.below {b : Nat} {c0 c1 : Value} {W0 W W' : World} {fs : List Fd} {fv : Value} (h : FldSt b c0 c1 W0 W fs fv) (hb : Below W.heap.size W W') : FldSt b c0 c1 W0 W' fs fv := by
  obtain ⟨h1, h2, h3, h4, h5⟩ := h
  have hz := h1.size
  exact ⟨h1.trans (hb.mono (by omega)), h2, rangeAt_below h3 (show b < W.heap.size by omega) hb, there_below h4 (by omega) hb, ownsRow_below h5 hb⟩
theorem FldSt.push {b : Nat} {c0 c1 : Value} {W0 W w5 : World} {fs : List Fd} {f : Fd} {fv nv5 : Value} (h : FldSt b c0 c1 W0 W fs fv)
    (hown : w5.ownsRow W0.heap.size 120 4 nv5 (fs.length + 1) (fs.flatMap sfc ++ sfc f)) (hg : W.grownBy w5 fv.ownBlock) :
    w5.there b 0 3 ∧ w5.rangeAt b 0 [c0, c1, fv] ∧ FldSt b c0 c1 W0 (w5.setCell ⟨b, 2, none⟩ nv5) (fs ++ [f]) nv5 := by
  obtain ⟨h1, h2, h3, h4, h5⟩ := h
  have hz := h1.size
  have hb : Below (b + 1) W w5 := (Below.refl _ _).grown hg (by omega) (fun k hk => by have := (h5.lt k hk).1; omega)
  have h4' : w5.there b 0 3 := there_below h4 (show b < b + 1 by omega) hb
  have h3' : w5.rangeAt b 0 [c0, c1, fv] := rangeAt_below h3 (show b < b + 1 by omega) hb
  refine ⟨h4', h3', (h1.trans (hb.mono (by omega))).setCell (Nat.le_refl _) _, h2, rangeAt_setCells_in (l2' := [nv5]) [c0, c1] [fv] [] h3' rfl, World.there_setCells h4' b 2 [_], ?_⟩
  rw [List.length_append, List.flatMap_append]
  have e : [f].flatMap sfc = sfc f := by simp
  rw [e]
  exact hown.kept (grown_set w5 _ _) (.inr (fun e => absurd (show W0.heap.size ≤ b from (hown.lt _ e).1) (by omega)))
theorem FldSt.set {b : Nat} {c0 c1 : Value} {W0 W : World} {fs : List Fd} {fv : Value} (h : FldSt b c0 c1 W0 W fs fv) (B : Nat) (hB : W0.heap.size ≤ B) (hne : fv.ownBlock ≠ some B) (o : Nat) (v : Value) : FldSt b c0 c1 W0 (W.setCell ⟨B, o, none⟩ v) fs fv := by
  obtain ⟨h1, h2, h3, h4, h5⟩ := h
  refine ⟨h1.setCell (show b ≤ B by omega) _, h2, fun j u hu => ?_, World.there_setCells h4 B o [v], ?_⟩
  · rw [World.cell?_setCell_other _ _ _ _ (by intro e; injection e with e1 e2; omega)]
    exact h3 j u hu
  · exact h5.kept (grown_set W _ _) (.inr hne)
theorem tyB_len {t : Ty} (h8 : t.fields.length ≤ 8) (hn : t.name.length ≤ 100) (hs : ∀ f ∈ t.fields, FShort t.sort f) : (tyB t ++ [10]).length ≤ 3900 := by
  have h := joinL_len 44 400 (t.fields.map (fdB t.sort)) (fun p hp => by obtain ⟨f, hf, rfl⟩ := List.mem_map.1 hp; exact fdB_len (hs f hf))
  rw [List.length_map] at h
  unfold tyB
  simp
  omega

set_option maxHeartbeats 8000000 in
theorem sForm_any (s d : List UInt8) (w : World) (hs : s.length ≤ 4000000) (hd : d.length ≤ 4000000) :
    Calls Tryz.prog 35 #[.string ⟨s.toArray⟩, .string ⟨d.toArray⟩] w fun e w' => e = .returned (formV (formL (bothL s d))) ∧ Below w.heap.size w w' := by
  have Hk := Lib.hid (fun W => sKind_any s d W hs hd)
  have Hgood := Lib.hid (fun S k (h : bothL s d = some (S, k)) => bothL_good h)
  generalize bothL s d = o at Hk Hgood
  go_enter Tryz.func35, Tryz.ntmps35
  go_wp2_with fail
  refine (Hk.out _).mono ?_
  rintro e w1 ⟨hcase, hb1⟩
  have Hb1 := Lib.hid hb1
  clear hb1
  cases o with
  | none =>
    obtain ⟨A, n, c, rfl⟩ := hcase
    go_wp2_with fail
    refine bodyPost_ret (v := .tuple #[.string ⟨#[]⟩, .string ⟨#[]⟩, .bool false]) (by simp [results, Tryz.results35, go_sem]) rfl ?_
    exact ⟨rfl, Hb1.out⟩
  | some x =>
    obtain ⟨S, k⟩ := x
    obtain ⟨v, xs, rfl, hxs, hsc⟩ := hcase
    simp only at hxs
    obtain ⟨hok, _, _, hkok, hkd, href⟩ := Hgood.out S k rfl
    subst hxs
    subst hkd
    obtain ⟨hlines, hkinds, _⟩ := hok
    have hx8 : xs.length ≤ 8 := by have := hlines.2.1; simpa [tysOf] using this
    have Hlines := Lib.hid hlines
    have hcl0 := metL_closed hkinds (by rw [tysOf_len]; exact hx8) href
    have Hclk := Lib.hid hcl0.1
    have Hclt := Lib.hid hcl0.2
    have hmets : Mets (tysOf xs) (metL (tysOf xs) k) := (metN_mets hkinds 9 k [] href (Mets.nil _)).1
    have hnl : (metL (tysOf xs) k).length ≤ 8 := by have := hmets.len; rw [tysOf_len] at this; omega
    have Hmets := Lib.hid hmets
    have HF : Hid (formL (some (tysOf xs, k)) = if (bothL (scB (formS (tysOf xs) (metL (tysOf xs) k))) (kdB (formK (metL (tysOf xs) k) k))).isSome = true then some (scB (formS (tysOf xs) (metL (tysOf xs) k)), kdB (formK (metL (tysOf xs) k) k)) else none) := rfl
    have Hsc := Lib.hid hsc
    have Hkok := Lib.hid hkok
    have Hwalk := Lib.hid (fun W nv (h : FormSt w1 v W [] nv) => show Calls Tryz.prog 76 #[.pointer (some ⟨w1.heap.size, 0, none⟩), .string ⟨(kdB k).toArray⟩] W (WkPost w1 v (metL (tysOf xs) k) W nv) from sWalk_any w1 v xs Hsc.out hkinds (fun x hx => hlines.1 _ (List.mem_map_of_mem hx)) hx8 9 k [] W nv hkok href (Mets.nil _) (by simp; omega) h)
    have hfl := formK_len (metL (tysOf xs) k) hkok
    generalize metL (tysOf xs) k = ns at *
    obtain ⟨A1, c1, rfl, _⟩ := hsc
    clear hlines hkinds hkok href hcl0 hmets Hgood Hk
    go_wp2_with fail
    refine (Hwalk.out _ (.slice none 0 0) ?_).mono ?_
    · exact ⟨(Below.refl _ _).alloc (Nat.le_refl _) _, by simp, by simp, by simp, there_new w1 [.slice A1 xs.length c1, .slice none 0 0] _, World.ownsRow_nil _ _ _ _⟩
    rintro e w2 ⟨rfl, nv, hst, _⟩
    obtain ⟨A, c, rfl, hrow⟩ := RowAt.own hst.2.2.2.2.2
    have Hst := Lib.hid hst
    have Hrow := Lib.hid hrow
    have Hb2 := Lib.hid (Hb1.out.trans (hst.1.mono Hb1.out.size))
    have m1 : w2.cell? ⟨w1.heap.size, 1, none⟩ = some (.slice A ns.length c) := hst.2.2.2.1
    have hz2 : w1.heap.size < w2.heap.size := hst.size
    have M1 := Lib.hid m1
    clear hst hrow Hwalk
    go_wp2_with fail
    go_loopw [39, 10] (fun i out wr => ∃ m : Nat, i = .int .i64 m ∧ m ≤ ns.length ∧ out = .string ⟨(scB ((ns.take m).filterMap fun n => (findTy (tysOf xs) n).map (formY ns))).toArray⟩ ∧ Hid ((scB ((ns.take m).filterMap fun n => (findTy (tysOf xs) n).map (formY ns))).length ≤ m * 4000) ∧ Hid (Below w2.heap.size w2 wr)) (fun i _ _ => ns.length - (intOf i).toNat)
    case atStart => exact ⟨0, rfl, Nat.zero_le _, rfl, by simp [Hid, scB], Below.refl _ _⟩
    case round =>
      obtain ⟨m, rfl, hm, rfl, hlen, hbr⟩ := hrel
      have j1 : (0 : Int) ≤ (m : Int) := by omega
      have hzr : w2.heap.size ≤ wr.heap.size := hbr.out.size
      have Hb12 := Lib.hid (Hst.out.below hbr.out).1
      by_cases hlt : m < ns.length
      · have j2 : (m : Int) < (ns.length : Int) := by omega
        obtain ⟨b, off, rfl, hb, hc⟩ := (Hrow.out.below hbr.out).at_ hlt
        have c0 : wr.cell? ⟨b, off + m, none⟩ = some (.string ⟨ns[m].toArray⟩) := by rw [hc]; simp [scells]
        have Hts := Lib.hid (take_snoc ns m hlt)
        have hnm := List.getElem_mem hlt
        have hsome := findTy_isSome.2 (Hmets.out.2 _ hnm)
        have Hcl1 := Lib.hid (Hclt.out ns[m] hnm)
        have Hname := Lib.hid (fun W' (h : Below w2.heap.size w2 W') => sName_any w1.heap.size (some ⟨b, off, none⟩) c ns ns[m] W' ((h.cell (p := ⟨w1.heap.size, 1, none⟩) hz2).trans M1.out) (Hrow.out.below h) hnl hnm)
        generalize ns[m] = nm at c0 Hts hsome Hcl1 Hname
        rw [findX_ty] at hsome
        obtain ⟨x, hxf⟩ := Option.isSome_iff_exists.1 (by simpa using hsome : (findX xs nm).isSome = true)
        obtain ⟨t, tv⟩ := x
        have hxm := findX_mem hxf
        have Hto := Lib.hid (Hlines.out.1 t (List.mem_map_of_mem (f := (·.1)) hxm.1))
        have hf8 : t.fields.length ≤ 8 := Hto.out.2.2.2.1
        have Hct := Lib.hid (Hcl1.out t hxm.2.2)
        have Htn := Lib.hid (show t.name = nm from hxm.2.1)
        have Hsn := Lib.hid (show (ns.take (m + 1)).filterMap (fun n => (findTy (tysOf xs) n).map (formY ns)) = (ns.take m).filterMap (fun n => (findTy (tysOf xs) n).map (formY ns)) ++ [formY ns t] from by rw [Hts.out]; exact formS_snoc hxm.2.2)
        obtain ⟨A4, c4, e4, hl4, hrow4⟩ := Hsc.out.fds hxm.1
        simp only [] at e4 hl4
        subst e4
        have Hrow4 := Lib.hid hrow4
        have Hfd := Lib.hid (fun W (h : Below w1.heap.size w1 W) => sFind_any _ xs nm W (Hsc.out.below h))
        rw [hxf] at Hfd
        unfold styR styV at Hfd
        have Hmc := Lib.hid M1.out
        have hcl := t.sort.toNat_lt
        generalize (ns.take m).filterMap (fun n => (findTy (tysOf xs) n).map (formY ns)) = acc at *
        clear hc hnm hsome hxf hxm hrow4
        go_wp2_with fail
        refine (Hfd.out _ Hb12.out).mono ?_
        rintro e w3 ⟨rfl, hb3⟩
        have Hb3 := Lib.hid (hbr.out.trans (hb3.mono hzr))
        have hz3 : wr.heap.size ≤ w3.heap.size := hb3.size
        clear hb3 c0
        go_wp2_with fail
        obtain ⟨W4, hW4⟩ : ∃ W4, W4 = w3.alloc (.cells #[.int .u8 (t.sort.toNat : Int), .string ⟨t.name.toArray⟩, .slice A4 t.fields.length c4] 86) := ⟨_, rfl⟩
        rw [← hW4]
        have X0 := Lib.hid (show W4.cell? ⟨w3.heap.size, 0, none⟩ = some (.int .u8 (t.sort.toNat : Int)) from by rw [hW4]; simp)
        have X2 := Lib.hid (show W4.cell? ⟨w3.heap.size, 2, none⟩ = some (.slice A4 t.fields.length c4) from by rw [hW4]; simp)
        have Hb4 := Lib.hid (show Below w2.heap.size w2 W4 from by rw [hW4]; exact Hb3.out.alloc (by omega) _)
        have L13 := Lib.hid (show w3.heap.size < W4.heap.size from by rw [hW4]; simp)
        have Hname := Lib.hid (fun W' (h : Below W4.heap.size W4 W') => Hname.out W' (Hb4.out.trans (h.mono Hb4.out.size)))
        generalize w3.heap.size = B13 at *
        clear hW4
        refine wp_region_slots3 [49, 50, 51, 52, 53, 54, 15, 999] (by kernel_rfl) (by kernel_rfl) (by kernel_rfl) (fun u => by dsimp only [frameOf, setMany, List.set, Nat.zero_add, Nat.reduceAdd])
          (fun ix v W => match ix with | 0 => v = .pointer (some ⟨B13, 0, none⟩) | 1 => v = .int .u8 (t.sort.toNat : Int) | 2 => v = .pointer (some ⟨w1.heap.size, 0, none⟩) | 3 => v = .string ⟨nm.toArray⟩ | 4 => v = .string ⟨(newN ns nm).toArray⟩ | 5 => v = .agg ([.int .u8 (t.sort.toNat : Int), .string ⟨(newN ns nm).toArray⟩, .slice none 0 0] : List Value).toArray | 6 => ∃ b, v = .pointer (some ⟨b, 0, none⟩) | _ => True)
          (fun L U W => Below W4.heap.size W4 W ∧ (L 6 = true → ∃ b7, U 6 = .pointer (some ⟨b7, 0, none⟩) ∧ W4.heap.size ≤ b7 ∧ b7 < W.heap.size ∧ W.there b7 0 3 ∧ (L 7 = true → W.rangeAt b7 0 [.int .u8 (t.sort.toNat : Int), .string ⟨(newN ns nm).toArray⟩, .slice none 0 0]))) (fun _ _ => True) (fun _ _ _ _ _ h => h) (⟨(Below.refl _ _).drew, fun h => Bool.noConfusion h⟩) ?_ ?_
        · repeat (first | exact Steps.nil | (refine Steps.cons ?_ ?_; rotate_left))
          all_goals
            rintro L U W hL hpre hR hun hdep K hK
            have HR := Lib.hid hR
            obtain ⟨R1, R2⟩ := HR.out
            have c1 : W.cell? ⟨B13, 0, none⟩ = some (.int .u8 (t.sort.toNat : Int)) := (R1.cell (p := ⟨B13, 0, none⟩) L13.out).trans X0.out
            have Hdep := Lib.hid hdep
            clear hun hdep hR
            first | (simp [Region.binds] at hpre; done) | simp [Region.binds] at hpre | clear hpre
          iterate 4
            · go_simp
              first | exact hK _ _ _ rfl trivial HR.out rfl | exact hK _ _ _ rfl trivial HR.out (by simp [Act.put, hpre]) | exact hK undef _ _ trivial trivial HR.out (by simp [Act.put, hpre]) | exact hK _ _ _ trivial trivial HR.out rfl | exact hK _ _ _ trivial trivial HR.out (by simp [Act.put, hpre])
          · go_simp
            refine (Hname.out W R1).mono ?_
            rintro e w5 ⟨rfl, hb5⟩
            exact hK _ _ _ rfl trivial ⟨R1.trans (hb5.mono R1.size), fun h => by obtain ⟨b7, q1, q2, q3, q4, q5⟩ := R2 h; exact ⟨b7, q1, q2, Nat.lt_of_lt_of_le q3 hb5.size, there_below q4 q3 hb5, fun h2 => rangeAt_below (q5 h2) q3 hb5⟩⟩ (by simp [Act.put, hpre])
          · go_simp
            first | exact hK _ _ _ rfl trivial HR.out rfl | exact hK _ _ _ rfl trivial HR.out (by simp [Act.put, hpre]) | exact hK undef _ _ trivial trivial HR.out (by simp [Act.put, hpre]) | exact hK _ _ _ trivial trivial HR.out rfl | exact hK _ _ _ trivial trivial HR.out (by simp [Act.put, hpre])
          · have h7 : L 7 = false := Hdep.out 7 _ rfl { on := 6, ground := Ground.data } (by simp) (by rfl) hL
            go_simp
            refine hK _ _ _ ⟨_, rfl⟩ trivial ⟨R1.alloc R1.size _, fun _ => ⟨W.heap.size, rfl, R1.size, by simp, there_new W [.int .u8 0, .string ⟨#[]⟩, .slice none 0 0] _, fun h => absurd (h7.symm.trans (by simpa using h)) (by decide)⟩⟩ (by simp [Act.put])
          · obtain ⟨l6, b9, u6⟩ : L 6 = true ∧ ∃ b, U 6 = .pointer (some ⟨b, 0, none⟩) := by
              first | exact hpre.1 | exact hpre.2 | exact hpre.2.1 | exact ⟨hpre.1.1, hpre.1.2⟩
            obtain ⟨b7, hu, h1, h2, h3, _⟩ := R2 l6
            have u5 : U 5 = .agg ([.int .u8 (t.sort.toNat : Int), .string ⟨(newN ns nm).toArray⟩, .slice none 0 0] : List Value).toArray := by first | exact hpre.1.2 | exact hpre.2.1.2 | exact hpre.2.2
            rw [if_pos (by rfl)]
            refine wp_store_mid 86 _ _ rfl b7 0 ([.int .u8 (t.sort.toNat : Int), .string ⟨(newN ns nm).toArray⟩, .slice none 0 0] : List Value).toArray hu u5 h3 (by kernel_rfl) (by simp [Value.oneCell']) ?_
            exact hK undef _ _ trivial trivial ⟨below_setCells _ h1 _ _ _ R1, fun _ => ⟨b7, hu, h1, by rw [setCells_size]; exact h2, World.there_setCells h3 _ _ _, fun _ => World.rangeAt_setCells_same _ _ _ _ h3⟩⟩ rfl
        · rintro L U W hL hφ hR
          clear hφ
          obtain ⟨hbw, hR2⟩ := hR
          obtain ⟨b15, u15, hb15, hb15l, hT15, hrg⟩ := hR2 (hL 6 (by decide))
          have hrg := hrg (hL 7 (by decide))
          have hzW4 : W4.heap.size ≤ W.heap.size := hbw.size
          have L13' := L13.out
          obtain ⟨W5, hW5⟩ : ∃ W5, W5 = W := ⟨_, rfl⟩
          rw [← hW5] at hbw hb15l hT15 hrg hzW4 ⊢
          simp only [u15]
          have X0' := Lib.hid ((hbw.cell (p := ⟨B13, 0, none⟩) L13.out).trans X0.out)
          have X2' := Lib.hid ((hbw.cell (p := ⟨B13, 2, none⟩) L13.out).trans X2.out)
          have Hb5 := Lib.hid (Hb4.out.trans (hbw.mono Hb4.out.size))
          have y0 := Lib.hid (rangeAt_cell hrg 0 rfl)
          have y1 := Lib.hid (rangeAt_cell hrg 1 rfl)
          have y2 := Lib.hid (rangeAt_cell hrg 2 rfl)
          have HT15 := Lib.hid hT15
          have h13 : B13 < b15 := by omega
          clear hL hR2 hbw hT15 hrg u15 hW5 X0 X2
          have hz5 : w1.heap.size < W5.heap.size := by omega
          have Hfk := Lib.hid (fun W' (k : Kd) (h : Below w2.heap.size w2 W') (hk : kdOk k) (hn : k.base = [64] → k.name ∈ ns) => sFKind_any w1.heap.size (some ⟨b, off, none⟩) c ns k W' ((h.cell (p := ⟨w1.heap.size, 1, none⟩) hz2).trans M1.out) (Hrow.out.below h) hnl hk hn (by have := h.size; omega))
          have Hshort := Lib.hid (show ∀ g ∈ (formY ns t).fields, FShort (formY ns t).sort g from fun g hg => by obtain ⟨f, hf, rfl⟩ := List.mem_map.1 hg; exact formF_short (Hto.out.2.2.1.1 f hf))
          have hf8' : (formY ns t).fields.length ≤ 8 := by show (t.fields.map _).length ≤ 8; rw [List.length_map]; exact hf8
          have hnl' : (formY ns t).name.length ≤ 100 := by show 2 ≤ 100; decide
          have Hout := Lib.hid (fun W fv (hf : SFds W fv (t.fields.map (formF ns t.sort))) => show Calls Tryz.prog 79 #[.agg #[.int .u8 (t.sort.toNat : Int), .string ⟨(newN ns nm).toArray⟩, fv]] W fun e w' => e = .returned (.string ⟨(tyB (formY ns t) ++ [10]).toArray⟩) ∧ Below W.heap.size W w' from by rw [← Htn.out]; exact sOut_any (formY ns t) fv W hf hf8' hnl' Hshort.out)
          have htl := tyB_len hf8' hnl' Hshort.out
          have Hsn2 := Lib.hid (show scB ((ns.take (m + 1)).filterMap fun n => (findTy (tysOf xs) n).map (formY ns)) = scB acc ++ (tyB (formY ns t) ++ [10]) from by rw [Hsn.out, scB_snoc])
          generalize tyB (formY ns t) ++ [10] = tb at Hout htl Hsn2
          have HI0 := Lib.hid (show FldSt b15 (.int .u8 (t.sort.toNat : Int)) (.string ⟨(newN ns nm).toArray⟩) W5 W5 [] (.slice none 0 0) from ⟨Below.refl _ _, hb15l, fun j v hv => by match j, hv with | 0, hv => (injection hv with hv; subst hv; exact y0.out) | 1, hv => (injection hv with hv; subst hv; exact y1.out) | 2, hv => (injection hv with hv; subst hv; exact y2.out), HT15.out, World.ownsRow_nil _ _ _ _⟩)
          obtain ⟨wo, rfl⟩ : ∃ wo : World, wo = wr := ⟨_, rfl⟩
          go_wp2_with fail
          go_loopw [16] (fun i wr => ∃ (j : Nat) (fv : Value), i = .int .i64 j ∧ j ≤ t.fields.length ∧ Hid (FldSt b15 (.int .u8 (t.sort.toNat : Int)) (.string ⟨(newN ns nm).toArray⟩) W5 wr ((t.fields.take j).map (formF ns t.sort)) fv)) (fun i _ => t.fields.length - (intOf i).toNat)
          case atStart => exact ⟨0, _, rfl, Nat.zero_le _, HI0.out⟩
          case round =>
            obtain ⟨j, fv, rfl, hj, hI⟩ := hrel
            have j3 : (0 : Int) ≤ (j : Int) := by omega
            have hszi := hI.out.size
            have x0 : wr.cell? ⟨B13, 0, none⟩ = some (.int .u8 (t.sort.toNat : Int)) := (hI.out.1.cell (p := ⟨B13, 0, none⟩) h13).trans X0'.out
            have x2 : wr.cell? ⟨B13, 2, none⟩ = some (.slice A4 t.fields.length c4) := (hI.out.1.cell (p := ⟨B13, 2, none⟩) h13).trans X2'.out
            have Hbi := Lib.hid (show Below w2.heap.size w2 wr from Hb5.out.trans (hI.out.1.mono (by omega)))
            have Hbi1 := Lib.hid (show Below w1.heap.size w1 wr from (Hst.out.below Hbi.out).1)
            obtain ⟨A3, n3, c3, e3⟩ := own_slice hI.out.2.2.2.2
            subst e3
            by_cases hjl : j < t.fields.length
            · have j4 : (j : Int) < (t.fields.length : Int) := by omega
              obtain ⟨bb, off2, rfl, hbb, g0, g1, g2, g3⟩ := SFds.at_ (Hrow4.out.below Hbi1.out) hjl
              have Hfs := Lib.hid (take_snoc t.fields j hjl)
              have Hgm := Lib.hid (List.getElem_mem hjl)
              generalize t.fields[j] = g at g0 g1 g2 g3 Hfs Hgm
              have hbbn : ¬ (bb = wr.heap.size) := by omega
              have n13 : ¬ (B13 = wr.heap.size) := by omega
              have l13 : B13 < wr.heap.size := by omega
              have n15 : ¬ (b15 = wr.heap.size) := by omega
              have l15 : b15 < wr.heap.size := by omega
              have m15 : wr.cell? ⟨b15, 2, none⟩ = some (.slice A3 n3 c3) := by simpa using rangeAt_cell hI.out.2.2.1 2 rfl
              have hb6 : Below wr.heap.size wr (wr.alloc (.cells #[.int .i64 (g.tag : Int), .string ⟨g.name.toArray⟩, .string ⟨(kdB g.kind).toArray⟩, .string ⟨g.given.toArray⟩] 120)) := (Below.refl _ _).alloc (Nat.le_refl _) _
              have HI6 := Lib.hid (hI.out.below hb6)
              have hjlen : ((t.fields.take j).map (formF ns t.sort)).length = j := by rw [List.length_map, List.length_take]; omega
              by_cases h69 : t.sort = 69
              · have t69 : ((t.sort.toNat : Int) != 69) = false := by have := byte_eq (d := 69) h69; simpa using this
                have Hff := Lib.hid (show (t.fields.take (j + 1)).map (formF ns t.sort) = (t.fields.take j).map (formF ns t.sort) ++ [g] from by rw [Hfs.out, List.map_append, List.map_singleton]; unfold formF; rw [if_pos h69])
                clear h69
                go_wp2_with (at_builtin; go_loud (refine wpList_appKW (wr.alloc (.cells #[.int .i64 (g.tag : Int), .string ⟨g.name.toArray⟩, .string ⟨(kdB g.kind).toArray⟩, .string ⟨g.given.toArray⟩] 120)) rfl (.tmp 76) (.tmp 78) 84 rfl W5.heap.size 120 sf0 4 56 Tryz.underlying84 Tryz.infoSf rfl (by decide) [.int .i64 (g.tag : Int), .string ⟨g.name.toArray⟩, .string ⟨(kdB g.kind).toArray⟩, .string ⟨g.given.toArray⟩] rfl (by intro y hy; simp at hy; rcases hy with rfl | rfl | rfl | rfl <;> rfl) (.slice A3 n3 c3) ((t.fields.take j).map (formF ns t.sort)).length (((t.fields.take j).map (formF ns t.sort)).flatMap sfc) rfl (show Value.slice (some ⟨wr.heap.size + 1, 0, none⟩) 1 1 = Value.slice (some ⟨(wr.alloc (.cells #[.int .i64 (g.tag : Int), .string ⟨g.name.toArray⟩, .string ⟨(kdB g.kind).toArray⟩, .string ⟨g.given.toArray⟩] 120)).heap.size, 0, none⟩) 1 1 from by simp) HI6.out.2.2.2.2 (by rw [hjlen]; unfold maxLen; omega) (by rw [hjlen]; omega) (by simp; omega) ?_); intro v5 w5 hown5 hg5 _; obtain ⟨A5, n5, c5, e5⟩ := own_slice hown5; subst e5; have HP := Lib.hid (FldSt.push (f := g) HI6.out hown5 hg5); have f5 : w5.frozen? ⟨b15, 2, none⟩ = false := (by simpa using (HP.out.1 2 (by decide)).2); have p5 : w5.cell? ⟨b15, 2, none⟩ = some (.slice A3 n3 c3) := (by simpa using rangeAt_cell HP.out.2.1 2 rfl); clear hown5 hg5)
                go_roundw
                case rel => exact ⟨j + 1, .slice A5 n5 c5, by go_num, by omega, by rw [Hff.out]; exact HP.out.2.2⟩
                case measure => simp [intOf]; omega
              · have t69 : ((t.sort.toNat : Int) != 69) = true := by have := byte_ne (d := 69) h69; simpa using this
                have Hff := Lib.hid (show (t.fields.take (j + 1)).map (formF ns t.sort) = (t.fields.take j).map (formF ns t.sort) ++ [{ g with kind := formK ns g.kind }] from by rw [Hfs.out, List.map_append, List.map_singleton]; unfold formF; rw [if_neg h69])
                have Hkd := Lib.hid ((Hto.out.2.2.1.1 g Hgm.out).2.2.2.2 h69).1
                have Hcg := Lib.hid (Hct.out h69 g Hgm.out)
                clear h69
                have hk6 := Hfk.out _ g.kind (Hbi.out.trans (hb6.mono Hbi.out.size)) Hkd.out Hcg.out
                have hnown : (Value.slice A3 n3 c3).ownBlock ≠ some wr.heap.size := fun e => absurd (hI.out.2.2.2.2.lt _ e).2 (by omega)
                have X6 := Lib.hid (rangeAt_new wr [.int .i64 (g.tag : Int), .string ⟨g.name.toArray⟩, .string ⟨(kdB g.kind).toArray⟩, .string ⟨g.given.toArray⟩] 120)
                have T6 := Lib.hid (there_new wr [.int .i64 (g.tag : Int), .string ⟨g.name.toArray⟩, .string ⟨(kdB g.kind).toArray⟩, .string ⟨g.given.toArray⟩] 120)
                go_wp2_with fail
                obtain ⟨W6, hW6⟩ : ∃ W6, W6 = (wr.alloc (.cells #[.int .i64 (g.tag : Int), .string ⟨g.name.toArray⟩, .string ⟨(kdB g.kind).toArray⟩, .string ⟨g.given.toArray⟩] 120)) := ⟨_, rfl⟩
                have z6 : wr.heap.size < W6.heap.size := by rw [hW6]; simp
                have hX : W6.rangeAt wr.heap.size 0 [.int .i64 (g.tag : Int), .string ⟨g.name.toArray⟩, .string ⟨(kdB g.kind).toArray⟩, .string ⟨g.given.toArray⟩] := by rw [hW6]; exact X6.out
                have hT : W6.there wr.heap.size 0 4 := by rw [hW6]; exact T6.out
                rw [← hW6] at hb6 hk6 HI6 ⊢
                generalize wr.heap.size = B17 at *
                refine hk6.mono ?_
                rintro e w7 ⟨rfl, hb7⟩
                have hX7 := rangeAt_below hX z6 hb7
                have hT7 := there_below hT z6 hb7
                have HI7 := Lib.hid ((HI6.out.below hb7))
                have z7 := hb7.size
                clear hk6 X6 T6 hX hT g0 g1 g2 g3 m15
                have q2 : w7.cell? ⟨B17, 2, none⟩ = some (.string ⟨(kdB g.kind).toArray⟩) := by simpa using rangeAt_cell hX7 2 rfl
                have qf : w7.frozen? ⟨B17, 2, none⟩ = false := by simpa using (hT7 2 (by decide)).2
                have HI8 := Lib.hid (HI7.out.set B17 (by omega) hnown 2 (.string ⟨(kdB (formK ns g.kind)).toArray⟩))
                have r0 : (w7.setCell ⟨B17, 2, none⟩ (.string ⟨(kdB (formK ns g.kind)).toArray⟩)).rangeAt B17 0 [.int .i64 (g.tag : Int), .string ⟨g.name.toArray⟩, .string ⟨(kdB (formK ns g.kind)).toArray⟩, .string ⟨g.given.toArray⟩] := rangeAt_setCells_in (l2' := [.string ⟨(kdB (formK ns g.kind)).toArray⟩]) [.int .i64 (g.tag : Int), .string ⟨g.name.toArray⟩] [.string ⟨(kdB g.kind).toArray⟩] [.string ⟨g.given.toArray⟩] hX7 rfl
                have z8 : W5.heap.size ≤ (w7.setCell ⟨B17, 2, none⟩ (.string ⟨(kdB (formK ns g.kind)).toArray⟩)).heap.size := by simp; omega
                have q0 : w7.cell? ⟨B17, 0, none⟩ = some (.int .i64 (g.tag : Int)) := by simpa using rangeAt_cell hX7 0 rfl
                have q1 : w7.cell? ⟨B17, 1, none⟩ = some (.string ⟨g.name.toArray⟩) := by simpa using rangeAt_cell hX7 1 rfl
                have q4 : w7.cell? ⟨B17, 3, none⟩ = some (.string ⟨g.given.toArray⟩) := by simpa using rangeAt_cell hX7 3 rfl
                have m15 : w7.cell? ⟨b15, 2, none⟩ = some (.slice A3 n3 c3) := by simpa using rangeAt_cell HI7.out.2.2.1 2 rfl
                clear r0
                go_wp2_with (at_builtin; go_loud (refine wpList_appKW (w7.setCell ⟨B17, 2, none⟩ (.string ⟨(kdB (formK ns g.kind)).toArray⟩)) rfl (.tmp 76) (.tmp 78) 84 rfl W5.heap.size 120 sf0 4 56 Tryz.underlying84 Tryz.infoSf rfl (by decide) [.int .i64 (g.tag : Int), .string ⟨g.name.toArray⟩, .string ⟨(kdB (formK ns g.kind)).toArray⟩, .string ⟨g.given.toArray⟩] rfl (by intro y hy; simp at hy; rcases hy with rfl | rfl | rfl | rfl <;> rfl) (.slice A3 n3 c3) ((t.fields.take j).map (formF ns t.sort)).length (((t.fields.take j).map (formF ns t.sort)).flatMap sfc) rfl (show Value.slice (some ⟨w7.heap.size, 0, none⟩) 1 1 = Value.slice (some ⟨(w7.setCell ⟨B17, 2, none⟩ (.string ⟨(kdB (formK ns g.kind)).toArray⟩)).heap.size, 0, none⟩) 1 1 from by simp) HI8.out.2.2.2.2 (by rw [hjlen]; unfold maxLen; omega) (by rw [hjlen]; omega) z8 ?_); intro v5 w5 hown5 hg5 _; obtain ⟨A5, n5, c5, e5⟩ := own_slice hown5; subst e5; have HP := Lib.hid (FldSt.push (f := { g with kind := formK ns g.kind }) HI8.out hown5 hg5); have f5 : w5.frozen? ⟨b15, 2, none⟩ = false := (by simpa using (HP.out.1 2 (by decide)).2); have p5 : w5.cell? ⟨b15, 2, none⟩ = some (.slice A3 n3 c3) := (by simpa using rangeAt_cell HP.out.2.1 2 rfl); clear hown5 hg5)
                go_roundw
                case rel => exact ⟨j + 1, .slice A5 n5 c5, by go_num, by omega, by rw [Hff.out]; exact HP.out.2.2⟩
                case measure => simp [intOf]; omega
            · obtain rfl : j = t.fields.length := by omega
              have p0 : wr.cell? ⟨b15, 0, none⟩ = some (.int .u8 (t.sort.toNat : Int)) := by simpa using rangeAt_cell hI.out.2.2.1 0 rfl
              have p1 : wr.cell? ⟨b15, 1, none⟩ = some (.string ⟨(newN ns nm).toArray⟩) := by simpa using rangeAt_cell hI.out.2.2.1 1 rfl
              have p2 : wr.cell? ⟨b15, 2, none⟩ = some (.slice A3 n3 c3) := by simpa using rangeAt_cell hI.out.2.2.1 2 rfl
              have hrow9 := hI.out.2.2.2.2
              rw [List.take_length] at hrow9
              obtain ⟨A9, c9, e9, hr9⟩ := RowAt.ownK hrow9 (by rw [List.length_map]; unfold maxLen; omega)
              injection e9 with e9 e10 e11
              subst e9 e10 e11
              have hout9 := Lib.hid (Hout.out wr _ ⟨A3, c3, rfl, by rw [List.length_map]; omega, hr9⟩)
              have hl1 : (scB acc).length ≤ m * 4000 := hlen.out
              have hm8 : m * 4000 ≤ 32000 := by omega
              generalize (t.fields.map (formF ns t.sort)).length = n3 at *
              clear hrow9 hr9
              go_wp2_with fail
              refine hout9.out.mono ?_
              rintro e w9 ⟨rfl, hb9⟩
              have Hb9 := Lib.hid (Hbi.out.trans (hb9.mono Hbi.out.size))
              clear p0 p1 p2 hb9
              go_wp2_with fail
              go_roundw
              case rel => exact ⟨m + 1, by go_num, by omega, by rw [Hsn2.out], by rw [Hid] at *; rw [Hsn2, List.length_append]; omega, Hb9.out⟩
              case measure => simp [intOf]; omega
      · obtain rfl : m = ns.length := by omega
        have Hfk := Lib.hid (fun W' (h : Below w2.heap.size w2 W') => sFKind_any w1.heap.size A c ns k W' ((h.cell (p := ⟨w1.heap.size, 1, none⟩) hz2).trans M1.out) (Hrow.out.below h) hnl Hkok.out Hclk.out (by have := h.size; omega))
        have hl1 : (scB ((ns.take ns.length).filterMap fun n => (findTy (tysOf xs) n).map (formY ns))).length ≤ ns.length * 4000 := hlen.out
        have hm8 : ns.length * 4000 ≤ 32000 := by omega
        have Heq : Hid ((ns.take ns.length).filterMap (fun n => (findTy (tysOf xs) n).map (formY ns)) = formS (tysOf xs) ns) := by rw [Hid, List.take_length]; rfl
        have HF2 := HF.out
        rw [← Heq.out] at HF2
        generalize (ns.take ns.length).filterMap (fun n => (findTy (tysOf xs) n).map (formY ns)) = fin at *
        clear Heq
        have Hk2 := Lib.hid (fun W => sKind_any (scB fin) (kdB (formK ns k)) W (by omega) (by omega))
        generalize hkd2 : kdB (formK ns k) = kd at *
        generalize hsb : scB fin = sb at *
        go_wp2_with fail
        refine (Hfk.out _ hbr.out).mono ?_
        rintro e w9 ⟨rfl, hb9⟩
        have Hb9 := Lib.hid (hbr.out.trans (hb9.mono hzr))
        clear hb9
        go_wp2_with fail
        refine (Hk2.out _).mono ?_
        rintro e w10 ⟨hcase, hb10⟩
        have Hb10 := Lib.hid (Hb9.out.trans (hb10.mono Hb9.out.size))
        have Hbz := Lib.hid (Hb2.out.trans (Hb10.out.mono Hb2.out.size))
        clear hb10
        cases ho : bothL sb kd with
        | none =>
          rw [ho] at hcase HF2
          obtain ⟨A', n', c', rfl⟩ := hcase
          have HF3 := Lib.hid HF2
          clear ho HF2 HF
          go_wp2_with fail
          refine bodyPost_ret (v := .tuple #[.string ⟨#[]⟩, .string ⟨#[]⟩, .bool false]) (by simp [results, Tryz.results35, go_sem]) rfl ?_
          exact ⟨by rw [HF3.out]; rfl, Hbz.out⟩
        | some z =>
          rw [ho] at hcase HF2
          obtain ⟨v', xs', rfl, _, hsc'⟩ := hcase
          obtain ⟨A', c', rfl, _⟩ := hsc'
          have HF3 := Lib.hid HF2
          clear ho HF2 HF
          go_wp2_with fail
          refine (Hfk.out _ Hb10.out).mono ?_
          rintro e w11 ⟨rfl, hb11⟩
          have Hb11 := Lib.hid (Hbz.out.trans (hb11.mono Hbz.out.size))
          clear hb11
          go_wp2_with fail
          refine bodyPost_ret (v := .tuple #[.string ⟨sb.toArray⟩, .string ⟨kd.toArray⟩, .bool true]) (by simp [results, Tryz.results35, go_sem]) rfl ?_
          exact ⟨by rw [HF3.out]; rfl, Hb11.out⟩
end Go.Proofs.YtdhinlhafoiaiaaGreatDoor
/- The reference's SchemaAlike. -/
namespace Go.Proofs.YtdhinlhafoiaiaaGreatDoor
open Go.RowKit
set_option maxRecDepth 100000
set_option linter.unusedVariables false
set_option linter.unusedSimpArgs false
attribute [local go_sem] ba_get ba_toList ba_extract take_drop_all ByteArray.mk_append_mk

/-- Whether two forms are one. -/
def alikeB : Option (List UInt8 × List UInt8) → Option (List UInt8 × List UInt8) → Bool
  | some a, some b => a.1 == b.1 && a.2 == b.2
  | _, _ => false
set_option maxHeartbeats 1000000 in
theorem sAlike_any (a b c d : List UInt8) (w : World) (ha : a.length ≤ 4000000) (hb : b.length ≤ 4000000) (hc : c.length ≤ 4000000) (hd : d.length ≤ 4000000) :
    Calls Tryz.prog 40 #[.string ⟨a.toArray⟩, .string ⟨b.toArray⟩, .string ⟨c.toArray⟩, .string ⟨d.toArray⟩] w fun e w' => e = .returned (.bool (alikeB (formL (bothL a b)) (formL (bothL c d)))) ∧ Below w.heap.size w w' := by
  have H1 := Lib.hid (fun W => sForm_any a b W ha hb)
  have H2 := Lib.hid (fun W => sForm_any c d W hc hd)
  generalize formL (bothL a b) = x at *
  generalize formL (bothL c d) = y at *
  go_enter Tryz.func40, Tryz.ntmps40
  go_wp2_with fail
  refine (H1.out _).mono ?_
  rintro e w1 ⟨he, hb1⟩
  have Hb1 := Lib.hid hb1
  clear hb1 H1
  rcases x with _ | ⟨x1, x2⟩
  · obtain rfl : e = .returned (.tuple #[.string ⟨#[]⟩, .string ⟨#[]⟩, .bool false]) := he
    go_wp2_with fail
    refine (H2.out _).mono ?_
    rintro e w2 ⟨he, hb2⟩
    have Hb2 := Lib.hid (Hb1.out.trans (hb2.mono Hb1.out.size))
    clear hb2 H2
    rcases y with _ | ⟨y1, y2⟩
    · obtain rfl : e = .returned (.tuple #[.string ⟨#[]⟩, .string ⟨#[]⟩, .bool false]) := he
      go_wp2_with fail
      go_ret
      exact ⟨rfl, Hb2.out⟩
    · obtain rfl : e = .returned (.tuple #[.string ⟨y1.toArray⟩, .string ⟨y2.toArray⟩, .bool true]) := he
      go_wp2_with fail
      go_ret
      exact ⟨rfl, Hb2.out⟩
  · obtain rfl : e = .returned (.tuple #[.string ⟨x1.toArray⟩, .string ⟨x2.toArray⟩, .bool true]) := he
    go_wp2_with fail
    refine (H2.out _).mono ?_
    rintro e w2 ⟨he, hb2⟩
    have Hb2 := Lib.hid (Hb1.out.trans (hb2.mono Hb1.out.size))
    clear hb2 H2
    rcases y with _ | ⟨y1, y2⟩
    · obtain rfl : e = .returned (.tuple #[.string ⟨#[]⟩, .string ⟨#[]⟩, .bool false]) := he
      go_wp2_with fail
      go_ret
      exact ⟨rfl, Hb2.out⟩
    · obtain rfl : e = .returned (.tuple #[.string ⟨y1.toArray⟩, .string ⟨y2.toArray⟩, .bool true]) := he
      by_cases h1 : x1 = y1
      · have t1 : (x1 == y1) = true := by simpa using h1
        clear h1
        by_cases h2 : x2 = y2
        · have t2 : (x2 == y2) = true := by simpa using h2
          clear h2
          have Hr := Lib.hid (show alikeB (some (x1, x2)) (some (y1, y2)) = true from by simp [alikeB, t1, t2])
          go_wp2_with fail
          go_ret
          exact ⟨by rw [Hr.out]; rfl, Hb2.out⟩
        · have t2 : (x2 == y2) = false := by simpa using h2
          clear h2
          have Hr := Lib.hid (show alikeB (some (x1, x2)) (some (y1, y2)) = false from by simp [alikeB, t1, t2])
          go_wp2_with fail
          go_ret
          exact ⟨by rw [Hr.out]; rfl, Hb2.out⟩
      · have t1 : (x1 == y1) = false := by simpa using h1
        clear h1
        have Hr := Lib.hid (show alikeB (some (x1, x2)) (some (y1, y2)) = false from by simp [alikeB, t1])
        go_wp2_with fail
        go_ret
        exact ⟨by rw [Hr.out]; rfl, Hb2.out⟩
end Go.Proofs.YtdhinlhafoiaiaaGreatDoor
/- strings.Builder at this seat: copyCheck, Len, WriteString, String over a builder that the call has made itself. Conditions: none beside those that each theorem names. -/
namespace Go.Proofs.YtdhinlhafoiaiaaGreatDoor
open Go.RowKit
set_option maxRecDepth 100000
set_option linter.unusedVariables false

/-- A builder in block b, of the call's own, that holds the bytes l. -/
abbrev Bld (B b : Nat) (l : List UInt8) (w : World) : Prop := Lib.IsBuilder 92 5 B b (bcells l) w
abbrev BldAt (B b : Nat) (p : Value) (bs : List Value) (w : World) : Prop := Lib.BuilderAt 92 5 B b p bs w

theorem Tryz.sizeBuilder : (Tryz.prog.info? 92).map (·.size) = some 2 := by kernel_rfl
theorem Tryz.liesBuilder : liesAt Tryz.prog Tryz.prog.depth 92 (2 / Tryz.prog.cellsOf 92) 0 92 1 = true := by kernel_rfl
theorem Tryz.cellsByte : Tryz.prog.cellsOf 5 = 1 := by kernel_rfl

theorem strCells_eq (s : List UInt8) : Lib.strCells ⟨s.toArray⟩ = bcells s := by simp [Lib.strCells, bcells]
theorem byteCells_eq (s : List UInt8) : Lib.byteCells s = bcells s := by simp [Lib.byteCells, bcells]

set_option maxHeartbeats 1000000 in
theorem copyCheck_used (b : Nat) (w : World) (h0 : w.cell? ⟨b, 0, none⟩ = some (.pointer (some ⟨b, 0, none⟩))) :
    Calls Tryz.prog 98 #[.pointer (some ⟨b, 0, none⟩)] w fun e w' => e = .returned (.tuple #[]) ∧ w' = w := by
  obtain ⟨j, hj, _⟩ := Option.map_eq_some_iff.1 Tryz.sizeBuilder
  go_enter Tryz.func98, Tryz.ntmps98
  go_wp2
  rw [Lib.run_neq_ptr_same w _ Tryz.underlying90 hj]
  go_wp2
  go_end0
  exact ⟨rfl, rfl⟩

set_option maxHeartbeats 1000000 in
theorem copyCheck_fresh (b : Nat) (w : World) (h0 : w.cell? ⟨b, 0, none⟩ = some (.pointer none)) (hsh : w.shape? b = some (92, 2)) (hfz : w.frozen? ⟨b, 0, none⟩ = false) :
    Calls Tryz.prog 98 #[.pointer (some ⟨b, 0, none⟩)] w fun e w' => e = .returned (.tuple #[]) ∧ w' = w.setCell ⟨b, 0, none⟩ (.pointer (some ⟨b, 0, none⟩)) := by
  obtain ⟨j, hj, hjs⟩ := Option.map_eq_some_iff.1 Tryz.sizeBuilder
  go_enter Tryz.func98, Tryz.ntmps98
  go_wp2
  rw [Lib.run_to_unsafe w ⟨b, 0, none⟩ Tryz.underlying90 Tryz.underlying168 hj (by rw [hjs]; decide) hsh (Nat.zero_lt_succ 1)]
  simp only [Result.andThen]
  rw [Oper.upon_value]
  go_wp2
  rw [run_callFunc_extern Tryz.func125 (by kernel_rfl) (by kernel_rfl) (by kernel_rfl) (e := Extern.AbiNoEscape.same) (by kernel_rfl)]
  rw [Lib.run_noEscape]
  simp only [Result.andThen]
  rw [Oper.upon_value]
  go_wp2
  rw [Lib.run_from_unsafe w ⟨b, 0, none⟩ Tryz.underlying168 Tryz.underlying90 hj hsh Tryz.liesBuilder]
  simp only [Result.andThen]
  rw [Oper.upon_value]
  go_wp2
  go_end0
  exact ⟨rfl, rfl⟩

theorem copyCheck_any (B b : Nat) (bs : List Value) (w : World) (h : Lib.IsBuilder 92 5 B b bs w) :
    Calls Tryz.prog 98 #[.pointer (some ⟨b, 0, none⟩)] w fun e w' => e = .returned (.tuple #[]) ∧ (BldAt B b (.pointer (some ⟨b, 0, none⟩)) bs w' ∧ Below B w w') := by
  rcases h with h | h
  · refine (copyCheck_fresh b w h.cell0 h.shape h.frozen0).mono ?_
    rintro e w' ⟨rfl, rfl⟩
    exact ⟨rfl, h.used _, (Below.refl B w).setCell (p := ⟨b, 0, none⟩) h.1 _⟩
  · refine (copyCheck_used b w h.cell0).mono ?_
    rintro e w' ⟨rfl, rfl⟩
    exact ⟨rfl, h, Below.refl B _⟩

set_option maxHeartbeats 2000000 in
theorem BWrite_any (B b : Nat) (l s : List UInt8) (w : World) (h : Bld B b l w) (hlen : l.length + s.length ≤ 140737488355328) (hBw : B ≤ w.heap.size) :
    Calls Tryz.prog 63 #[.pointer (some ⟨b, 0, none⟩), .string ⟨s.toArray⟩] w fun e w' => e = .returned (.tuple #[.int .i64 s.length, .nilIface]) ∧ Bld B b (l ++ s) w' ∧ Below B w w' := by
  obtain ⟨i0, hi, hz0, hz1, hz2⟩ := info_parts Tryz.infoU8
  go_enter Tryz.func63, Tryz.ntmps63
  go_wp2_with fail
  refine (copyCheck_any B b (bcells l) _ h).mono ?_
  rintro e w1 ⟨rfl, h1, hb1⟩
  obtain ⟨hB, v, hbk, hown, hne⟩ := h1
  have c0 : w1.cell? ⟨b, 0, none⟩ = some (.pointer (some ⟨b, 0, none⟩)) := by rw [Lib.cell_of_heap hbk]; rfl
  have c1 : w1.cell? ⟨b, 1, none⟩ = some v := by rw [Lib.cell_of_heap hbk]; rfl
  have hlB : (bcells l).length = l.length := bcells_length l
  have hsB : (ByteArray.mk s.toArray).size = s.length := rfl
  go_wp2_with (at_builtin; refine Lib.wpList_append_own_string _ rfl _ _ 22 9 rfl B 5 i0 Tryz.underlying22 Tryz.underlying9 hi hz0 hz1 hz2 _ _ _ rfl hown ⟨s.toArray⟩ rfl ?c3 ?c4 ?c5 ?_)
  case c3 => unfold maxLen; omega
  case c4 => omega
  case c5 => have := hb1.size; omega
  intro v' w2 hown' hgrow _
  have hlt : b < w1.heap.size := by
    rcases Nat.lt_or_ge b w1.heap.size with h' | h'
    · exact h'
    · simp [Array.getElem?_eq_none h'] at hbk
  have hb2 : w2.heap[b]? = some (.cells #[.pointer (some ⟨b, 0, none⟩), v] 92 (0, 0)) := by
    rw [hgrow.block b hlt (fun e => hne e.symm)]
    exact hbk
  have d0 : w2.cell? ⟨b, 0, none⟩ = some (.pointer (some ⟨b, 0, none⟩)) := by rw [Lib.cell_of_heap hb2]; rfl
  have d1 : w2.cell? ⟨b, 1, none⟩ = some v := by rw [Lib.cell_of_heap hb2]; rfl
  have f1 : w2.frozen? ⟨b, 1, none⟩ = false := Lib.frozen_of_heap hb2 1
  obtain ⟨ao, n', cap, rfl⟩ : ∃ ao n' cap, v' = .slice ao n' cap := by
    rcases hown'.2 with ⟨hv, _⟩ | ⟨g, cap, cur, hv, _⟩
    · exact ⟨_, _, _, hv⟩
    · exact ⟨_, _, _, hv⟩
  clear hlB hsB
  go_wp2
  go_ret2
  refine ⟨rfl, .inr ?_, ?_⟩
  · have e1 : bcells (l ++ s) = bcells l ++ Lib.strCells ⟨s.toArray⟩ := by rw [strCells_eq]; simp [bcells]
    rw [e1]
    exact Lib.BuilderAt.put (T := 92) (e := 5) hB hb2 (bs' := bcells l ++ Lib.strCells ⟨s.toArray⟩) (by rw [List.length_append, Lib.strCells_length, bcells_length]; exact hown') (by decide)
  · exact (hb1.grown hgrow (by have := hb1.size; omega) (fun k hk => (hown.lt k hk).1)).setCell (p := ⟨b, 1, none⟩) hB _

theorem usNone (W : World) (q : Option Addr) : (Builtin.unsafeString_ #[144, 3] 9 #[.pointer q, .int .i64 0]).run Tryz.prog W = .ok (.string .empty) W :=
  Lib.run_unsafeString_none W _ _ _ q

set_option maxHeartbeats 2000000 in
theorem BString_some (B b : Nat) (l : List UInt8) (w : World) (h : Bld B b l w) (h0 : l ≠ []) :
    Calls Tryz.prog 65 #[.pointer (some ⟨b, 0, none⟩)] w fun e w' => e = .returned (.string ⟨l.toArray⟩) ∧ Below B w w' := by
  obtain ⟨p, hB, v, hbk, hown, hne⟩ : ∃ p, BldAt B b p (bcells l) w := by
    rcases h with h | h
    · exact ⟨_, h⟩
    · exact ⟨_, h⟩
  have hl0 : l.length ≠ 0 := by simpa using h0
  rw [bcells_length] at hown
  obtain ⟨g, cap, cur, rfl, hbg, hg, hnc, hcm, hcs, htake⟩ : ∃ g cap cur, v = .slice (some ⟨g, 0, none⟩) l.length cap ∧ B ≤ g ∧ w.heap[g]? = some (.cells cur 5 (0, 0)) ∧ l.length ≤ cap ∧ cap ≤ maxLen ∧ cur.size = cap * 1 ∧ cur.toList.take (l.length * 1) = bcells l := by
    rcases hown.2 with ⟨_, hz⟩ | ⟨g, cap, cur, hv, r⟩
    · exact absurd hz hl0
    · exact ⟨g, cap, cur, hv, r⟩
  have c1 : w.drew.cell? ⟨b, 1, none⟩ = some (.slice (some ⟨g, 0, none⟩) l.length cap) := by
    have : w.drew.heap[b]? = some (.cells #[p, .slice (some ⟨g, 0, none⟩) l.length cap] 92 (0, 0)) := hbk
    rw [Lib.cell_of_heap this]; rfl
  have hSD : (Builtin.unsafeSliceData_ #[22] 144 #[.slice (some ⟨g, 0, none⟩) l.length cap]).run Tryz.prog w.drew = .ok (.pointer (some ⟨g, 0, none⟩)) w.drew :=
    Lib.run_unsafeSliceData_row _ _ _ _ _ _ (by omega)
  have hUS : (Builtin.unsafeString_ #[144, 3] 9 #[.pointer (some ⟨g, 0, none⟩), .int .i64 l.length]).run Tryz.prog w.drew = .ok (.string ⟨l.toArray⟩) (w.drew.freeze ⟨g, 0, none⟩ l.length) := by
    refine Lib.run_unsafeString_row w.drew 144 3 9 5 Tryz.underlying144 Tryz.cellsByte g cur.size (by have hg' : w.drew.heap[g]? = some (.cells cur 5 (0, 0)) := hg; simp [World.shape?, hg']) l h0 (by omega) (by unfold maxLen at hcm; omega) ?_
    intro j x hx
    have := hown.cells (g := g) rfl j (.int .u8 x.toNat) (by simp [bcells, hx])
    exact this
  clear h hne hcm htake
  go_enter Tryz.func65, Tryz.ntmps65
  go_wp2
  go_region
  all_goals (go_wp2; go_ret; exact ⟨rfl, Lib.below_freeze (Below.drew (Below.refl B w)) (p := ⟨g, 0, none⟩) hbg _⟩)

set_option maxHeartbeats 2000000 in
theorem BString_nil (B b : Nat) (p : Value) (w : World) (hbk : w.heap[b]? = some (.cells #[p, .slice none 0 0] 92 (0, 0))) :
    Calls Tryz.prog 65 #[.pointer (some ⟨b, 0, none⟩)] w fun e w' => e = .returned (.string ⟨#[]⟩) ∧ Below B w w' := by
  have hUS := usNone
  have c1 : w.drew.cell? ⟨b, 1, none⟩ = some (.slice none 0 0) := by
    have : w.drew.heap[b]? = some (.cells #[p, .slice none 0 0] 92 (0, 0)) := hbk
    rw [Lib.cell_of_heap this]; rfl
  have hSD : (Builtin.unsafeSliceData_ #[22] 144 #[.slice none 0 0]).run Tryz.prog w.drew = .ok (.pointer none) w.drew := rfl
  go_enter Tryz.func65, Tryz.ntmps65
  go_wp2
  go_region
  all_goals (go_wp2; go_ret; exact ⟨rfl, Below.drew (Below.refl B w)⟩)

set_option maxHeartbeats 2000000 in
theorem BString_noroom (B b g : Nat) (p : Value) (cur : Array Value) (w : World) (hBw : B ≤ w.heap.size) (hbk : w.heap[b]? = some (.cells #[p, .slice (some ⟨g, 0, none⟩) 0 0] 92 (0, 0))) (hg : w.heap[g]? = some (.cells cur 5 (0, 0))) :
    Calls Tryz.prog 65 #[.pointer (some ⟨b, 0, none⟩)] w fun e w' => e = .returned (.string ⟨#[]⟩) ∧ Below B w w' := by
  have hUS := usNone
  have hlt : b < w.heap.size := by
    rcases Nat.lt_or_ge b w.heap.size with h' | h'
    · exact h'
    · simp [Array.getElem?_eq_none h'] at hbk
  have c1 : w.drew.cell? ⟨b, 1, none⟩ = some (.slice (some ⟨g, 0, none⟩) 0 0) := by
    have : w.drew.heap[b]? = some (.cells #[p, .slice (some ⟨g, 0, none⟩) 0 0] 92 (0, 0)) := hbk
    rw [Lib.cell_of_heap this]; rfl
  have hSD : (Builtin.unsafeSliceData_ #[22] 144 #[.slice (some ⟨g, 0, none⟩) 0 0]).run Tryz.prog w.drew = .ok (.pointer (some ⟨w.drew.heap.size, 0, none⟩)) (w.drew.alloc (.view ⟨g, 0, none⟩ 5)) :=
    Lib.run_unsafeSliceData_zero w.drew _ _ 5 Tryz.underlying144 ⟨g, 0, none⟩ 0 (5, cur.size) (by have hg' : w.drew.heap[g]? = some (.cells cur 5 (0, 0)) := hg; simp [World.shape?, hg'])
  have c2 : (w.drew.alloc (.view ⟨g, 0, none⟩ 5)).cell? ⟨b, 1, none⟩ = some (.slice (some ⟨g, 0, none⟩) 0 0) := by
    have : (w.drew.alloc (.view ⟨g, 0, none⟩ 5)).heap[b]? = _ := (Lib.alloc_old w.drew _ b hlt).trans hbk
    rw [Lib.cell_of_heap this]; rfl
  have c3 : (w.alloc (.view ⟨g, 0, none⟩ 5)).drew.cell? ⟨b, 1, none⟩ = some (.slice (some ⟨g, 0, none⟩) 0 0) := c2
  have c0 : w.cell? ⟨b, 1, none⟩ = some (.slice (some ⟨g, 0, none⟩) 0 0) := c1
  go_enter Tryz.func65, Tryz.ntmps65
  go_wp2
  go_region
  all_goals (go_wp2; go_ret; exact ⟨rfl, (Below.drew (Below.refl B w)).alloc hBw _⟩)

set_option maxHeartbeats 2000000 in
theorem BString_room (B b g cap : Nat) (p : Value) (w : World) (hc0 : cap ≠ 0) (hbk : w.heap[b]? = some (.cells #[p, .slice (some ⟨g, 0, none⟩) 0 cap] 92 (0, 0))) :
    Calls Tryz.prog 65 #[.pointer (some ⟨b, 0, none⟩)] w fun e w' => e = .returned (.string ⟨#[]⟩) ∧ Below B w w' := by
  have hUS := usNone
  have c1 : w.drew.cell? ⟨b, 1, none⟩ = some (.slice (some ⟨g, 0, none⟩) 0 cap) := by
    have : w.drew.heap[b]? = some (.cells #[p, .slice (some ⟨g, 0, none⟩) 0 cap] 92 (0, 0)) := hbk
    rw [Lib.cell_of_heap this]; rfl
  have hSD : (Builtin.unsafeSliceData_ #[22] 144 #[.slice (some ⟨g, 0, none⟩) 0 cap]).run Tryz.prog w.drew = .ok (.pointer (some ⟨g, 0, none⟩)) w.drew :=
    Lib.run_unsafeSliceData_row _ _ _ _ _ _ hc0
  clear hc0
  go_enter Tryz.func65, Tryz.ntmps65
  go_wp2
  go_region
  all_goals (go_wp2; go_ret; exact ⟨rfl, Below.drew (Below.refl B w)⟩)

theorem BString_any (B b : Nat) (l : List UInt8) (w : World) (h : Bld B b l w) (hBw : B ≤ w.heap.size) :
    Calls Tryz.prog 65 #[.pointer (some ⟨b, 0, none⟩)] w fun e w' => e = .returned (.string ⟨l.toArray⟩) ∧ Below B w w' := by
  cases l with
  | cons x r => exact BString_some B b (x :: r) w h (by simp)
  | nil =>
    obtain ⟨p, hB, v, hbk, hown, hne⟩ : ∃ p, BldAt B b p [] w := by
      rcases h with h | h
      · exact ⟨_, h⟩
      · exact ⟨_, h⟩
    rcases hown.2 with ⟨rfl, _⟩ | ⟨g, cap, cur, rfl, hbg, hg, _, _, _, _⟩
    · exact BString_nil B b p w hbk
    · by_cases hc0 : cap = 0
      · subst hc0
        exact BString_noroom B b g p cur w hBw hbk hg
      · exact BString_room B b g cap p w hc0 hbk

/-- A builder that 'var b strings.Builder' has just made. -/
theorem Bld_new (w : World) : Bld w.heap.size w.heap.size [] (w.alloc (.cells #[.pointer none, .slice none 0 0] 92)) :=
  Lib.fresh_isBuilder 92 5 w
end Go.Proofs.YtdhinlhafoiaiaaGreatDoor
/- The program's forms: the map of new names, a kind anew, the text of a kind, joined parts. -/
namespace Go.Proofs.YtdhinlhafoiaiaaGreatDoor
open Go.RowKit
set_option maxRecDepth 100000
set_option linter.unusedVariables false
set_option linter.unusedSimpArgs false
attribute [local go_sem] ba_get ba_toList ba_extract take_drop_all ByteArray.mk_append_mk

section
variable {P : Program}
theorem results_cell {fn : Func} {p : Tmp} {ty : TypeId} (h : fn.results = #[.cell p ty]) (tmps : Array Value) (w : World) (b : Nat) (cs : List Value) (d : TypeDesc)
    (hp : tmps.getD p undef = .pointer (some ⟨b, 0, none⟩)) (hc : w.rangeAt b 0 cs) (hu : P.underlying ty = some d) (hd : d.isRow = true) (hi : (P.info? ty).map (·.size) = some cs.length) :
    (results fn tmps).run P w = .ok (.agg cs.toArray) w := by
  have hp' : tmps[p]?.getD undef = .pointer (some ⟨b, 0, none⟩) := by simpa using hp
  simp [results, h, hp', asAddr, run_loadVar_mid w b 0 ty cs d hc hu hd hi]
end

/-- What the map of new names gives. -/
def newF (ns : List Name) (l : Lit) : Value := match l with | .string s => (if s ∈ ns then .string ⟨(newN ns s).toArray⟩ else .string ⟨#[]⟩) | _ => .string ⟨#[]⟩
theorem Tryz.zeroStrW (w : World) : (zeroValue 9).run Tryz.prog w = .ok (.string ⟨#[]⟩) w := by kernel_rfl
/-- The map of new names. -/
def INew (w : World) (mb : Nat) (ns : List Name) : Prop := FMap Tryz.prog 9 (.string ⟨#[]⟩) w mb ns.length (newF ns)
theorem INew.look {w : World} {mb : Nat} {ns : List Name} (h : INew w mb ns) {n : Name} (hm : n ∈ ns) (hn : n.length ≤ 100) :
    (Instr.lookup 89 (.map (some mb)) (.string ⟨n.toArray⟩) false).run Tryz.prog w = .ok (.string ⟨(newN ns n).toArray⟩) w := by
  have := FMap.lookup h Tryz.keyStr Tryz.underlying89 (Tryz.zeroStrW w) (keyName (n := n) (by omega))
  rw [this]
  show Result.ok (if n ∈ ns then _ else _) w = _
  rw [if_pos hm]
set_option maxHeartbeats 1000000 in
theorem iAnew_any (ns : List Name) (mb : Nat) (k : Kd) (w : World) (hn : INew w mb ns) (hk : kdOk k) (hc : k.base = [64] → k.name ∈ ns) :
    Calls Tryz.prog 61 #[kdV k, .map (some mb)] w fun e w' => e = .returned (kdV (formK ns k)) ∧ Below w.heap.size w w' := by
  have Hn := Lib.hid hn
  have hnm := name_short hk
  unfold kdV
  clear hn hk
  go_enter Tryz.func61, Tryz.ntmps61
  by_cases h64 : k.base = [64]
  · have t1 : (k.base == [64]) = true := by simp [h64]
    have HF := Lib.hid (show formK ns k = { k with name := newN ns k.name } from if_pos h64)
    have hm := hc h64
    have hlook := (show INew ((w.alloc (.cells #[.string ⟨k.signs.toArray⟩, .string ⟨k.base.toArray⟩, .string ⟨k.name.toArray⟩] 70)).alloc (.cells #[.string ⟨#[]⟩, .string ⟨#[]⟩, .string ⟨#[]⟩] 70)) mb ns from (Hn.out.alloc _).alloc _).look hm (by omega)
    clear h64 hc
    go_wp2_with fail
    refine bodyPost_ret (v := .agg #[.string ⟨k.signs.toArray⟩, .string ⟨k.base.toArray⟩, .string ⟨(newN ns k.name).toArray⟩]) ?_ rfl ?_
    · have hr := rangeAt_new (w.alloc (.cells #[.string ⟨k.signs.toArray⟩, .string ⟨k.base.toArray⟩, .string ⟨(newN ns k.name).toArray⟩] 70)) [.string ⟨k.signs.toArray⟩, .string ⟨k.base.toArray⟩, .string ⟨(newN ns k.name).toArray⟩] 70
      have e : (w.alloc (.cells #[.string ⟨k.signs.toArray⟩, .string ⟨k.base.toArray⟩, .string ⟨(newN ns k.name).toArray⟩] 70)).heap.size = w.heap.size + 1 := by simp
      rw [e] at hr
      exact results_cell Tryz.results61 _ _ (w.heap.size + 1) _ _ rfl hr Tryz.underlying70 rfl (by kernel_rfl)
    · rw [HF.out]
      exact ⟨rfl, ((Below.refl _ _).alloc (Nat.le_refl _) _).alloc (by simp) _⟩
  · have t1 : (k.base == [64]) = false := by simpa using h64
    have HF := Lib.hid (show formK ns k = k from if_neg h64)
    clear h64 hc
    go_wp2_with fail
    refine bodyPost_ret (v := .agg #[.string ⟨k.signs.toArray⟩, .string ⟨k.base.toArray⟩, .string ⟨k.name.toArray⟩]) ?_ rfl ?_
    · have hr := rangeAt_new (w.alloc (.cells #[.string ⟨k.signs.toArray⟩, .string ⟨k.base.toArray⟩, .string ⟨k.name.toArray⟩] 70)) [.string ⟨k.signs.toArray⟩, .string ⟨k.base.toArray⟩, .string ⟨k.name.toArray⟩] 70
      have e : (w.alloc (.cells #[.string ⟨k.signs.toArray⟩, .string ⟨k.base.toArray⟩, .string ⟨k.name.toArray⟩] 70)).heap.size = w.heap.size + 1 := by simp
      rw [e] at hr
      exact results_cell Tryz.results61 _ _ (w.heap.size + 1) _ _ rfl hr Tryz.underlying70 rfl (by kernel_rfl)
    · rw [HF.out]
      exact ⟨rfl, ((Below.refl _ _).alloc (Nat.le_refl _) _).alloc (by simp) _⟩
set_option maxHeartbeats 1000000 in
theorem iText_any (k : Kd) (w : World) (hl : (kdB k).length ≤ 100) :
    Calls Tryz.prog 62 #[kdV k] w fun e w' => e = .returned (.string ⟨(kdB k).toArray⟩) ∧ Below w.heap.size w w' := by
  unfold kdV
  by_cases h64 : k.base = [64]
  · have t1 : (k.base == [64]) = true := by simp [h64]
    have HF := Lib.hid (show kdB k = k.signs ++ 64 :: (k.name ++ [59]) from by unfold kdB coreB; rw [if_pos h64])
    rw [HF.out] at hl
    simp only [List.length_append, List.length_cons] at hl
    have HB := Lib.hid (show Below w.heap.size w (w.alloc (.cells #[.string ⟨k.signs.toArray⟩, .string ⟨k.base.toArray⟩, .string ⟨k.name.toArray⟩] 70)) from (Below.refl _ _).alloc (Nat.le_refl _) _)
    clear h64
    go_enter Tryz.func62, Tryz.ntmps62
    go_wp2_with fail
    go_ret
    exact ⟨by rw [HF.out]; simp, HB.out⟩
  · have t1 : (k.base == [64]) = false := by simpa using h64
    have HF := Lib.hid (show kdB k = k.signs ++ k.base from by unfold kdB coreB; rw [if_neg h64])
    rw [HF.out] at hl
    simp only [List.length_append] at hl
    have HB := Lib.hid (show Below w.heap.size w (w.alloc (.cells #[.string ⟨k.signs.toArray⟩, .string ⟨k.base.toArray⟩, .string ⟨k.name.toArray⟩] 70)) from (Below.refl _ _).alloc (Nat.le_refl _) _)
    clear h64
    go_enter Tryz.func62, Tryz.ntmps62
    go_wp2_with fail
    go_ret
    exact ⟨by rw [HF.out]; rfl, HB.out⟩
theorem Tryz.xtra156 : Builder.Extra Tryz.prog Tryz.lays156_ren where
  sizeBuilder := by kernel_rfl
  liesBuilder := by kernel_rfl
  t5 := Tryz.underlying5
  a5 := Tryz.isAgg5
  z5 := Tryz.sizeOf5
  v5 := Tryz.zeroValue5
  infoByte := by kernel_rfl
  cellsByte := by kernel_rfl
  sizeByte := by kernel_rfl
  neB5 := by decide
theorem join_eq : ∀ ps : List (List UInt8), Lib.join ps [44] = joinL 44 ps
  | [] => rfl
  | [p] => by rw [Lib.join_one]; rfl
  | p :: q :: r => by
    have ih := join_eq (q :: r)
    rw [joinL_cons 44 p (by simp), ← ih, Lib.join_cons p, Lib.join_cons q]
    simp [Lib.joinTail]
theorem iJoin_any (A : Option Addr) (c : Nat) (ps : List (List UInt8)) (w : World) (hr : RowAt w A ps.length (scells ps)) (hl : ps.length ≤ 100) (hcp : ps.length ≤ c) (hp : ∀ p ∈ ps, p.length ≤ 10000) :
    Calls Tryz.prog 64 #[.slice A ps.length c, .string ⟨#[44]⟩] w fun e w' => e = .returned (.string ⟨(joinL 44 ps).toArray⟩) ∧ Below w.heap.size w w' := by
  by_cases h0 : ps.length = 0
  · have e0 : ps = [] := List.length_eq_zero_iff.1 h0
    subst e0
    exact (Any.strings_Join_none Tryz.lays156 Tryz.xtra156 A c ⟨#[44]⟩ w).mono fun e w' ⟨he, hw⟩ => ⟨he, hw ▸ Below.refl _ _⟩
  · have hl' : (joinL 44 ps).length ≤ 2000000 := by have h1 := joinL_len 44 10000 ps hp; have h2 : ps.length * (10000 + 1) ≤ 100 * (10000 + 1) := Nat.mul_le_mul_right _ hl; omega
    obtain ⟨hlc, _, hrow⟩ := hr
    obtain ⟨b, off, rfl, hb, hcl⟩ := hrow (by omega)
    have e1 : (ps.map fun p => (⟨p.toArray⟩ : ByteArray)).map (·.data.toList) = ps := by rw [List.map_map]; exact List.map_id ps
    have hcap : ps.length ≤ c := hcp
    have h := Any.strings_Join Tryz.lays156 Tryz.xtra156 b off c (ps.map fun p => (⟨p.toArray⟩ : ByteArray)) ⟨#[44]⟩ w (fun j x hx => by
      rw [List.getElem?_map] at hx
      obtain ⟨p, hp, rfl⟩ := Option.map_eq_some_iff.1 hx
      exact hcl j _ (by rw [scells, List.getElem?_map, hp]; rfl)) hb (by rw [List.length_map]; omega) (by rw [List.length_map]; exact hcap) (by rw [e1]; show (Lib.join ps [44]).length ≤ _; rw [join_eq]; omega)
    rw [e1, List.length_map] at h
    refine h.mono ?_
    rintro e w' ⟨he, hw⟩
    exact ⟨by rw [he]; show Ending.returned (.string ⟨(Lib.join ps [44]).toArray⟩) = _; rw [join_eq], hw⟩
end Go.Proofs.YtdhinlhafoiaiaaGreatDoor
