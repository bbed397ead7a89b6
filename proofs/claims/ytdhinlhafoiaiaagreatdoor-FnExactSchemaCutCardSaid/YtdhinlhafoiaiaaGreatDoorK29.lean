/- Texts joined: ISort, IUsed. Conditions: as each theorem names them. -/
import Derived.Test.YtdhinlhafoiaiaaGreatDoorK02
import Derived.Test.YtdhinlhafoiaiaaGreatDoorK03
import Derived.Test.YtdhinlhafoiaiaaGreatDoorK14
import Derived.Test.YtdhinlhafoiaiaaGreatDoorK17
/- Sorting: what the library's sort leaves of a row of the call's own. -/
namespace Go.Proofs.YtdhinlhafoiaiaaGreatDoor
open Go.RowKit
set_option maxRecDepth 100000
set_option linter.unusedVariables false
set_option linter.unusedSimpArgs false

/-- What is met, sorted, is what is used. -/
theorem sort_used (S : List Ty) (k : Kd) : (metL S k).mergeSort (fun x y => decide (x ≤ y)) = usedL S k := by
  obtain ⟨hs, hp⟩ := used_perm S k
  refine List.Perm.eq_of_pairwise (le := (· ≤ ·)) (fun a b _ _ h1 h2 => List.le_antisymm h1 h2) ?_ (hs.imp fun h => List.le_of_lt h) ((List.mergeSort_perm _ _).trans hp.symm)
  have := List.pairwise_mergeSort (le := fun x y : Name => decide (x ≤ y)) (fun a b c h1 h2 => by simp at *; exact List.le_trans h1 h2) (fun a b => by simp; exact List.le_total a b) (metL S k)
  exact this.imp fun h => by simpa using h
theorem sort_grown {α : Type} [Inhabited α] (enc : α → Value) (w : World) (n blk : Nat) (d : Array α) (os : Array Obj) : w.grownBy (Go.Sort.grow (Go.Sort.putRow enc (Go.Sort.ahead w n) blk 0 d) os) (some blk) := by
  refine ⟨rfl, rfl, rfl, by simp, fun k hk hne => ?_⟩
  rw [Go.Sort.heap_grow_old _ _ (by simpa using hk)]
  have : blk ≠ k := fun e => hne (by rw [e])
  simp [Go.Sort.putRow, Go.Sort.mapBlock, Array.getElem?_modify, this]
theorem sort_own {α : Type} [Inhabited α] {enc : α → Value} {w : World} {base g c : Nat} {e : TypeId} {m n : Nat} {xs : List Value} (h : w.ownsRow base e 1 (.slice (some ⟨g, 0, none⟩) n c) n xs) (d : Array α) (hd : d.size = n) (os : Array Obj) :
    (Go.Sort.grow (Go.Sort.putRow enc (Go.Sort.ahead w m) g 0 d) os).ownsRow base e 1 (.slice (some ⟨g, 0, none⟩) n c) n (d.toList.map enc) := by
  obtain ⟨h0, h | ⟨g2, cap, cur, hv, hb, hg, hn, hcm, hsz, ht⟩⟩ := h
  · cases h.1
  · injection hv with e1 e2 e3
    injection e1 with e1
    injection e1 with e1
    subst e1 e3
    refine ⟨by simp [hd], .inr ⟨g, c, Go.Sort.putCells enc 0 d cur, rfl, hb, ?_, hn, hcm, by simp [Go.Sort.putCells, hsz], ?_⟩⟩
    · have hgl : g < w.heap.size := (Array.getElem?_eq_some_iff.1 hg).1
      rw [Go.Sort.heap_grow_old _ _ (by simpa using hgl)]
      simp [Go.Sort.putRow, Go.Sort.mapBlock, Array.getElem?_modify, hg, Go.Sort.onCells]
    · apply List.ext_getElem
      · simp [Go.Sort.putCells]; omega
      · intro i h1 h2
        simp [Go.Sort.putCells] at h1 h2 ⊢
        have h3 : i < d.size := by omega
        rw [if_pos h3]
        simp [h3]
theorem own_holds {α : Type} [Inhabited α] {enc : α → Value} {w : World} {base g c : Nat} {e : TypeId} {n : Nat} {d : Array α} (h : w.ownsRow base e 1 (.slice (some ⟨g, 0, none⟩) n c) n (d.toList.map enc)) (hd : d.size = n) : Go.Sort.Holds enc w g 0 d ∧ g < w.heap.size ∧ base ≤ g := by
  obtain ⟨h0, h | ⟨g2, cap, cur, hv, hb, hg, hn, hcm, hsz, ht⟩⟩ := h
  · cases h.1
  · injection hv with e1 e2 e3
    injection e1 with e1
    injection e1 with e1
    subst e1 e3
    refine ⟨fun j hj => ?_, (Array.getElem?_eq_some_iff.1 hg).1, hb⟩
    have hj2 : j < (cur.toList.take (n * 1)).length := by rw [ht]; simpa using hj
    have hj3 : j < cur.size := by simp at hj2; omega
    have e2 : cur[j]'hj3 = enc d[j]! := by
      have : (cur.toList.take (n * 1))[j]'hj2 = enc d[j]! := by simp only [ht]; simp [hj]
      simpa using this
    refine ⟨?_, ?_⟩
    · simp [World.cell?, hg, hj3, e2]
    · simp [World.frozen?, hg]

/-- slices.Sort of a row of texts of the call's own. -/
def SoPost (base : Nat) (e : TypeId) (v : Value) (xs : List Value) (w : World) (en : Ending) (w' : World) : Prop := en = .returned (.tuple #[]) ∧ w'.ownsRow base e 1 v xs.length xs ∧ w.grownBy w' v.ownBlock
theorem grown_refl (w : World) (r : Option Nat) : w.grownBy w r := ⟨rfl, rfl, rfl, Nat.le_refl _, fun _ _ _ => rfl⟩
theorem insStr_nil (w : World) : Calls Tryz.prog 140 #[.slice none 0 0, .int .i64 0, .int .i64 0] w fun e w' => e = .returned (.tuple #[]) ∧ w' = w := by
  go_enter Tryz.func140, Tryz.ntmps140
  go_wp2_with fail
  refine wp_loop_rounds 1 ?_
  rw [rounds_succ]
  go_wp2_with fail
  apply bodyPost_end
  rotate_left
  · rfl
  · exact ⟨rfl, rfl⟩
  · exact results_none (by kernel_rfl) _ _ _
theorem pdqStr_nil (m : Int) (w : World) : Calls Tryz.prog 111 #[.slice none 0 0, .int .i64 0, .int .i64 0, .int .i64 m] w fun e w' => e = .returned (.tuple #[]) ∧ w' = w := by
  go_enter Tryz.func111, Tryz.ntmps111
  go_wp2_with fail
  refine wp_loop_rounds 1 ?_
  rw [rounds_succ]
  go_wp2_with fail
  refine (insStr_nil _).mono ?_
  rintro e w1 ⟨rfl, rfl⟩
  go_wp2_with fail
  refine bodyPost_ret (results_none (by kernel_rfl) _ _ _) rfl ?_
  exact ⟨rfl, rfl⟩
theorem sortStr_nil (w : World) : Calls Tryz.prog 85 #[.slice none 0 0] w fun e w' => e = .returned (.tuple #[]) ∧ w' = w := by
  go_enter Tryz.func85, Tryz.ntmps85
  go_wp2_with fail
  refine (Any.bits_Len Tryz.lays125 0 _ (by omega) (by omega)).mono ?_
  rintro e w1 ⟨rfl, rfl⟩
  go_wp2_with fail
  refine (pdqStr_nil _ _).mono ?_
  rintro e w1 ⟨rfl, rfl⟩
  go_wp2_with fail
  apply bodyPost_end
  rotate_left
  · rfl
  · exact ⟨rfl, rfl⟩
  · exact results_none (by kernel_rfl) _ _ _
theorem iSortStr_any (base : Nat) (v : Value) (l : List Name) (w : World) (h : w.ownsRow base 9 1 v l.length (scells l)) (hl : l.length ≤ 1000) :
    Calls Tryz.prog 85 #[v] w (SoPost base 9 v (scells (l.mergeSort fun x y => decide (x ≤ y))) w) := by
  have h' := h
  obtain ⟨h0, ⟨rfl, hl0⟩ | ⟨g, cap, cur, rfl, hb, hg, hn, hcm, hsz, ht⟩⟩ := h'
  · have : l = [] := List.eq_nil_of_length_eq_zero hl0
    subst this
    exact (sortStr_nil w).mono fun e w' ⟨he, hw⟩ => ⟨he, by subst hw; rw [List.mergeSort_nil]; exact h, by subst hw; exact grown_refl _ _⟩
  · have hh : scells l = (l.toArray).toList.map encStr := by simp [scells]
    rw [hh] at h
    obtain ⟨q1, q2, q3⟩ := own_holds (d := l.toArray) h (by simp)
    have hs := Any.slices_Sort_string Tryz.lays190 g 0 cap l w q1 q2 (by omega)
    refine hs.mono ?_
    rintro e w' ⟨rfl, n, os, rfl⟩
    have hlen : (l.mergeSort fun x y => decide (x ≤ y)).length = l.length := List.length_mergeSort _
    have := sort_own (enc := encStr) (m := n) h (l.mergeSort fun x y => decide (x ≤ y)).toArray (by simp) os
    refine ⟨rfl, ?_, sort_grown _ _ _ _ _ _⟩
    rw [show (scells (l.mergeSort fun x y => decide (x ≤ y))).length = l.length by simp [scells]]
    simpa [scells] using this
end Go.Proofs.YtdhinlhafoiaiaaGreatDoor
/- SchemaUsed of the program: the names that are used, sorted. -/
namespace Go.Proofs.YtdhinlhafoiaiaaGreatDoor
open Go.RowKit
set_option maxRecDepth 100000
set_option linter.unusedVariables false
set_option linter.unusedSimpArgs false
attribute [local go_sem] ba_get ba_toList ba_extract take_drop_all ByteArray.mk_append_mk

/-- The names that are used, if there are any. -/
def usedO : Option (List Ty × Kd) → List Name
  | none => []
  | some x => usedL x.1 x.2
/-- A row of names. -/
def NmRow (w : World) (v : Value) (l : List Name) : Prop := ∃ A c, v = .slice A l.length c ∧ RowAt w A l.length (scells l)
theorem NmRow.below {w w' : World} {v : Value} {l : List Name} (h : NmRow w v l) (hb : Below w.heap.size w w') : NmRow w' v l := by
  obtain ⟨A, c, e, hr⟩ := h
  exact ⟨A, c, e, hr.below hb⟩
def IuPost (o : Option (List Ty × Kd)) (w : World) (e : Ending) (w' : World) : Prop := ∃ v, e = .returned (.tuple #[v, .bool o.isSome]) ∧ NmRow w' v (usedO o) ∧ Below w.heap.size w w'

set_option maxHeartbeats 2000000 in
theorem iUsed_any (s d : List UInt8) (w : World) (hs : s.length ≤ 4000000) (hd : d.length ≤ 4000000) :
    Calls Tryz.prog 45 #[.string ⟨s.toArray⟩, .string ⟨d.toArray⟩] w (IuPost (bothL s d) w) := by
  have Hk := Lib.hid (fun W => iBoth_any s d W hs hd)
  have Hgood := Lib.hid (fun S k (h : bothL s d = some (S, k)) => bothL_good h)
  generalize bothL s d = o at Hk Hgood
  go_enter Tryz.func45, Tryz.ntmps45
  go_wp2_with fail
  refine (Hk.out _).mono ?_
  rintro e w1 ⟨hcase, hb1⟩
  cases o with
  | none =>
    obtain ⟨p, a, b, c, rfl⟩ := hcase
    go_wp2_with fail
    go_ret2
    exact ⟨.slice none 0 0, rfl, ⟨none, 0, rfl, by simp [RowAt, usedO, scells]⟩, hb1.alloc hb1.size _⟩
  | some x =>
    obtain ⟨S, k⟩ := x
    obtain ⟨p, xs, hxs, rfl, hsl⟩ := hcase
    simp only at hxs
    subst hxs
    obtain ⟨⟨hlines, hkinds, _⟩, _, _, hkok, hkd, href⟩ := Hgood.out _ k rfl
    have hx8 : xs.length ≤ 8 := by have := hlines.2.1; rwa [ptysOf_len] at this
    have hok : ∀ y ∈ xs, tyOk y.ty := fun y hy => hlines.1 _ (List.mem_map_of_mem hy)
    have Hsl := Lib.hid hsl
    have Hb1 := Lib.hid hb1
    have Hm := Lib.hid (fun W (h : ISc W p xs) => iMet_any p xs k W h hkinds hok hx8 hkok href)
    have Hmets := Lib.hid (metN_mets hkinds 9 k [] href (Mets.nil _)).1
    have Hsort := Lib.hid (sort_used (ptysOf xs) k)
    change Hid (Mets (ptysOf xs) (metL (ptysOf xs) k)) at Hmets
    have hol : (metL (ptysOf xs) k).length ≤ 8 := Nat.le_trans Hmets.out.len (by rw [ptysOf_len]; exact hx8)
    clear hlines hkinds hkok href hsl hb1 Hgood Hk
    generalize metL (ptysOf xs) k = out at *
    have Hus : Hid (usedO (some (ptysOf xs, k)) = usedL (ptysOf xs) k) := rfl
    generalize usedL (ptysOf xs) k = us at *
    unfold kdV at *
    go_wp2_with fail
    refine (Hm.out _ (Hsl.out.isc.below ((Below.refl _ _).alloc (Nat.le_refl _) _))).mono ?_
    rintro e w2 ⟨v, rfl, ⟨A, c, rfl, hrow⟩, hb2⟩
    have Hrow := Lib.hid hrow
    have Hb2 := Lib.hid (Hb1.out.trans ((((Below.refl w1.heap.size w1).alloc (Nat.le_refl _) _).trans (hb2.mono (by simp))).mono Hb1.out.size))
    have Htys := Lib.hid (fun x hx => (Hsl.out.tys x hx).below (((Below.refl w1.heap.size w1).alloc (Nat.le_refl _) _).trans (hb2.mono (by simp))))
    clear hrow hb2 Hm Hsl
    go_wp2_with fail
    go_loopw [25, 9] (fun i v wr => ∃ (m : Nat) (A3 : Option Addr) (n3 c3 : Nat), i = .int .i64 m ∧ v = .slice A3 n3 c3 ∧ m ≤ out.length ∧ Hid (wr.ownsRow w2.heap.size 9 1 (.slice A3 n3 c3) m (scells (out.take m))) ∧ Hid (Below w2.heap.size w2 wr)) (fun i _ _ => out.length - (intOf i).toNat)
    case atStart => exact ⟨0, none, 0, 0, rfl, rfl, Nat.zero_le _, World.ownsRow_nil _ _ _ _, Below.refl _ _⟩
    case round =>
      obtain ⟨m, A3, n3, c3, rfl, rfl, hm, Hown, Hbr⟩ := hrel
      have m1 : (0 : Int) ≤ (m : Int) := by omega
      by_cases hlt : m < out.length
      · have m2 : (m : Int) < (out.length : Int) := by omega
        obtain ⟨b, off, x, rfl, hb, hc, hxm, hfp, hft, hty⟩ := PtrRow.at_ (Hrow.out.below Hbr.out) (fun x hx => (Htys.out x hx).below Hbr.out) Hmets.out hlt
        have Hts := Lib.hid (take_snoc out m hlt)
        obtain ⟨z0, _, z1, z2, z3, z4, A8, c8, hz8, hl8', hrow8⟩ := hty
        have hnm : x.ty.name = out[m] := (findP_mem hfp).2.1
        rw [hnm] at z2
        unfold PT.ptr at hc
        have hsz : w2.heap.size ≤ wr.heap.size := Hbr.out.size
        generalize out[m] = nm at *
        clear hz8 hrow8 hfp hft z1 z3 z4 hnm
        go_wp2_with (at_builtin; refine wpList_app1 _ rfl _ _ 58 rfl w2.heap.size 9 (.string ⟨#[]⟩) 16 Tryz.underlying58 Tryz.infoStr rfl wr (.string ⟨nm.toArray⟩) rfl rfl (.slice A3 n3 c3) m (scells (out.take m)) rfl rfl Hown.out (by unfold maxLen; omega) (by omega) hsz ?_; intro v' w5 hown5 hb5; obtain ⟨A5, n5, c5, rfl⟩ := own_slice hown5; have Ho := Lib.hid hown5; have Hb5 := Lib.hid hb5; clear hown5 hb5)
        go_roundw
        case rel => exact ⟨m + 1, A5, n5, c5, by go_num, rfl, by omega, (by rw [Hts.out, scells_snoc]; exact Ho.out), Hbr.out.trans Hb5.out⟩
        case measure => simp [intOf]; omega
      · obtain rfl : m = out.length := by omega
        have Ho : Hid (wr.ownsRow w2.heap.size 9 1 (.slice A3 n3 c3) (scells out).length (scells out)) := by
          have := Hown.out
          rw [List.take_length] at this
          rw [show (scells out).length = out.length by simp [scells]]
          exact this
        clear m1
        go_wp2_with fail
        refine (iSortStr_any w2.heap.size (.slice A3 n3 c3) out _ (by have := Ho.out; rwa [show (scells out).length = out.length by simp [scells]] at this) (by omega)).mono ?_
        rintro e w6 ⟨rfl, hown6, hg6⟩
        rw [Hsort.out] at hown6
        obtain ⟨A6, c6, e6, hr6⟩ := RowAt.own hown6
        injection e6 with e7 e8 e9
        subst e7 e8 e9
        have Hr6 := Lib.hid hr6
        have Hb6 := Lib.hid (Hb2.out.trans ((Hbr.out.grown hg6 Hbr.out.size (fun k hk => by have := (Ho.out.lt k hk); omega)).mono Hb2.out.size))
        clear hown6 hr6 hg6
        go_wp2_with fail
        go_ret2
        exact ⟨_, rfl, ⟨A3, c3, by rw [Hus.out]; simp [scells], by rw [Hus.out]; simpa [scells] using Hr6.out⟩, Hb6.out⟩
end Go.Proofs.YtdhinlhafoiaiaaGreatDoor
