/- Texts joined: ICmp, ISortT, SCutS, ICutS. Conditions: as each theorem names them. -/
import Derived.Test.YtdhinlhafoiaiaaGreatDoorK13
import Derived.Test.YtdhinlhafoiaiaaGreatDoorK17
import Derived.Test.YtdhinlhafoiaiaaGreatDoorK29
import Derived.Test.YtdhinlhafoiaiaaGreatDoorK31
import Derived.Test.YtdhinlhafoiaiaaGreatDoorK34
import Derived.Test.YtdhinlhafoiaiaaGreatDoorK36
/- Sorting types by their names: the program's comparison, and the library's sort on a row of pointers of the call's own. -/
namespace Go.Proofs.YtdhinlhafoiaiaaGreatDoor
open Go.RowKit
set_option maxRecDepth 100000
set_option linter.unusedVariables false
set_option linter.unusedSimpArgs false
attribute [local go_sem] ba_get ba_toList ba_extract take_drop_all ByteArray.mk_append_mk

/-- cmp.Compare of texts. -/
def cmpV (a b : Name) : Int := if a < b then -1 else if b < a then 1 else 0
theorem isNaN_any (a : List UInt8) (w : World) : Calls Tryz.prog 109 #[.string ⟨a.toArray⟩] w fun e w' => e = .returned (.bool false) ∧ w' = w := by
  have t1 : (a != a) = false := by simp
  go_enter Tryz.func109, Tryz.ntmps109
  go_wp2_with fail
  go_ret
  exact ⟨rfl, rfl⟩
theorem cmp_any (a b : List UInt8) (w : World) : Calls Tryz.prog 83 #[.string ⟨a.toArray⟩, .string ⟨b.toArray⟩] w fun e w' => e = .returned (.int .i64 (cmpV a b)) ∧ w' = w := by
  have HV := Lib.hid (rfl : cmpV a b = cmpV a b)
  have hcv : Hid (cmpV a b = if a < b then -1 else if b < a then 1 else 0) := rfl
  go_enter Tryz.func83, Tryz.ntmps83
  go_wp2_with fail
  refine (isNaN_any a _).mono ?_
  rintro e w1 ⟨rfl, rfl⟩
  go_wp2_with fail
  refine (isNaN_any b _).mono ?_
  rintro e w1 ⟨rfl, rfl⟩
  by_cases h1 : a < b
  · have t1 : Op.bytesLess a b = true := by rw [blt]; simpa using h1
    go_wp2_with fail
    go_ret
    exact ⟨by rw [hcv.out, if_pos h1]; rfl, rfl⟩
  · have t1 : Op.bytesLess a b = false := by rw [blt]; simpa using h1
    by_cases h2 : b < a
    · have t2 : Op.bytesLess b a = true := by rw [blt]; simpa using h2
      have t3 : (a == b) = false := by
        simp only [beq_eq_false_iff_ne]
        intro e
        rw [e] at h2
        exact List.lt_irrefl b h2
      go_wp2_with fail
      go_ret
      exact ⟨by rw [hcv.out, if_neg h1, if_pos h2]; rfl, rfl⟩
    · have t2 : Op.bytesLess b a = false := by rw [blt]; simpa using h2
      have t3 : (a == b) = true := by simpa using List.le_antisymm (List.not_lt.1 h2) (List.not_lt.1 h1)
      go_wp2_with fail
      go_ret
      exact ⟨by rw [hcv.out, if_neg h1, if_neg h2]; rfl, rfl⟩

set_option maxHeartbeats 1000000 in
theorem less_any (p q : Nat) (a b : List UInt8) (w : World) (ha : w.cell? ⟨p, 1, none⟩ = some (.string ⟨a.toArray⟩)) (hb : w.cell? ⟨q, 1, none⟩ = some (.string ⟨b.toArray⟩)) :
    Calls Tryz.prog 82 #[.pointer (some ⟨p, 0, none⟩), .pointer (some ⟨q, 0, none⟩)] w fun e w' => e = .returned (.int .i64 (cmpV a b)) ∧ ∃ k, w' = w.drewN k := by
  have Ha := Lib.hid ha
  have Hb := Lib.hid hb
  clear ha hb
  go_enter Tryz.func82, Tryz.ntmps82
  go_wp2_with fail
  refine wp_region_slots3 [5, 6, 7, 8, 9, 10, 11, 12, 13, 4] (by kernel_rfl) (by kernel_rfl) (by kernel_rfl) (fun u => by dsimp only [frameOf, setMany, List.set, Nat.zero_add, Nat.reduceAdd])
    (fun ix v W => match ix with | 0 => v = .pointer (some ⟨p, 0, none⟩) | 1 => v = .pointer (some ⟨p, 0, none⟩) | 2 => v = .pointer (some ⟨p, 1, none⟩) | 3 => v = .string ⟨a.toArray⟩ | 4 => v = .pointer (some ⟨q, 0, none⟩) | 5 => v = .pointer (some ⟨q, 0, none⟩) | 6 => v = .pointer (some ⟨q, 1, none⟩) | 7 => v = .string ⟨b.toArray⟩ | 8 => v = .int .i64 (cmpV a b) | 9 => v = .int .i64 (cmpV a b) | _ => True)
    (fun L U W => ∃ k, W = w.drewN k) (fun _ _ => True) (fun _ _ _ _ _ h => h) (⟨1, rfl⟩) ?_ ?_
  · repeat (first | exact Steps.nil | (refine Steps.cons ?_ ?_; rotate_left))
    all_goals
      rintro L U W hL hpre hR hun hdep K hK
      have HR := Lib.hid hR
      obtain ⟨k, hk⟩ := HR.out
      have a0 : W.cell? ⟨p, 1, none⟩ = some (.string ⟨a.toArray⟩) := by rw [hk]; exact Ha.out
      have b0 : W.cell? ⟨q, 1, none⟩ = some (.string ⟨b.toArray⟩) := by rw [hk]; exact Hb.out
      clear hk
      clear hun hdep hR
      first | (simp [Region.binds] at hpre; done) | simp [Region.binds] at hpre | clear hpre
    iterate 8
      · go_simp
        first | exact hK _ _ _ rfl trivial HR.out rfl | exact hK _ _ _ rfl trivial HR.out (by simp [Act.put, hpre]) | exact hK undef _ _ trivial trivial HR.out (by simp [Act.put, hpre]) | exact hK _ _ _ trivial trivial HR.out rfl | exact hK _ _ _ trivial trivial HR.out (by simp [Act.put, hpre])
    · go_simp
      refine (cmp_any a b W).mono ?_
      rintro e w' ⟨rfl, rfl⟩
      exact hK _ _ _ rfl trivial HR.out (by simp [Act.put, hpre])
    · go_simp
      first | exact hK _ _ _ rfl trivial HR.out rfl | exact hK _ _ _ rfl trivial HR.out (by simp [Act.put, hpre]) | exact hK undef _ _ trivial trivial HR.out (by simp [Act.put, hpre]) | exact hK _ _ _ trivial trivial HR.out rfl | exact hK _ _ _ trivial trivial HR.out (by simp [Act.put, hpre])
  · rintro L U W hL hφ hR
    have e9 : U 9 = .int .i64 (cmpV a b) := hφ 9 (by decide)
    simp only [e9]
    clear hφ
    clear hL
    go_wp2_with fail
    go_ret
    exact ⟨rfl, hR⟩

theorem sortW_cell {α : Type} [Inhabited α] (enc : α → Value) (w : World) (g m : Nat) (d : Array α) (os : Array Obj) {b o : Nat} (hb : b < w.heap.size) (hne : b ≠ g) : (Go.Proofs.sortWorld enc w g 0 m d os).cell? ⟨b, o, none⟩ = w.cell? ⟨b, o, none⟩ := by
  unfold Go.Proofs.sortWorld
  rw [Go.Sort.cell?_grow _ _ _ (by simpa using hb), Go.Sort.cell?_putRow_other _ _ _ _ _ _ (.inl hne)]
  rfl
end Go.Proofs.YtdhinlhafoiaiaaGreatDoor
/- slices.SortFunc of a row of pointers to types, by their names; met of the program as a row of the call's own. -/
namespace Go.Proofs.YtdhinlhafoiaiaaGreatDoor
open Go.RowKit
set_option maxRecDepth 100000
set_option linter.unusedVariables false
set_option linter.unusedSimpArgs false
attribute [local go_sem] ba_get ba_toList ba_extract take_drop_all ByteArray.mk_append_mk

/-- The comparison as a value. -/
def lessV : Value := .func (.func 82) #[] #[]
theorem insTy_nil (A : Option Addr) (c : Nat) (w : World) : Calls Tryz.prog 128 #[.slice A 0 c, .int .i64 0, .int .i64 0, lessV] w fun e w' => e = .returned (.tuple #[]) ∧ w' = w := by
  go_enter Tryz.func128, Tryz.ntmps128
  go_wp2_with fail
  refine wp_loop_rounds 1 ?_
  rw [rounds_succ]
  go_wp2_with fail
  apply bodyPost_end
  rotate_left
  · rfl
  · exact ⟨rfl, rfl⟩
  · exact results_none (by kernel_rfl) _ _ _
theorem pdqTy_nil (A : Option Addr) (c : Nat) (m : Int) (w : World) : Calls Tryz.prog 107 #[.slice A 0 c, .int .i64 0, .int .i64 0, .int .i64 m, lessV] w fun e w' => e = .returned (.tuple #[]) ∧ w' = w := by
  go_enter Tryz.func107, Tryz.ntmps107
  go_wp2_with fail
  refine wp_loop_rounds 1 ?_
  rw [rounds_succ]
  go_wp2_with fail
  refine (insTy_nil A c _).mono ?_
  rintro e w1 ⟨rfl, rfl⟩
  go_wp2_with fail
  refine bodyPost_ret (results_none (by kernel_rfl) _ _ _) rfl ?_
  exact ⟨rfl, rfl⟩
theorem sortTy_nil (A : Option Addr) (c : Nat) (w : World) : Calls Tryz.prog 81 #[.slice A 0 c, lessV] w fun e w' => e = .returned (.tuple #[]) ∧ w' = w := by
  go_enter Tryz.func81, Tryz.ntmps81
  go_wp2_with fail
  refine (Any.bits_Len Tryz.lays125 0 _ (by omega) (by omega)).mono ?_
  rintro e w1 ⟨rfl, rfl⟩
  go_wp2_with fail
  refine (pdqTy_nil A c _ _).mono ?_
  rintro e w1 ⟨rfl, rfl⟩
  go_wp2_with fail
  go_end0
  exact ⟨rfl, rfl⟩
theorem cmpV_lt {out : List Name} (x y : { n : Name // n ∈ out }) : ltOf (fun x y : { n : Name // n ∈ out } => cmpV x.1 y.1) x y = decide (x.1 < y.1) := by
  unfold ltOf cmpV
  by_cases h : x.1 < y.1
  · simp [h]
  · by_cases h2 : y.1 < x.1 <;> simp [h, h2]
theorem cmpV_swo (out : List Name) : Go.Sort.SWO (ltOf fun x y : { n : Name // n ∈ out } => cmpV x.1 y.1) := by
  refine ⟨fun x => by rw [cmpV_lt]; simp [List.lt_irrefl], fun x y z h1 h2 => ?_, fun x y z h1 h2 => ?_⟩
  · rw [cmpV_lt] at *
    simp at *
    exact List.lt_trans h1 h2
  · rw [cmpV_lt] at *
    simp at *
    exact List.le_trans h2 h1

set_option maxHeartbeats 1000000 in
theorem iSortTy_any (base : Nat) (v : Value) (xs : List PT) (out us : List Name) (w : World) (h : w.ownsRow base 75 1 v out.length ((out.map (blkN xs)).map ptrV)) (ht : ∀ x ∈ xs, ITy w x) (hm : ∀ n ∈ out, n ∈ namesOf (ptysOf xs)) (hoff : ∀ x ∈ xs, v.ownBlock ≠ some x.blk) (hl : out.length ≤ 8)
    (hp : us.Perm out) (hs : SortedN us) :
    Calls Tryz.prog 81 #[v, lessV] w (SoPost base 75 v ((us.map (blkN xs)).map ptrV) w) := by
  have h' := h
  obtain ⟨h0, ⟨rfl, hl0⟩ | ⟨g, cap, cur, rfl, hb, hg, hn, hcm, hsz, ht0⟩⟩ := h'
  · have : out = [] := List.eq_nil_of_length_eq_zero hl0
    subst this
    have : us = [] := hp.eq_nil
    subst this
    exact (sortTy_nil _ _ w).mono fun e w' ⟨he, hw⟩ => ⟨he, by subst hw; exact h, by subst hw; exact grown_refl _ _⟩
  · cases hout : out with
    | nil =>
      subst hout
      have : us = [] := hp.eq_nil
      subst this
      exact (sortTy_nil _ _ w).mono fun e w' ⟨he, hw⟩ => ⟨he, by subst hw; exact h, by subst hw; exact grown_refl _ _⟩
    | cons n0 rest =>
      have hin : n0 ∈ out := by rw [hout]; simp
      rw [← hout]
      haveI : Inhabited { n : Name // n ∈ out } := ⟨⟨n0, hin⟩⟩
      let enc : { n : Name // n ∈ out } → Value := fun n => ptrV (blkN xs n.1)
      have hh : (out.map (blkN xs)).map ptrV = (out.attach.toArray).toList.map enc := by
        simp only [List.map_map]
        show _ = out.attach.map (fun n => ptrV (blkN xs n.1))
        rw [show out.attach.map (fun n => ptrV (blkN xs n.1)) = (out.attach.map Subtype.val).map (fun n => ptrV (blkN xs n)) by simp only [List.map_map]; rfl, List.attach_map_subtype_val]
        rfl
      rw [hh] at h
      obtain ⟨q1, q2, q3⟩ := own_holds (d := out.attach.toArray) h (by simp)
      have hcmp : CmpReads Tryz.prog 82 #[] enc (fun x y => cmpV x.1 y.1) g 0 out.attach.toArray.size w := by
        intro m os dk hdk x y
        obtain ⟨px, hpx, hxm, hxn⟩ := findP_isSome (hm _ x.2)
        obtain ⟨py, hpy, hym, hyn⟩ := findP_isSome (hm _ y.2)
        obtain ⟨a1, _, _, a2, _⟩ := ht px hxm
        obtain ⟨b1, _, _, b2, _⟩ := ht py hym
        have c1 := sortW_cell enc w g m dk os (o := 1) a1 (fun e => hoff px hxm (by rw [e]; rfl))
        have c2 := sortW_cell enc w g m dk os (o := 1) b1 (fun e => hoff py hym (by rw [e]; rfl))
        have := less_any px.blk py.blk x.1 y.1 (sortWorld enc w g 0 m dk os) (by rw [c1, a2, hxn]) (by rw [c2, b2, hyn])
        have e1 : enc x = .pointer (some ⟨px.blk, 0, none⟩) := by show ptrV (blkN xs x.1) = _; rw [blkN_some hpx]; rfl
        have e2 : enc y = .pointer (some ⟨py.blk, 0, none⟩) := by show ptrV (blkN xs y.1) = _; rw [blkN_some hpy]; rfl
        rw [e1, e2]
        exact this
      have hsort := Any.slices_SortFunc_small_sorted Tryz.laysF6 enc (fun x => rfl) (fun x y => cmpV x.1 y.1) (cmpV_swo out) 82 #[] g 0 cap out.attach.toArray w
        (enters_of Tryz.func82 (by kernel_rfl) rfl) hcmp q1 (by simp; omega) (fun n W hn => (Any.bits_Len Tryz.lays125 n W (by omega) (by omega)).mono fun e w' ⟨h1, h2⟩ => ⟨⟨_, h1⟩, h2⟩)
      rw [show out.attach.toArray.size = out.length by simp] at hsort
      refine hsort.mono ?_
      rintro e w' ⟨rfl, d', n, hP, hS, rfl⟩
      have hz : d'.size = out.length := by have := hP.1; simpa using this
      have hperm : (d'.toList.map Subtype.val).Perm out := by
        have h2 := hP.2.2
        rw [← hz] at h2
        rw [show d'.extract 0 d'.size = d' by simp, show out.attach.toArray.extract 0 d'.size = out.attach.toArray by rw [hz]; simp; exact List.take_of_length_le (by simp)] at h2
        have h3 := h2.map Subtype.val
        simpa using h3
      have hsorted : (d'.toList.map Subtype.val).Pairwise (· ≤ ·) := by
        rw [List.pairwise_iff_getElem]
        intro i j hi hj hij
        simp at hi hj
        have h2 := hS i j (Nat.zero_le _) hij (by omega)
        rw [getElem!_pos d' j (by omega), getElem!_pos d' i (by omega)] at h2
        simp only [List.getElem_map, Array.getElem_toList]
        rw [cmpV_lt] at h2
        exact List.not_lt.1 (by simpa using h2)
      have he : d'.toList.map Subtype.val = us := List.Perm.eq_of_pairwise (le := (· ≤ ·)) (fun a b _ _ h1 h2 => List.le_antisymm h1 h2) hsorted (hs.imp fun h => List.le_of_lt h) (hperm.trans hp.symm)
      have hown := sort_own (enc := enc) (m := n) h d' hz #[]
      rw [Go.Sort.grow_empty] at hown
      have hgr := sort_grown enc w n g d' #[]
      rw [Go.Sort.grow_empty] at hgr
      have hl2 : ((us.map (blkN xs)).map ptrV) = d'.toList.map enc := by
        rw [← he]
        simp only [List.map_map]
        rfl
      have hlu : us.length = out.length := hp.length_eq
      exact ⟨rfl, by rw [hl2, show (d'.toList.map enc).length = out.length by simp [hz]]; exact hown, hgr⟩
end Go.Proofs.YtdhinlhafoiaiaaGreatDoor
/- SchemaCut of the reference. -/
namespace Go.Proofs.YtdhinlhafoiaiaaGreatDoor
open Go.RowKit
set_option maxRecDepth 100000
set_option linter.unusedVariables false
set_option linter.unusedSimpArgs false
attribute [local go_sem] ba_get ba_toList ba_extract take_drop_all ByteArray.mk_append_mk

/-- A text and whether there is one, as results. -/
def cutVal : Option (List UInt8) → Value
  | none => .tuple #[.string ⟨#[]⟩, .bool false]
  | some x => .tuple #[.string ⟨x.toArray⟩, .bool true]
def CtPost (o : Option (List Ty × Kd)) (w : World) (e : Ending) (w' : World) : Prop := e = .returned (cutVal (cutL' o)) ∧ Below w.heap.size w w'
theorem cut_short {st : UInt8} {f : Fd} (h : fdOk st f) : FShort st f := by
  have hg := given_len h
  obtain ⟨h1, h2, h3, h4, h5⟩ := h
  have hn := (nameOk_iff.1 h3).2.1
  by_cases hs : st = 69
  · exact ⟨h2, by omega, by rw [(h4 hs).1]; decide, by omega, fun _ => (h4 hs).2⟩
  · exact ⟨h2, by omega, by have := (h5 hs).1.2.2; omega, by omega, fun h => absurd h hs⟩
theorem cutS_snoc {S : List Ty} {ns : List Name} {n : Name} {t : Ty} (h : findTy S n = some t) : cutS S (ns ++ [n]) = cutS S ns ++ [t] := by
  unfold cutS; rw [List.filterMap_append]; simp [h]
theorem cutLine_len {t : Ty} (h : tyOk t) : (tyB t ++ [10]).length ≤ 4000 := by
  have h2 := joinL_len 44 400 (t.fields.map (fdB t.sort)) (fun p hp => by obtain ⟨f, hf, rfl⟩ := List.mem_map.1 hp; exact fdB_len (cut_short (h.2.2.1.1 f hf)))
  rw [List.length_map] at h2
  have h8 := h.2.2.2.1
  have hn := (nameOk_iff.1 h.2.1).2.1
  unfold tyB
  simp
  omega

set_option maxHeartbeats 2000000 in
theorem sCut_any (s d : List UInt8) (w : World) (hs : s.length ≤ 4000000) (hd : d.length ≤ 4000000) :
    Calls Tryz.prog 41 #[.string ⟨s.toArray⟩, .string ⟨d.toArray⟩] w (CtPost (bothL s d) w) := by
  have Hk := Lib.hid (fun W => sKind_any s d W hs hd)
  have Hgood := Lib.hid (fun S k (h : bothL s d = some (S, k)) => bothL_good h)
  generalize bothL s d = o at Hk Hgood
  go_enter Tryz.func41, Tryz.ntmps41
  go_wp2_with fail
  refine (Hk.out _).mono ?_
  rintro e w1 ⟨hcase, hb1⟩
  cases o with
  | none =>
    obtain ⟨A, n, c, rfl⟩ := hcase
    go_wp2_with fail
    go_ret2
    exact ⟨rfl, hb1⟩
  | some x =>
    obtain ⟨S, k⟩ := x
    obtain ⟨v, xs, rfl, hxs, hsc⟩ := hcase
    simp only at hxs
    obtain ⟨⟨hlines, hkinds, _⟩, _, _, hkok, hkd, href⟩ := Hgood.out S k rfl
    subst hxs
    subst hkd
    have hx8 : xs.length ≤ 8 := by have := hlines.2.1; simpa [tysOf] using this
    have Hsc := Lib.hid hsc
    have Hb1 := Lib.hid hb1
    have Hu := Lib.hid (fun W v' (h1 : SSc W v xs) (h2 : OutRow W v' []) => sUsed_any v xs hkinds hlines.1 hx8 9 k [] W v' h1 hkok href (Mets.nil _) List.Pairwise.nil (by simp; omega) h2)
    have Hm := Lib.hid (usedL_good hkinds href)
    have hul : (usedL (tysOf xs) k).length ≤ 8 := Nat.le_trans Hm.out.len (by rw [tysOf_len]; exact hx8)
    have Hty := Lib.hid hlines.1
    have Hfin : Hid (cutVal (cutL' (some (tysOf xs, k))) = .tuple #[.string ⟨(scB (cutS (tysOf xs) (usedL (tysOf xs) k))).toArray⟩, .bool true]) := rfl
    clear hlines hkinds hkok href hsc hb1 Hgood Hk
    change Hid (∀ W v' (h1 : SSc W v xs) (h2 : OutRow W v' []), Calls Tryz.prog 58 #[v, .string ⟨(kdB k).toArray⟩, v'] W (UsPost (usedL (tysOf xs) k) W)) at Hu
    generalize usedL (tysOf xs) k = us at *
    go_wp2_with fail
    refine (Hu.out _ _ (Hsc.out.below ((Below.refl _ _).alloc (Nat.le_refl _) _)) ⟨w1.heap.size, 0, rfl, by simp, Nat.le_refl _, Nat.zero_le _, fun j hj => by simp at hj⟩).mono ?_
    rintro e w2 ⟨v2, rfl, ⟨g, c, rfl, hg, _, _, hcell⟩, hb2⟩
    have Hcell := Lib.hid hcell
    have Hb2 := Lib.hid (Hb1.out.trans ((((Below.refl w1.heap.size w1).alloc (Nat.le_refl _) _).trans (hb2.mono (by simp))).mono Hb1.out.size))
    have Hsc2 := Lib.hid (Hsc.out.below (((Below.refl w1.heap.size w1).alloc (Nat.le_refl _) _).trans (hb2.mono (by simp))))
    clear hcell hb2
    go_wp2_with fail
    go_loopw [8, 26] (fun o i wr => ∃ (m : Nat) (out : List UInt8), i = .int .i64 m ∧ m ≤ us.length ∧ o = .string ⟨out.toArray⟩ ∧ out.length ≤ 4000 * m ∧ Hid (out = scB (cutS (tysOf xs) (us.take m))) ∧ Hid (Below w2.heap.size w2 wr)) (fun _ i _ => us.length - (intOf i).toNat)
    case atStart => exact ⟨0, [], rfl, Nat.zero_le _, rfl, by simp, rfl, Below.refl _ _⟩
    case round =>
      obtain ⟨m, out, rfl, hm, rfl, hol, Hout, hbr⟩ := hrel
      have m1 : (0 : Int) ≤ (m : Int) := by omega
      by_cases hlt : m < us.length
      · have m2 : (m : Int) < (us.length : Int) := by omega
        have cl := (hbr.out.cell (p := ⟨g, m, none⟩) hg).trans (Hcell.out m hlt)
        have hsome := findTy_isSome.2 (Hm.out.2 _ (List.getElem_mem hlt))
        have Hts := Lib.hid (take_snoc us m hlt)
        generalize us[m] = nm at cl hsome Hts
        rw [findX_ty] at hsome
        cases hf : findX xs nm with
        | none => rw [hf] at hsome; cases hsome
        | some y =>
          obtain ⟨t, fv⟩ := y
          have hft : findTy (tysOf xs) nm = some t := by rw [findX_ty, hf]; rfl
          have hto := Hty.out t (findTy_some hft).1
          have Hsn := Lib.hid (cutS_snoc (ns := us.take m) hft)
          have Hf := Lib.hid hf
          have hlen := cutLine_len hto
          have Hot := Lib.hid (fun W (h : SFds W fv t.fields) => sOut20_any t fv W h (by have := hto.2.2.2.1; omega) (by have := (nameOk_iff.1 hto.2.1).2.1; omega) (fun f hf => cut_short (hto.2.2.1.1 f hf)))
          have Hfds := Lib.hid ((Hsc2.out.below hbr.out).fds (findX_mem hf).1)
          obtain ⟨A3, c3, e3, hl3, hr3⟩ := (Hsc2.out.fds (findX_mem hf).1)
          simp only [] at e3
          subst e3
          have Hln := Lib.hid (show scB (cutS (tysOf xs) (us.take (m + 1))) = out ++ (tyB t ++ [10]) by rw [Hts.out, Hsn.out, scB_snoc, ← Hout.out])
          generalize tyB t ++ [10] = ln at Hot hlen Hln
          clear hf hft hsome hl3 hr3 hto
          unfold styV at Hot
          go_wp2_with fail
          refine (sFind_any v xs nm _ (Hsc2.out.below hbr.out)).mono ?_
          rintro e w3 ⟨rfl, hb3⟩
          rw [Hf.out]
          unfold styR styV
          have Hb3 := Lib.hid (hbr.out.trans (hb3.mono hbr.out.size))
          have Hfd3 := Lib.hid ((Hfds.out.below hb3).below ((Below.refl _ _).alloc (Nat.le_refl _) (.cells #[.int .u8 (t.sort.toNat : Int), .string ⟨t.name.toArray⟩, .slice A3 t.fields.length c3] 86)))
          clear hb3
          go_wp2_with fail
          refine (Hot.out _ Hfd3.out).mono ?_
          rintro e w4 ⟨rfl, hb4⟩
          have Hb4 := Lib.hid ((Hb3.out.alloc Hb3.out.size (.cells #[.int .u8 (t.sort.toNat : Int), .string ⟨t.name.toArray⟩, .slice A3 t.fields.length c3] 86)).trans (hb4.mono (by have := Hb3.out.size; simp; omega)))
          clear hb4
          go_wp2_with fail
          go_roundw
          case rel => exact ⟨m + 1, out ++ ln, by go_num, by omega, rfl, by rw [List.length_append]; omega, Hln.out.symm, Hb4.out⟩
          case measure => simp [intOf]; omega
      · obtain rfl : m = us.length := by omega
        have Hb4 := Lib.hid (Hb2.out.trans (hbr.out.mono Hb2.out.size))
        have He : Hid (out = scB (cutS (tysOf xs) us)) := by have := Hout.out; rwa [List.take_length] at this
        go_wp2_with fail
        go_ret2
        refine ⟨?_, Hb4.out⟩
        rw [Hfin.out, ← He.out]
        rfl
end Go.Proofs.YtdhinlhafoiaiaaGreatDoor
/- SchemaCut and SchemaTypes of the program. -/
namespace Go.Proofs.YtdhinlhafoiaiaaGreatDoor
open Go.RowKit
set_option maxRecDepth 100000
set_option linter.unusedVariables false
set_option linter.unusedSimpArgs false
attribute [local go_sem] ba_get ba_toList ba_extract take_drop_all ByteArray.mk_append_mk

/-- What met leaves, as a row of the call's own. -/
def MeOwn (xs : List PT) (out : List Name) (w : World) (e : Ending) (w' : World) : Prop := ∃ v, e = .returned v ∧ w'.ownsRow (w.heap.size + 4) 75 1 v out.length ((out.map (blkN xs)).map ptrV) ∧ Below w.heap.size w w'

set_option maxHeartbeats 1000000 in
theorem iMet_own (p : Value) (xs : List PT) (k : Kd) (w : World) (hsc : ISc w p xs) (hS : kindsOk (ptysOf xs)) (hok : ∀ y ∈ xs, tyOk y.ty) (hl8 : xs.length ≤ 8) (hk : kdOk k) (hr : refOk (ptysOf xs) k) :
    Calls Tryz.prog 56 #[p, kdV k] w (MeOwn xs (metL (ptysOf xs) k) w) := by
  have hF := Lib.hid (show metL (ptysOf xs) k = metN (ptysOf xs) 9 k [] from rfl)
  have Hv := Lib.hid (fun W (h : MetSt w w.heap.size p xs W []) => iVisit_any w w.heap.size p xs rfl hsc hS hok hl8 9 k [] W hk hr (Mets.nil _) (by simp; omega) h)
  obtain ⟨pb, A, c, mb, rfl, q0, q1, q2, q3, q4, _⟩ := hsc
  clear q1 q2 q3 q4 hS hok hr
  unfold kdV at *
  unfold MetSt visitV at Hv
  go_enter Tryz.func56, Tryz.ntmps56
  go_wp2_with fail
  refine (Hv.out _ ?_).mono ?_
  · refine ⟨((((Below.refl _ _).alloc (Nat.le_refl _) _).alloc (by simp) _).alloc (by simp; omega) _).alloc (by simp; omega) _, ?_, ?_, ?_, ?_, .slice none 0 0, ?_, World.ownsRow_nil _ _ _ _⟩
    · simp
    · simp [go_sem]
    · rw [show w.heap.size + 3 = w.heap.size + 1 + 1 + 1 from rfl]; simp [go_sem]
    · intro j hj
      obtain rfl : j = 0 := by omega
      rw [show w.heap.size + 2 = w.heap.size + 1 + 1 from rfl]
      exact ⟨by simp [go_sem], by simp [go_sem]⟩
    · rw [show w.heap.size + 2 = w.heap.size + 1 + 1 from rfl]; simp [go_sem]
  rintro e w1 ⟨rfl, h1, h2, h3, h4, h5, v, h6, h7⟩
  have Hown := Lib.hid h7
  obtain ⟨A7, c7, ev, hrow⟩ := RowAt.own h7
  subst ev
  have Hrow := Lib.hid hrow
  have H1 := Lib.hid h1
  have h6' : w1.cell? ⟨w.heap.size + 1 + 1, 0, none⟩ = some (.slice A7 (metN (ptysOf xs) 9 k []).length c7) := h6
  clear hrow h1 h2 h3 h4 h5 h7 h6 Hv
  generalize metN (ptysOf xs) 9 k [] = out at *
  go_wp2_with fail
  go_ret
  exact ⟨_, rfl, by rw [hF.out]; exact Hown.out, H1.out⟩

set_option maxHeartbeats 2000000 in
theorem iCut_any (s d : List UInt8) (w : World) (hs : s.length ≤ 4000000) (hd : d.length ≤ 4000000) :
    Calls Tryz.prog 42 #[.string ⟨s.toArray⟩, .string ⟨d.toArray⟩] w (CtPost (bothL s d) w) := by
  have Hk := Lib.hid (fun W => iBoth_any s d W hs hd)
  have Hgood := Lib.hid (fun S k (h : bothL s d = some (S, k)) => bothL_good h)
  generalize bothL s d = o at Hk Hgood
  go_enter Tryz.func42, Tryz.ntmps42
  go_wp2_with fail
  refine (Hk.out _).mono ?_
  rintro e w1 ⟨hcase, hb1⟩
  cases o with
  | none =>
    obtain ⟨p, a, b, c, rfl⟩ := hcase
    go_wp2_with fail
    go_ret2
    exact ⟨rfl, hb1.alloc hb1.size _⟩
  | some x =>
    obtain ⟨S, k⟩ := x
    obtain ⟨p, xs, hxs, rfl, hsl⟩ := hcase
    simp only at hxs
    subst hxs
    obtain ⟨⟨hlines, hkinds, _⟩, _, _, hkok, hkd, href⟩ := Hgood.out _ k rfl
    have hx8 : xs.length ≤ 8 := by have := hlines.2.1; rwa [ptysOf_len] at this
    have hok : ∀ y ∈ xs, tyOk y.ty := fun y hy => hlines.1 _ (List.mem_map_of_mem hy)
    have Hsl := Lib.hid hsl
    have Hb1 := Lib.hid hb1
    have Hm := Lib.hid (fun W (h : ISc W p xs) => iMet_own p xs k W h hkinds hok hx8 hkok href)
    have Hmets := Lib.hid (metN_mets hkinds 9 k [] href (Mets.nil _)).1
    have Hperm := Lib.hid (used_perm (ptysOf xs) k)
    change Hid (Mets (ptysOf xs) (metL (ptysOf xs) k)) at Hmets
    have hol : (metL (ptysOf xs) k).length ≤ 8 := Nat.le_trans Hmets.out.len (by rw [ptysOf_len]; exact hx8)
    have hlen : (usedL (ptysOf xs) k).length = (metL (ptysOf xs) k).length := (used_perm (ptysOf xs) k).2.length_eq
    have Hum := Lib.hid (fun n (h : n ∈ usedL (ptysOf xs) k) => Hmets.out.2 n ((used_perm (ptysOf xs) k).2.mem_iff.1 h))
    have Hty := Lib.hid hok
    have Hfin : Hid (cutVal (cutL' (some (ptysOf xs, k))) = .tuple #[.string ⟨(scB (cutS (ptysOf xs) (usedL (ptysOf xs) k))).toArray⟩, .bool true]) := rfl
    clear hlines hkinds hkok href hsl hb1 Hgood Hk hok
    generalize metL (ptysOf xs) k = out at *
    generalize usedL (ptysOf xs) k = us at *
    have hul : us.length ≤ 8 := by omega
    clear hlen
    unfold kdV at *
    go_wp2_with fail
    refine (Hm.out _ (Hsl.out.isc.below ((Below.refl _ _).alloc (Nat.le_refl _) _))).mono ?_
    rintro e w2 ⟨v, rfl, hown, hb2⟩
    have hB := ((Below.refl w1.heap.size w1).alloc (Nat.le_refl _) (.cells #[.string ⟨k.signs.toArray⟩, .string ⟨k.base.toArray⟩, .string ⟨k.name.toArray⟩] 70)).trans (hb2.mono (by simp))
    have Hb2 := Lib.hid (Hb1.out.trans (hB.mono Hb1.out.size))
    have Htys := Lib.hid (fun x hx => (Hsl.out.tys x hx).below hB)
    have hoff : ∀ x ∈ xs, v.ownBlock ≠ some x.blk := fun x hx e => by
      have h1 := (hown.lt _ e).1
      have h2 := (Hsl.out.tys x hx).1
      simp at h1
      omega
    have hsort := iSortTy_any _ v xs out us w2 hown (fun x hx => Htys.out x hx) Hmets.out.2 hoff hol Hperm.out.2 Hperm.out.1
    unfold lessV at hsort
    have Hsort := Lib.hid hsort
    have Hoff := Lib.hid hoff
    have Hlo := Lib.hid (fun k h => (hown.lt k h))
    clear hsort hoff hown hb2 hB Hm Hsl
    go_wp2_with fail
    refine Hsort.out.mono ?_
    rintro e w3 ⟨rfl, hown3, hg3⟩
    have Htys3 := Lib.hid (show ∀ x ∈ xs, x.blk < w3.heap.size ∧ w3.cell? ⟨x.blk, 3, none⟩ = some (.string ⟨(tyB x.ty).toArray⟩) from fun x hx => by
      obtain ⟨z0, _, _, _, _, z4, _⟩ := Htys.out x hx
      exact ⟨Nat.lt_of_lt_of_le z0 hg3.size, (World.cell?_of_block (a := ⟨x.blk, 3, none⟩) (hg3.block x.blk z0 (fun e => Hoff.out x hx e.symm))).trans z4⟩)
    rw [show ((us.map (blkN xs)).map ptrV).length = us.length by simp] at hown3
    have Hb3 := Lib.hid (Hb2.out.grown hg3 Hb2.out.size (fun k hk => by have := Hlo.out k hk; have := Hb1.out.size; simp at *; omega))
    obtain ⟨A3, c3, rfl, hr3⟩ := RowAt.own hown3
    have Hr3 := Lib.hid hr3
    clear hown3 hg3 hr3 Hsort Hlo Hoff Htys Hb2
    go_wp2_with fail
    go_loopw [29] (fun i wr => ∃ m : Nat, i = .int .i64 m ∧ m ≤ us.length ∧ Hid (Bld w3.heap.size w3.heap.size (scB (cutS (ptysOf xs) (us.take m))) wr) ∧ Hid ((scB (cutS (ptysOf xs) (us.take m))).length ≤ m * 4000) ∧ Hid (Below w3.heap.size w3 wr)) (fun i _ => us.length - (intOf i).toNat)
    case atStart => exact ⟨0, rfl, Nat.zero_le _, Bld_new w3, by simp [Hid, scB, cutS], (Below.refl _ _).alloc (Nat.le_refl _) _⟩
    case round =>
      obtain ⟨m, rfl, hm, hbl, hle, hbr⟩ := hrel
      have m1 : (0 : Int) ≤ (m : Int) := by omega
      by_cases hlt : m < us.length
      · have m2 : (m : Int) < (us.length : Int) := by omega
        obtain ⟨b, off, rfl, hb, hc⟩ := Hr3.out.at_ hlt
        obtain ⟨x, hx, hxm, hxn⟩ := findP_isSome (Hum.out _ (List.getElem_mem hlt))
        have hft : findTy (ptysOf xs) us[m] = some x.ty := by rw [findP_ty, hx]; rfl
        obtain ⟨hxb, hxl⟩ := Htys3.out x hxm
        have hc2 : wr.cell? ⟨b, off + m, none⟩ = some (.pointer (some ⟨x.blk, 0, none⟩)) := by
          refine (hbr.out.cell (p := ⟨b, off + m, none⟩) hb).trans (hc.trans ?_)
          simp [blkN_some hx, ptrV]
        have hl2 : wr.cell? ⟨x.blk, 3, none⟩ = some (.string ⟨(tyB x.ty).toArray⟩) := (hbr.out.cell (p := ⟨x.blk, 3, none⟩) hxb).trans hxl
        have Hts := Lib.hid (take_snoc us m hlt)
        have Hsn := Lib.hid (show scB (cutS (ptysOf xs) (us.take (m + 1))) = scB (cutS (ptysOf xs) (us.take m)) ++ (tyB x.ty ++ [10]) by rw [Hts.out, cutS_snoc hft, scB_snoc])
        have hll : (tyB x.ty).length + 1 ≤ 4000 := by have := cutLine_len (Hty.out x hxm); simpa using this
        have hle' := hle.out
        have Hw := Lib.hid (BWrite_any w3.heap.size w3.heap.size _ (tyB x.ty ++ [10]) wr hbl.out (by rw [List.length_append]; simp; omega) hbr.out.size)
        clear hc hx hft hxn hxl
        generalize tyB x.ty = ln at *
        go_wp2_with fail
        refine Hw.out.mono ?_
        rintro e w5 ⟨rfl, hbl5, hb5⟩
        have Hbl5 := Lib.hid hbl5
        have Hb5 := Lib.hid (hbr.out.trans hb5)
        clear hbl5 hb5
        go_wp2_with fail
        go_roundw
        case rel => exact ⟨m + 1, by go_num, by omega, (by rw [Hsn.out]; exact Hbl5.out), (by show _ ≤ _; rw [Hsn.out, List.length_append, List.length_append]; simp; omega), Hb5.out⟩
        case measure => simp [intOf]; omega
      · obtain rfl : m = us.length := by omega
        have Hs := Lib.hid (BString_any w3.heap.size w3.heap.size _ wr hbl.out hbr.out.size)
        rw [List.take_length] at Hs
        clear m1
        go_wp2_with fail
        refine Hs.out.mono ?_
        rintro e w6 ⟨rfl, hb6⟩
        have Hb6 := Lib.hid (Hb3.out.trans ((hbr.out.trans hb6).mono Hb3.out.size))
        clear hb6
        go_wp2_with fail
        go_ret2
        exact ⟨by rw [Hfin.out]; rfl, Hb6.out⟩
end Go.Proofs.YtdhinlhafoiaiaaGreatDoor
