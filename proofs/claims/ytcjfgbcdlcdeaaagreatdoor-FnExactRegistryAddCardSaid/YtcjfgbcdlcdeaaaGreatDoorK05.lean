/- Texts joined: SRead2, Region, SRead3, SRead4. Conditions: as each theorem names them. -/
import Derived.Deep.RegionWith
import Derived.Test.YtcjfgbcdlcdeaaaGreatDoorK01
import Derived.Test.YtcjfgbcdlcdeaaaGreatDoorK04
/- l3ReadField, continued: a field of a record or a union. -/
namespace Go.Proofs.YtcjfgbcdlcdeaaaGreatDoor
open Go.RowKit
set_option maxRecDepth 100000
set_option linter.unusedVariables false
set_option linter.unusedSimpArgs false
attribute [local go_sem] ba_get ba_toList ba_extract take_drop_all ByteArray.mk_append_mk

theorem own_one {w : World} {base : Nat} {v : Value} {a : List UInt8} (h : w.ownsRow base 9 1 v [a].length (scells [a])) :
    ∃ g c, v = .slice (some ⟨g, 0, none⟩) 1 c ∧ base ≤ g ∧ g < w.heap.size ∧ w.cell? ⟨g, 0, none⟩ = some (.string ⟨a.toArray⟩) := by
  rcases h.2 with ⟨_, h0⟩ | ⟨g, cap, cur, rfl, hb, hh, _⟩
  · simp at h0
  · have hc := fun j u hu => h.cells (g := g) rfl j u hu
    have e1 : ∀ j, (⟨g, 0, none⟩ : Addr).add j = ⟨g, j, none⟩ := fun j => by unfold Addr.add; split <;> simp_all
    refine ⟨g, cap, rfl, hb, (h.lt g rfl).2, ?_⟩
    have := hc 0 _ rfl; rwa [e1] at this

/-- What three parts tell as a field. -/
def fieldS3 (st : UInt8) (a b d : List UInt8) : Option Fd :=
  match fdL3 [a, b, d] with
  | some (n, b, c) => (match splitL 61 c with
    | [k] => (match kindL k with | some k => some ⟨n, b, k, []⟩ | none => none)
    | [k, v] => if st = 82 ∧ standOk k v = true then some ⟨n, b, ⟨[], k, []⟩, v⟩ else none
    | _ => none)
  | none => none
theorem fieldS_three {st : UInt8} {s a b d : List UInt8} (hst : st ≠ 69) (hp : splitL 58 s = [a, b, d]) : fieldS st s = fieldS3 st a b d := by
  unfold fieldS fieldS3
  rw [if_neg hst, hp]
  cases fdL3 [a, b, d] with
  | none => rfl
  | some x =>
    obtain ⟨n, b', c⟩ := x
    simp only
    match splitL 61 c with
    | [] => rfl
    | [k] => simp only; cases kindL k <;> rfl
    | [k, v] => rfl
    | _ :: _ :: _ :: _ => rfl
theorem three_bad {st : UInt8} {a b d : List UInt8} (h : fdL3 [a, b, d] = none) : fieldS3 st a b d = none := by unfold fieldS3; rw [h]
theorem three_one {st : UInt8} {a b d k : List UInt8} {n : Nat} (h : fdL3 [a, b, d] = some (n, b, d)) (hq : splitL 61 d = [k]) : fieldS3 st a b d = (kindL k).map fun k => ⟨n, b, k, []⟩ := by
  unfold fieldS3; rw [h]; simp only; rw [hq]; simp only; cases kindL k <;> rfl
theorem three_two {st : UInt8} {a b d k v : List UInt8} {n : Nat} (h : fdL3 [a, b, d] = some (n, b, d)) (hq : splitL 61 d = [k, v]) : fieldS3 st a b d = if st = 82 ∧ standOk k v = true then some ⟨n, b, ⟨[], k, []⟩, v⟩ else none := by
  unfold fieldS3; rw [h]; simp only; rw [hq]
theorem three_more {st : UInt8} {a b d k v x : List UInt8} {l : List (List UInt8)} {n : Nat} (h : fdL3 [a, b, d] = some (n, b, d)) (hq : splitL 61 d = k :: v :: x :: l) : fieldS3 st a b d = none := by
  unfold fieldS3; rw [h]; simp only; rw [hq]

set_option maxHeartbeats 2000000 in
theorem sRead_N1 (st : UInt8) (hst : st ≠ 69) (s a b d : List UInt8) (w : World) (hs : s.length ≤ 1000) (hp : splitL 58 s = [a, b, d]) (ho : numOk a 200 = false) :
    Calls Tryz.prog 150 #[.string ⟨s.toArray⟩, .int .u8 (st.toNat : Int)] w (SfPost (fieldS st s) w) := by
  have hal := splitL_plen 58 s a (by rw [hp]; simp)
  have hbl := splitL_plen 58 s b (by rw [hp]; simp)
  have hdl := splitL_plen 58 s d (by rw [hp]; simp)
  have hF : fieldS st s = fieldS3 st a b d := fieldS_three hst hp
  have Hcut := Lib.hid (fun W => l3Cut_any s 58 58 rfl W (by omega))
  rw [hp] at Hcut
  have Hnum := Lib.hid (fun W => l3Num_any a 200 W (by omega) (by omega))
  have Hname := Lib.hid (fun W => l2Name_any b W (by omega))
  have hsl := st.toNat_lt
  have t1 : ((st.toNat : Int) != 69) = true := by have := byte_ne hst; simpa using this
  have t2 : ((st.toNat : Int) == 69) = false := byte_ne hst
  clear hp hst
  rw [three_bad (fdL3_bad (.inl ho))] at hF
  have HF := Lib.hid hF
  have Ho := Lib.hid ho
  clear hF ho
  go_enter Tryz.func150, Tryz.ntmps150
  go_wp2_with fail
  refine (Hcut.out _).mono ?_
  rintro e w1 ⟨v, rfl, ho, hb⟩
  obtain ⟨g, c, rfl, hg1, hg2, c0, c1, c2⟩ := own_three ho
  simp at hg1
  obtain ⟨hc, hfz, hz⟩ := bcell hb
  have Hb := Lib.hid (((Below.refl w.heap.size w).alloc (Nat.le_refl _) _).trans (hb.mono (by simp)))
  have hzz := hz w.heap.size (by simp)
  clear hb ho
  go_wp2_with fail
  refine (Hnum.out _).mono ?_
  rintro e w2 ⟨n, hn, rfl, hdn, hb2⟩
  rw [Ho.out]
  obtain ⟨hc2, hfz2, hz2⟩ := bcell hb2
  have Hb2 := Lib.hid (Hb.out.trans (hb2.mono Hb.out.size))
  have hsz := Hb2.out.size
  have hz3 := hz2 _ hzz
  clear hb2
  go_wp2_with fail
  refine bodyPost_ret (v := .tuple #[.agg #[.int .i64 n, .string ⟨b.toArray⟩, .string ⟨#[]⟩, .string ⟨#[]⟩], .bool false]) (by simp [results, Tryz.results150, go_sem, hc, hc2, hzz, hz3]) rfl ?_
  exact SfPost.no HF.out rfl (by (repeat (first | exact Hb2.out | refine Below.setCell ?_ (by first | exact Nat.le_refl _ | (simp; omega) | omega) _ | refine Below.alloc ?_ (by first | exact Nat.le_refl _ | (simp; omega) | omega) _ | refine Below.drew ?_)))

set_option maxHeartbeats 2000000 in
theorem sRead_N2 (st : UInt8) (hst : st ≠ 69) (s a b d : List UInt8) (w : World) (hs : s.length ≤ 1000) (hp : splitL 58 s = [a, b, d]) (ho : numOk a 200 = true) (hd : decL a = some 0) :
    Calls Tryz.prog 150 #[.string ⟨s.toArray⟩, .int .u8 (st.toNat : Int)] w (SfPost (fieldS st s) w) := by
  have hal := splitL_plen 58 s a (by rw [hp]; simp)
  have hbl := splitL_plen 58 s b (by rw [hp]; simp)
  have hdl := splitL_plen 58 s d (by rw [hp]; simp)
  have hF : fieldS st s = fieldS3 st a b d := fieldS_three hst hp
  have Hcut := Lib.hid (fun W => l3Cut_any s 58 58 rfl W (by omega))
  rw [hp] at Hcut
  have Hnum := Lib.hid (fun W => l3Num_any a 200 W (by omega) (by omega))
  have Hname := Lib.hid (fun W => l2Name_any b W (by omega))
  have hsl := st.toNat_lt
  have t1 : ((st.toNat : Int) != 69) = true := by have := byte_ne hst; simpa using this
  have t2 : ((st.toNat : Int) == 69) = false := byte_ne hst
  clear hp hst
  rw [three_bad (fdL3_bad (.inr (.inl hd)))] at hF
  have HF := Lib.hid hF
  have Ho := Lib.hid ho
  have Hd := Lib.hid hd
  clear hF ho hd
  go_enter Tryz.func150, Tryz.ntmps150
  go_wp2_with fail
  refine (Hcut.out _).mono ?_
  rintro e w1 ⟨v, rfl, ho, hb⟩
  obtain ⟨g, c, rfl, hg1, hg2, c0, c1, c2⟩ := own_three ho
  simp at hg1
  obtain ⟨hc, hfz, hz⟩ := bcell hb
  have Hb := Lib.hid (((Below.refl w.heap.size w).alloc (Nat.le_refl _) _).trans (hb.mono (by simp)))
  have hzz := hz w.heap.size (by simp)
  clear hb ho
  go_wp2_with fail
  refine (Hnum.out _).mono ?_
  rintro e w2 ⟨n, hn, rfl, hdn, hb2⟩
  rw [Ho.out]
  obtain ⟨hc2, hfz2, hz2⟩ := bcell hb2
  have Hb2 := Lib.hid (Hb.out.trans (hb2.mono Hb.out.size))
  have hsz := Hb2.out.size
  have hz3 := hz2 _ hzz
  clear hb2
  obtain rfl := hdn 0 Hd.out
  clear hdn
  go_wp2_with fail
  refine bodyPost_ret (v := .tuple #[.agg #[.int .i64 0, .string ⟨b.toArray⟩, .string ⟨#[]⟩, .string ⟨#[]⟩], .bool false]) (by simp [results, Tryz.results150, go_sem, hc, hc2, hzz, hz3]) rfl ?_
  exact SfPost.no HF.out rfl (by (repeat (first | exact Hb2.out | refine Below.setCell ?_ (by first | exact Nat.le_refl _ | (simp; omega) | omega) _ | refine Below.alloc ?_ (by first | exact Nat.le_refl _ | (simp; omega) | omega) _ | refine Below.drew ?_)))

set_option maxHeartbeats 2000000 in
theorem sRead_N3 (st : UInt8) (hst : st ≠ 69) (s a b d : List UInt8) (w : World) (hs : s.length ≤ 1000) (hp : splitL 58 s = [a, b, d]) (n0 : Nat) (ho : numOk a 200 = true) (hd : decL a = some n0) (h1 : 1 ≤ n0) (h2 : n0 ≤ 200) (hnm : nameOk b = false) :
    Calls Tryz.prog 150 #[.string ⟨s.toArray⟩, .int .u8 (st.toNat : Int)] w (SfPost (fieldS st s) w) := by
  have hal := splitL_plen 58 s a (by rw [hp]; simp)
  have hbl := splitL_plen 58 s b (by rw [hp]; simp)
  have hdl := splitL_plen 58 s d (by rw [hp]; simp)
  have hF : fieldS st s = fieldS3 st a b d := fieldS_three hst hp
  have Hcut := Lib.hid (fun W => l3Cut_any s 58 58 rfl W (by omega))
  rw [hp] at Hcut
  have Hnum := Lib.hid (fun W => l3Num_any a 200 W (by omega) (by omega))
  have Hname := Lib.hid (fun W => l2Name_any b W (by omega))
  have hsl := st.toNat_lt
  have t1 : ((st.toNat : Int) != 69) = true := by have := byte_ne hst; simpa using this
  have t2 : ((st.toNat : Int) == 69) = false := byte_ne hst
  clear hp hst
  rw [three_bad (fdL3_bad (.inr (.inr hnm)))] at hF
  have HF := Lib.hid hF
  have Ho := Lib.hid ho
  have Hd := Lib.hid hd
  have Hnm := Lib.hid hnm
  clear hF ho hd hnm
  go_enter Tryz.func150, Tryz.ntmps150
  go_wp2_with fail
  refine (Hcut.out _).mono ?_
  rintro e w1 ⟨v, rfl, ho, hb⟩
  obtain ⟨g, c, rfl, hg1, hg2, c0, c1, c2⟩ := own_three ho
  simp at hg1
  obtain ⟨hc, hfz, hz⟩ := bcell hb
  have Hb := Lib.hid (((Below.refl w.heap.size w).alloc (Nat.le_refl _) _).trans (hb.mono (by simp)))
  have hzz := hz w.heap.size (by simp)
  clear hb ho
  go_wp2_with fail
  refine (Hnum.out _).mono ?_
  rintro e w2 ⟨n, hn, rfl, hdn, hb2⟩
  rw [Ho.out]
  obtain ⟨hc2, hfz2, hz2⟩ := bcell hb2
  have Hb2 := Lib.hid (Hb.out.trans (hb2.mono Hb.out.size))
  have hsz := Hb2.out.size
  have hz3 := hz2 _ hzz
  clear hb2
  obtain rfl := hdn n0 Hd.out
  clear hdn
  go_wp2_with fail
  refine (Hname.out _).mono ?_
  rintro e w3 ⟨rfl, rfl⟩
  rw [Hnm.out]
  go_wp2_with fail
  refine bodyPost_ret (v := .tuple #[.agg #[.int .i64 n0, .string ⟨b.toArray⟩, .string ⟨#[]⟩, .string ⟨#[]⟩], .bool false]) (by simp [results, Tryz.results150, go_sem, hc, hc2, hzz, hz3]) rfl ?_
  exact SfPost.no HF.out rfl (by (repeat (first | exact Hb2.out | refine Below.setCell ?_ (by first | exact Nat.le_refl _ | (simp; omega) | omega) _ | refine Below.alloc ?_ (by first | exact Nat.le_refl _ | (simp; omega) | omega) _ | refine Below.drew ?_)))

end Go.Proofs.YtcjfgbcdlcdeaaaGreatDoor
/- A region whose order is open, by an invariant: each operation is shown once, whatever the order; what it has made is told by a word of its own that later operations keep. Conditions: as each theorem names them. -/
namespace Go.Proofs.YtcjfgbcdlcdeaaaGreatDoor
open Go.RowKit

theorem filter_length_lt {α : Type} {p q : α → Bool} : ∀ (l : List α) (_ : ∀ x, q x = true → p x = true) {a : α} (_ : a ∈ l) (_ : p a = true) (_ : q a = false), (l.filter q).length < (l.filter p).length
  | [], _, _, ha, _, _ => by cases ha
  | x :: l, h, a, ha, hp, hq => by
    have hle : ∀ l : List α, (l.filter q).length ≤ (l.filter p).length := by
      intro l
      induction l with
      | nil => exact Nat.le_refl _
      | cons y l ih =>
        simp only [List.filter_cons]
        by_cases h1 : q y = true
        · rw [if_pos h1, if_pos (h y h1)]; simpa using ih
        · rw [if_neg h1]; split
          · simp; omega
          · exact ih
    rcases List.mem_cons.1 ha with rfl | ha
    · have := hle l
      simp only [List.filter_cons, hp, hq]; simp; omega
    · have ih := filter_length_lt l h ha hp hq
      simp only [List.filter_cons]
      by_cases h1 : q x = true
      · rw [if_pos h1, if_pos (h x h1)]; simpa using ih
      · rw [if_neg h1]; split
        · simp; omega
        · exact ih

section
variable {P : Program} {ops : Array Oper} {Q : Exit → Act → World → Prop} {md : Region.Mode}

/-- How many operations are still to come. -/
def stillTo (ops : Array Oper) (listed : Array Bool) : Nat := ((List.range ops.size).filter fun i => !listed.getD i false).length

theorem wpAny_inv (hac : ∀ (i : Nat) (o : Oper), ops[i]? = some o → ∀ e ∈ o.after, Region.binds md e = true → e.on < i) (I : (Nat → Bool) → Act → World → Prop)
    (hstep : ∀ (l : Nat → Bool) a w i o, ops[i]? = some o → l i = false → (∀ e ∈ o.after, Region.binds md e = true → l e.on = true) → I l a w → wpOp P ops Q i (I fun j => if j = i then true else l j) a w)
    (hdone : ∀ l a w, (∀ i, i < ops.size → l i = true) → I l a w → Q .normal a w) :
    ∀ (fuel : Nat) (listed : Array Bool) a w, listed.size = ops.size → stillTo ops listed ≤ fuel → I (fun j => listed.getD j false) a w → wpAny P md ops Q fuel listed a w := by
  have hall : ∀ listed : Array Bool, listed.size = ops.size → Region.ready md ops listed = [] → ∀ i, i < ops.size → listed.getD i false = true := by
    intro listed hsz hr i
    induction i using Nat.strongRecOn with
    | ind i ih =>
      intro hi
      cases hb : listed.getD i false with
      | true => rfl
      | false =>
        have : i ∈ Region.ready md ops listed := by
          rw [mem_ready]
          refine ⟨by have h2 : i < listed.size := by omega
                     simpa [Array.getD, h2] using hb, ops[i], by simp [hi], fun e he hbd => ?_⟩
          have h1 := hac i ops[i] (by simp [hi]) e he hbd
          exact ih e.on h1 (by omega)
        rw [hr] at this
        cases this
  intro fuel
  induction fuel with
  | zero =>
    intro listed a w hsz hst hI
    have hall' : ∀ i, i < ops.size → listed.getD i false = true := by
      intro i hi
      have h0 : ((List.range ops.size).filter fun i => !listed.getD i false) = [] := List.eq_nil_of_length_eq_zero (by unfold stillTo at hst; omega)
      have := List.filter_eq_nil_iff.1 h0 i (List.mem_range.2 hi)
      simpa using this
    refine ⟨?_, hdone _ a w hall' hI⟩
    cases hr : Region.ready md ops listed with
    | nil => rfl
    | cons j js =>
      have hj : j ∈ Region.ready md ops listed := by rw [hr]; simp
      obtain ⟨h1, o, h2, _⟩ := mem_ready.1 hj
      have h3 : j < ops.size := (Array.getElem?_eq_some_iff.1 h2).1
      have h4 := hall' j h3
      have h5 : j < listed.size := by omega
      simp [Array.getD, h5] at h1 h4
      rw [h1] at h4; cases h4
  | succ fuel ih =>
    intro listed a w hsz hst hI
    refine ⟨fun hr => hdone _ a w (hall listed hsz hr) hI, fun i hi => ?_⟩
    obtain ⟨h1, o, h2, h3⟩ := mem_ready.1 hi
    have hlt : i < ops.size := (Array.getElem?_eq_some_iff.1 h2).1
    have hlt2 : i < listed.size := by omega
    have h1' : listed.getD i false = false := by simpa [Array.getD, hlt2] using h1
    have hset : ∀ j, (listed.setIfInBounds i true).getD j false = if j = i then true else listed.getD j false := by
      intro j
      by_cases hj : j = i
      · subst hj; simp [Array.getD, hlt2]
      · rw [if_neg hj, getD_set_ne _ (Ne.symm hj)]
    refine wpOp_mono (fun a' w' h => ih (listed.setIfInBounds i true) a' w' (by simpa using hsz) ?_ ?_) (hstep _ a w i o h2 h1' h3 hI)
    · have := filter_length_lt (p := fun i => !listed.getD i false) (q := fun j => !(listed.setIfInBounds i true).getD j false) (List.range ops.size) (fun x hx => by
        simp only [Bool.not_eq_true'] at hx ⊢
        rw [hset] at hx
        by_cases hxi : x = i
        · rw [if_pos hxi] at hx; cases hx
        · rwa [if_neg hxi] at hx) (List.mem_range.2 hlt) (by simp only [h1', Bool.not_false]) (by simp only [hset, if_true, Bool.not_true])
      unfold stillTo at hst ⊢
      omega
    · have e : (fun j => (listed.setIfInBounds i true).getD j false) = fun j => if j = i then true else listed.getD j false := funext hset
      rw [e]; exact h

/-- One row after another of a list of operations. -/
def Steps (p : Nat → Oper → Prop) (k : Nat) (os : List Oper) : Prop := ∀ i o, os[i]? = some o → p (k + i) o
theorem Steps.nil {p : Nat → Oper → Prop} {k : Nat} : Steps p k [] := fun i o h => by simp at h
theorem Steps.cons {p : Nat → Oper → Prop} {k : Nat} {o : Oper} {os : List Oper} (h : p k o) (hs : Steps p (k + 1) os) : Steps p k (o :: os) := fun i o' ho => by
  cases i with
  | zero => simp at ho; subst ho; exact h
  | succ i => simp at ho; have := hs i o' ho; rwa [Nat.add_assoc, Nat.add_comm 1 i] at this

/-- THE LAW: the frame is told by what each operation has yielded ('mk u': operation i's slot holds u i); 'φ i' is what is known of operation i's value, 'Rel' how the world may turn (each φ is kept over it), 'R' what is known of the world. -/
theorem wp_region_inv {id : Nat} (hm : P.follows .mixedOrders = true) (hac : (List.range ops.size).all (fun i => ((ops[i]?).map fun o => o.after.all fun e => !Region.binds .any e || decide (e.on < i)).getD true) = true)
    (mk : (Nat → Value) → Act) (u0 : Nat → Value) {a : Act} (ha : a = mk u0) {w : World}
    (φ : Nat → Value → World → Prop) (R : (Nat → Bool) → World → Prop) (Rel : World → World → Prop)
    (hput : Steps (fun i o => ∀ u v, (mk u).put o.dst v = mk (fun j => if j = i then v else u j)) 0 ops.toList)
    (hst : ∀ w w', Rel w w' → ∀ i v, φ i v w → φ i v w')
    (h0 : R (fun _ => false) w.drew)
    (hstep : Steps (fun i o => ∀ (l : Nat → Bool) u w, l i = false → (∀ e ∈ o.after, Region.binds .any e = true → l e.on = true ∧ φ e.on (u e.on) w) → R l w →
      ∀ K : Act → World → Prop, (∀ v w' a', φ i v w' → Rel w w' → R (fun j => if j = i then true else l j) w' → a' = (mk u).put o.dst v → K a' w') →
        if Region.wanted o (yielded ops (mk u).tmps) = true then Oper.wp P o (mk u) w K Q else K ((mk u).put o.dst undef) w) 0 ops.toList)
    (hdone : ∀ (l : Nat → Bool) u w, (∀ i, i < ops.size → l i = true) → (∀ i, i < ops.size → φ i (u i) w) → R l w → Q .normal (mk u) w) : (Code.region id ops true).wp P Q a w := by
  subst ha
  have hst' := fun i v w w' h => hst w w' h i v
  have hac' : ∀ (i : Nat) (o : Oper), ops[i]? = some o → ∀ e ∈ o.after, Region.binds .any e = true → e.on < i := by
    intro i o ho e he hbd
    have hlt : i < ops.size := (Array.getElem?_eq_some_iff.1 ho).1
    have h := List.all_eq_true.1 hac i (List.mem_range.2 hlt)
    rw [ho] at h
    have := Array.all_eq_true_iff_forall_mem.1 h e he
    simpa [hbd] using this
  refine wp_region_any hm ?_
  refine wpAny_inv hac' (fun l a w => ∃ u, a = mk u ∧ (∀ i, l i = true → i < ops.size → φ i (u i) w) ∧ R l w) ?_ ?_ ops.size _ (mk u0) _ (by simp) (by
    unfold stillTo
    exact Nat.le_trans (List.length_filter_le _ _) (by simp)) ⟨u0, rfl, ?_, ?_⟩
  · rintro l a w i o ho hl hpre ⟨u, rfl, hφ, hR⟩
    have ho' : ops.toList[i]? = some o := by simpa using ho
    have hp := hput i o ho'
    have hs := hstep i o ho'
    rw [Nat.zero_add] at hp hs
    refine wpOp_step ho fun K' hK' => ?_
    refine hs l u w hl (fun e he hb => ⟨hpre e he hb, hφ e.on (hpre e he hb) ?_⟩) hR K' (fun v w' a' hv hrel hR' ha' => hK' _ _ ⟨_, ha'.trans (hp u v), fun j hj hjs => ?_, hR'⟩)
    · have := hac' i o ho e he hb
      have := (Array.getElem?_eq_some_iff.1 ho).1
      omega
    · by_cases hji : j = i
      · subst hji; simpa using hv
      · have hj' : l j = true := by simpa [hji] using hj
        simpa [hji] using hst' j _ w w' hrel (hφ j hj' hjs)
  · rintro l a w hl ⟨u, rfl, hφ, hR⟩
    exact hdone l u w hl (fun i hi => hφ i (hl i hi) hi) hR
  · intro i hi
    simp [Array.getD] at hi
  · have e : (fun j => (Array.replicate ops.size false).getD j false) = fun _ => false := by
      funext j
      simp [Array.getD]
    rw [e]; exact h0
/-- The frame in which operation i's slot holds u i: S lists the slots (a number beyond the frame: the operation has no slot). -/
def setMany : List Nat → Nat → (Nat → Value) → List Value → List Value
  | [], _, _, t => t
  | s :: S, i, u, t => setMany S (i + 1) u (t.set s (u i))
def frameOf (a : Act) (S : List Nat) (u : Nat → Value) : Act := { tmps := (setMany S 0 u a.tmps.toList).toArray, defers := a.defers }

theorem setMany_length : ∀ (S : List Nat) (i : Nat) (u : Nat → Value) (t : List Value), (setMany S i u t).length = t.length
  | [], _, _, _ => rfl
  | s :: S, i, u, t => by rw [setMany, setMany_length S]; simp
theorem setMany_self : ∀ (S : List Nat) (i : Nat) (u : Nat → Value) (t : List Value), (∀ k s, S[k]? = some s → u (i + k) = t.getD s undef) → setMany S i u t = t
  | [], _, _, _, _ => rfl
  | s :: S, i, u, t, h => by
    have h0 : u i = t.getD s undef := by simpa using h 0 s rfl
    have e : t.set s (u i) = t := by
      rw [h0]
      apply List.ext_getElem?
      intro j
      by_cases hj : s = j
      · subst hj
        by_cases hl : s < t.length
        · simp [List.getD, hl]
        · simp [hl]
      · simp [hj]
    rw [setMany, e]
    exact setMany_self S (i + 1) u t fun k s' hk => by
      have := h (k + 1) s' (by simpa using hk)
      rwa [show i + 1 + k = i + (k + 1) by omega]
theorem setMany_congr : ∀ (S : List Nat) (i : Nat) (u v : Nat → Value) (t : List Value), (∀ j, i ≤ j → u j = v j) → setMany S i u t = setMany S i v t
  | [], _, _, _, _, _ => rfl
  | s :: S, i, u, v, t, h => by
    rw [setMany, setMany, h i (Nat.le_refl _)]
    exact setMany_congr S (i + 1) u v _ fun j hj => h j (by omega)
theorem setMany_comm : ∀ (S : List Nat) (i : Nat) (u : Nat → Value) (t : List Value) (s : Nat) (v : Value), s ∉ S → (setMany S i u t).set s v = setMany S i u (t.set s v)
  | [], _, _, _, _, _, _ => rfl
  | s' :: S, i, u, t, s, v, h => by
    have h1 : s ≠ s' := fun e => h (by simp [e])
    rw [setMany, setMany, setMany_comm S (i + 1) u _ s v (fun hm => h (by simp [hm]))]
    congr 1
    exact (List.set_comm _ _ h1).symm
theorem setMany_put : ∀ (S : List Nat) (i : Nat) (u : Nat → Value) (t : List Value) (k s : Nat) (v : Value), S.Nodup → S[k]? = some s → (setMany S i u t).set s v = setMany S i (fun j => if j = i + k then v else u j) t
  | [], _, _, _, k, s, v, _, h => by simp at h
  | s' :: S, i, u, t, 0, s, v, hn, h => by
    simp at h
    subst h
    rw [setMany, setMany, setMany_comm S (i + 1) u _ s' v (List.nodup_cons.1 hn).1]
    rw [if_pos (by omega), List.set_set]
    exact setMany_congr S (i + 1) u _ _ fun j hj => by rw [if_neg (by omega)]
  | s' :: S, i, u, t, k + 1, s, v, hn, h => by
    simp at h
    rw [setMany, setMany, setMany_put S (i + 1) u _ k s v (List.nodup_cons.1 hn).2 h, if_neg (by omega)]
    rw [show i + 1 + k = i + (k + 1) by omega]
theorem setMany_out : ∀ (S : List Nat) (i : Nat) (u : Nat → Value) (t : List Value) (k s : Nat) (v : Value), S[k]? = some s → t.length ≤ s → setMany S i u t = setMany S i (fun j => if j = i + k then v else u j) t
  | [], _, _, _, k, s, v, h, _ => by simp at h
  | s' :: S, i, u, t, 0, s, v, h, hl => by
    simp at h
    subst h
    rw [setMany, setMany, List.set_eq_of_length_le hl, List.set_eq_of_length_le hl]
    exact setMany_congr S (i + 1) u _ _ fun j hj => by rw [if_neg (by omega)]
  | s' :: S, i, u, t, k + 1, s, v, h, hl => by
    simp at h
    rw [setMany, setMany, setMany_out S (i + 1) u _ k s v h (by simpa using hl), if_neg (by omega)]
    rw [show i + 1 + k = i + (k + 1) by omega]

/-- Each operation writes the slot that S names for it (or none, where S names a number beyond the frame). -/
def slotsOk (n : Nat) : List Oper → List Nat → Bool
  | [], [] => true
  | o :: os, s :: S => (match o.dst with | some d => d == s | none => decide (n ≤ s)) && !S.contains s && slotsOk n os S
  | _, _ => false
theorem slotsOk_spec {n : Nat} : ∀ {os : List Oper} {S : List Nat}, slotsOk n os S = true → S.Nodup ∧ ∀ (i : Nat) (o : Oper), os[i]? = some o → ∃ s, S[i]? = some s ∧ (o.dst = some s ∨ (o.dst = none ∧ n ≤ s))
  | [], [], _ => ⟨List.nodup_nil, fun i o h => by simp at h⟩
  | [], _ :: _, h => by simp [slotsOk] at h
  | _ :: _, [], h => by simp [slotsOk] at h
  | o :: os, s :: S, h => by
    simp only [slotsOk, Bool.and_eq_true] at h
    obtain ⟨⟨h1, h2⟩, h3⟩ := h
    obtain ⟨hn, hs⟩ := slotsOk_spec h3
    refine ⟨List.nodup_cons.2 ⟨by simpa using h2, hn⟩, fun i o' ho => ?_⟩
    cases i with
    | zero =>
      simp at ho
      subst ho
      refine ⟨s, rfl, ?_⟩
      cases hd : o.dst with
      | some d => rw [hd] at h1; simp at h1; exact .inl (by rw [h1])
      | none => rw [hd] at h1; simp at h1; exact .inr ⟨rfl, h1⟩
    | succ i => simpa using hs i o' (by simpa using ho)

/-- The law, the frame told by the list of its slots; 'mk' is that frame written out. -/
theorem wp_region_slots {id : Nat} {a : Act} {w : World} (S : List Nat) (hm : P.follows .mixedOrders = true) (hac : (List.range ops.size).all (fun i => ((ops[i]?).map fun o => o.after.all fun e => !Region.binds .any e || decide (e.on < i)).getD true) = true)
    (hS : slotsOk a.tmps.size ops.toList S = true) {mk : (Nat → Value) → Act} (hmk : ∀ u, frameOf a S u = mk u)
    (φ : Nat → Value → World → Prop) (R : (Nat → Bool) → World → Prop) (Rel : World → World → Prop)
    (hst : ∀ w w', Rel w w' → ∀ i v, φ i v w → φ i v w')
    (h0 : R (fun _ => false) w.drew)
    (hstep : Steps (fun i o => ∀ (l : Nat → Bool) u w, l i = false → (∀ e ∈ o.after, Region.binds .any e = true → l e.on = true ∧ φ e.on (u e.on) w) → R l w →
      ∀ K : Act → World → Prop, (∀ v w' a', φ i v w' → Rel w w' → R (fun j => if j = i then true else l j) w' → a' = (mk u).put o.dst v → K a' w') →
        if Region.wanted o (yielded ops (mk u).tmps) = true then Oper.wp P o (mk u) w K Q else K ((mk u).put o.dst undef) w) 0 ops.toList)
    (hdone : ∀ (l : Nat → Bool) u w, (∀ i, i < ops.size → l i = true) → (∀ i, i < ops.size → φ i (u i) w) → R l w → Q .normal (mk u) w) : (Code.region id ops true).wp P Q a w := by
  obtain rfl : frameOf a S = mk := funext hmk
  obtain ⟨hn, hs⟩ := slotsOk_spec hS
  refine wp_region_inv hm hac (frameOf a S) (fun i => a.tmps.toList.getD (S.getD i 0) undef) ?_ φ R Rel ?_ hst h0 hstep hdone
  · unfold frameOf
    rw [setMany_self S 0 _ _ fun k s hk => by simp [List.getD, hk]]
  · intro i o ho u v
    rw [Nat.zero_add]
    obtain ⟨s, hsi, hd | ⟨hd, hb⟩⟩ := hs i o ho
    · have e := setMany_put S 0 u a.tmps.toList i s v hn hsi
      rw [Nat.zero_add] at e
      unfold frameOf Act.put
      rw [hd]
      simp only [← e]
      congr 1
      simp
    · have e := setMany_out S 0 u a.tmps.toList i s v hsi (by simpa using hb)
      rw [Nat.zero_add] at e
      unfold frameOf Act.put
      rw [hd]
      simp only [← e]
/-- The same, for a region that reads a slot which it writes in the end: of an operation that is not listed the slot is as it was at the head; and what hangs on an operation that is not listed is not listed. -/
theorem wp_region_slots2 {id : Nat} {a : Act} {w : World} (S : List Nat) (hm : P.follows .mixedOrders = true) (hac : (List.range ops.size).all (fun i => ((ops[i]?).map fun o => o.after.all fun e => !Region.binds .any e || decide (e.on < i)).getD true) = true)
    (hS : slotsOk a.tmps.size ops.toList S = true) {mk : (Nat → Value) → Act} (hmk : ∀ u, frameOf a S u = mk u)
    (φ : Nat → Value → World → Prop) (R : (Nat → Bool) → World → Prop) (Rel : World → World → Prop)
    (hst : ∀ w w', Rel w w' → ∀ i v, φ i v w → φ i v w')
    (h0 : R (fun _ => false) w.drew)
    (hstep : Steps (fun i o => ∀ (l : Nat → Bool) u w, l i = false → (∀ e ∈ o.after, Region.binds .any e = true → l e.on = true ∧ φ e.on (u e.on) w) → R l w →
      (∀ j, l j = false → u j = a.tmps.toList.getD (S.getD j 0) undef) → (∀ (j : Nat) (o : Oper), ops[j]? = some o → ∀ e ∈ o.after, Region.binds .any e = true → l e.on = false → l j = false) →
      ∀ K : Act → World → Prop, (∀ v w' a', φ i v w' → Rel w w' → R (fun j => if j = i then true else l j) w' → a' = (mk u).put o.dst v → K a' w') →
        if Region.wanted o (yielded ops (mk u).tmps) = true then Oper.wp P o (mk u) w K Q else K ((mk u).put o.dst undef) w) 0 ops.toList)
    (hdone : ∀ (l : Nat → Bool) u w, (∀ i, i < ops.size → l i = true) → (∀ i, i < ops.size → φ i (u i) w) → R l w → Q .normal (mk u) w) : (Code.region id ops true).wp P Q a w := by
  obtain rfl : frameOf a S = mk := funext hmk
  obtain ⟨hn, hs⟩ := slotsOk_spec hS
  have hput : ∀ (i : Nat) (o : Oper), ops.toList[i]? = some o → ∀ u v, (frameOf a S u).put o.dst v = frameOf a S (fun j => if j = i then v else u j) := by
    intro i o ho u v
    obtain ⟨s, hsi, hd | ⟨hd, hb⟩⟩ := hs i o ho
    · have e := setMany_put S 0 u a.tmps.toList i s v hn hsi
      rw [Nat.zero_add] at e
      unfold frameOf Act.put
      rw [hd]
      simp only [← e]
      congr 1
      simp
    · have e := setMany_out S 0 u a.tmps.toList i s v hsi (by simpa using hb)
      rw [Nat.zero_add] at e
      unfold frameOf Act.put
      rw [hd]
      simp only [← e]
  have hac' : ∀ (i : Nat) (o : Oper), ops[i]? = some o → ∀ e ∈ o.after, Region.binds .any e = true → e.on < i := by
    intro i o ho e he hbd
    have hlt : i < ops.size := (Array.getElem?_eq_some_iff.1 ho).1
    have h := List.all_eq_true.1 hac i (List.mem_range.2 hlt)
    rw [ho] at h
    have := Array.all_eq_true_iff_forall_mem.1 h e he
    simpa [hbd] using this
  refine wp_region_any hm ?_
  refine wpAny_inv hac' (fun l b w => ∃ u, b = frameOf a S u ∧ (∀ i, l i = true → i < ops.size → φ i (u i) w) ∧ R l w ∧ (∀ j, l j = false → u j = a.tmps.toList.getD (S.getD j 0) undef) ∧
      (∀ (j : Nat) (o : Oper), ops[j]? = some o → ∀ e ∈ o.after, Region.binds .any e = true → l e.on = false → l j = false)) ?_ ?_ ops.size _ a _ (by simp) (by
    unfold stillTo
    exact Nat.le_trans (List.length_filter_le _ _) (by simp)) ⟨fun i => a.tmps.toList.getD (S.getD i 0) undef, ?_, ?_, ?_, fun _ _ => rfl, ?_⟩
  · rintro l b w i o ho hl hpre ⟨u, rfl, hφ, hR, hi, hdn⟩
    have ho' : ops.toList[i]? = some o := by simpa using ho
    have hp := hput i o ho'
    have hs' := hstep i o ho'
    rw [Nat.zero_add] at hs'
    refine wpOp_step ho fun K' hK' => ?_
    refine hs' l u w hl (fun e he hb => ⟨hpre e he hb, hφ e.on (hpre e he hb) ?_⟩) hR hi hdn K' (fun v w' a' hv hrel hR' ha' => hK' _ _ ⟨_, ha'.trans (hp u v), fun j hj hjs => ?_, hR', fun j hj => ?_, fun j o' hj e he hb hle => ?_⟩)
    · have := hac' i o ho e he hb
      have := (Array.getElem?_eq_some_iff.1 ho).1
      omega
    · by_cases hji : j = i
      · subst hji; simpa using hv
      · have hj' : l j = true := by simpa [hji] using hj
        simpa [hji] using hst w w' hrel j _ (hφ j hj' hjs)
    · by_cases hji : j = i
      · subst hji; simp at hj
      · have hj' : l j = false := by simpa [hji] using hj
        simpa [hji] using hi j hj'
    · have hne : e.on ≠ i := by rintro rfl; simp at hle
      have hle' : l e.on = false := by simpa [hne] using hle
      have hlj := hdn j o' hj e he hb hle'
      have hji : j ≠ i := by
        rintro rfl
        rw [ho] at hj
        injection hj with hj
        subst hj
        rw [hpre e he hb] at hle'
        cases hle'
      simpa [hji] using hlj
  · rintro l b w hl ⟨u, rfl, hφ, hR, _, _⟩
    exact hdone l u w hl (fun i hi => hφ i (hl i hi) hi) hR
  · unfold frameOf
    rw [setMany_self S 0 _ _ fun k s hk => by simp [List.getD, hk]]
  · intro i hi
    simp [Array.getD] at hi
  · have e : (fun j => (Array.replicate ops.size false).getD j false) = fun _ => false := by
      funext j
      simp [Array.getD]
    rw [e]; exact h0
  · intro j o hj e he hb _
    simp [Array.getD]
end
end Go.Proofs.YtcjfgbcdlcdeaaaGreatDoor
/- l3ReadField, continued: a field of a record or a union. -/
namespace Go.Proofs.YtcjfgbcdlcdeaaaGreatDoor
open Go.RowKit
set_option maxRecDepth 100000
set_option linter.unusedVariables false
set_option linter.unusedSimpArgs false
attribute [local go_sem] ba_get ba_toList ba_extract take_drop_all ByteArray.mk_append_mk

set_option maxHeartbeats 2000000 in
theorem sRead_N4n (st : UInt8) (hst : st ≠ 69) (s a b d : List UInt8) (w : World) (hs : s.length ≤ 1000) (hp : splitL 58 s = [a, b, d]) (n0 : Nat) (ho : numOk a 200 = true) (hd : decL a = some n0) (h1 : 1 ≤ n0) (h2 : n0 ≤ 200) (hnm : nameOk b = true) (k : List UInt8) (hq : splitL 61 d = [k]) (hk : kindL k = none) :
    Calls Tryz.prog 150 #[.string ⟨s.toArray⟩, .int .u8 (st.toNat : Int)] w (SfPost (fieldS st s) w) := by
  have hal := splitL_plen 58 s a (by rw [hp]; simp)
  have hbl := splitL_plen 58 s b (by rw [hp]; simp)
  have hdl := splitL_plen 58 s d (by rw [hp]; simp)
  have hF : fieldS st s = fieldS3 st a b d := fieldS_three hst hp
  have Hcut := Lib.hid (fun W => l3Cut_any s 58 58 rfl W (by omega))
  rw [hp] at Hcut
  have Hnum := Lib.hid (fun W => l3Num_any a 200 W (by omega) (by omega))
  have Hname := Lib.hid (fun W => l2Name_any b W (by omega))
  have hsl := st.toNat_lt
  have t1 : ((st.toNat : Int) != 69) = true := by have := byte_ne hst; simpa using this
  have t2 : ((st.toNat : Int) == 69) = false := byte_ne hst
  clear hp hst
  have hkl := splitL_plen 61 d k (by rw [hq]; simp)
  rw [three_one (fdL3_good hd h1 h2 hnm) hq, hk] at hF
  have HF := Lib.hid hF
  have Ho := Lib.hid ho
  have Hd := Lib.hid hd
  have Hnm := Lib.hid hnm
  have Hcut2 := Lib.hid (fun W => l3Cut_any d 61 61 rfl W (by omega))
  rw [hq] at Hcut2
  clear hF ho hd hnm hq
  have hkk := fun W => KindOk_any k.length k W (Nat.le_refl _) (by omega)
  rw [hk] at hkk
  have Hk := Lib.hid hkk
  clear hkk hk
  go_enter Tryz.func150, Tryz.ntmps150
  go_wp2_with fail
  refine (Hcut.out _).mono ?_
  rintro e w1 ⟨v, rfl, ho, hb⟩
  obtain ⟨g, c, rfl, hg1, hg2, c0, c1, c2⟩ := own_three ho
  simp at hg1
  obtain ⟨hc, hfz, hz⟩ := bcell hb
  have Hb := Lib.hid (((Below.refl w.heap.size w).alloc (Nat.le_refl _) _).trans (hb.mono (by simp)))
  have hzz := hz w.heap.size (by simp)
  clear hb ho
  go_wp2_with fail
  refine (Hnum.out _).mono ?_
  rintro e w2 ⟨n, hn, rfl, hdn, hb2⟩
  rw [Ho.out]
  obtain ⟨hc2, hfz2, hz2⟩ := bcell hb2
  have Hb2 := Lib.hid (Hb.out.trans (hb2.mono Hb.out.size))
  have hsz := Hb2.out.size
  have hz3 := hz2 _ hzz
  clear hb2
  obtain rfl := hdn n0 Hd.out
  clear hdn
  go_wp2_with fail
  refine (Hname.out _).mono ?_
  rintro e w3 ⟨rfl, rfl⟩
  rw [Hnm.out]
  go_wp2_with fail
  refine (Hcut2.out _).mono ?_
  rintro e w4 ⟨v4, rfl, ho4, hb4⟩
  obtain ⟨g4, c4, rfl, hg4, hg5, c40⟩ := own_one ho4
  obtain ⟨hc4, hfz4, hz4⟩ := bcell hb4
  have hzb := hz4 w.heap.size (Nat.lt_trans hz3 (by simp))
  have hzf := hz4 w2.heap.size (by simp)
  have Hb4 := Lib.hid ((Hb2.out.alloc hsz _).trans (hb4.mono (Nat.le_trans hsz (by simp))))
  have u0 : w4.cell? ⟨w.heap.size, 0, none⟩ = some (.int .i64 0) := by rw [hc4 w.heap.size 0 (by simp; omega)]; simp [go_sem, hc2, hc, hzz, hz3]
  have u1 : w4.cell? ⟨w.heap.size, 1, none⟩ = some (.string ⟨#[]⟩) := by rw [hc4 w.heap.size 1 (by simp; omega)]; simp [go_sem, hc2, hc, hzz, hz3]
  have u2 : w4.cell? ⟨w.heap.size, 2, none⟩ = some (.string ⟨#[]⟩) := by rw [hc4 w.heap.size 2 (by simp; omega)]; simp [go_sem, hc2, hc, hzz, hz3]
  have u3 : w4.cell? ⟨w.heap.size, 3, none⟩ = some (.string ⟨#[]⟩) := by rw [hc4 w.heap.size 3 (by simp; omega)]; simp [go_sem, hc2, hc, hzz, hz3]
  have d0 : w4.cell? ⟨w2.heap.size, 0, none⟩ = some (.int .i64 (n0 : Int)) := by rw [hc4 w2.heap.size 0 (by simp)]; simp
  have d1 : w4.cell? ⟨w2.heap.size, 1, none⟩ = some (.string ⟨b.toArray⟩) := by rw [hc4 w2.heap.size 1 (by simp)]; simp
  have d2 : w4.cell? ⟨w2.heap.size, 2, none⟩ = some (.string ⟨#[]⟩) := by rw [hc4 w2.heap.size 2 (by simp)]; simp
  have d3 : w4.cell? ⟨w2.heap.size, 3, none⟩ = some (.string ⟨#[]⟩) := by rw [hc4 w2.heap.size 3 (by simp)]; simp
  have f1 : ∀ j, w4.frozen? ⟨w.heap.size, j, none⟩ = false := fun j => by rw [hfz4 w.heap.size j (by simp; omega)]; simp [go_sem, hfz2, hfz, hzz, hz3]
  have f2 : ∀ j, w4.frozen? ⟨w2.heap.size, j, none⟩ = false := fun j => by rw [hfz4 w2.heap.size j (by simp)]; simp
  clear hb4 ho4 hc hc2 hc4 hfz hfz2 hfz4 hz hz2 hz4
  have hn1 : ¬ (w2.heap.size = w.heap.size) := by omega
  have hn2 : ¬ (w.heap.size = w2.heap.size) := by omega
  have hn3 : ¬ (w4.heap.size = w.heap.size) := by omega
  have hn4 : ¬ (w.heap.size = w4.heap.size) := by omega
  go_wp2_with fail
  generalize hW0 : w4.setCell ⟨w2.heap.size, 2, none⟩ (.string ⟨k.toArray⟩) = W0
  have e0 : W0.cell? ⟨w2.heap.size, 0, none⟩ = some (.int .i64 (n0 : Int)) := by rw [← hW0]; simp [go_sem, d0]
  have e1 : W0.cell? ⟨w2.heap.size, 1, none⟩ = some (.string ⟨b.toArray⟩) := by rw [← hW0]; simp [go_sem, d1]
  have e2 : W0.cell? ⟨w2.heap.size, 2, none⟩ = some (.string ⟨k.toArray⟩) := by rw [← hW0]; simp [go_sem, hzf, d2, f2]
  have e3 : W0.cell? ⟨w2.heap.size, 3, none⟩ = some (.string ⟨#[]⟩) := by rw [← hW0]; simp [go_sem, hzf, d3, f2]
  have v0 : W0.cell? ⟨w.heap.size, 0, none⟩ = some (.int .i64 0) := by rw [← hW0]; simp [go_sem, u0, hn1, hn2]
  have v1 : W0.cell? ⟨w.heap.size, 1, none⟩ = some (.string ⟨#[]⟩) := by rw [← hW0]; simp [go_sem, u1, hn1, hn2]
  have v2 : W0.cell? ⟨w.heap.size, 2, none⟩ = some (.string ⟨#[]⟩) := by rw [← hW0]; simp [go_sem, u2, hn1, hn2]
  have v3 : W0.cell? ⟨w.heap.size, 3, none⟩ = some (.string ⟨#[]⟩) := by rw [← hW0]; simp [go_sem, u3, hn1, hn2]
  have g1 : ∀ j, W0.frozen? ⟨w.heap.size, j, none⟩ = false := fun j => by rw [← hW0]; simp [go_sem, f1]
  have y1 : w.heap.size < W0.heap.size := by rw [← hW0]; simp [go_sem, hzb]
  have Hb5 : Below w.heap.size w W0 := by
    rw [← hW0]
    (repeat (first | exact Hb4.out | refine Below.setCell ?_ (by first | exact Nat.le_refl _ | (simp; omega) | omega) _ | refine Below.alloc ?_ (by first | exact Nat.le_refl _ | (simp; omega) | omega) _ | refine Below.drew ?_))
  have Hb5 := Lib.hid Hb5
  clear hW0 u0 u1 u2 u3 d0 d1 d2 d3 f1 f2 Hb4 hzb hzf
  refine wp_region_slots [83, 84, 85, 86, 87, 88, 89, 90, 91, 999, 5] (by kernel_rfl) (by kernel_rfl) (by kernel_rfl) (fun u => by dsimp only [frameOf, setMany, List.set])
    (fun i x W => x = [.agg #[.int .i64 n0, .string ⟨b.toArray⟩, .string ⟨k.toArray⟩, .string ⟨#[]⟩], .slice (some ⟨g4, 0, none⟩) 1 c4, .int .i64 1, .bool true, .bool true, .pointer (some ⟨w2.heap.size, 2, none⟩), .string ⟨k.toArray⟩, .bool false, .bool false, undef, .bool false][i]?.getD undef)
    (fun L W => W = if L 9 = true then (((W0.drew.setCell ⟨w.heap.size, 0, none⟩ (.int .i64 n0)).setCell ⟨w.heap.size, 1, none⟩ (.string ⟨b.toArray⟩)).setCell ⟨w.heap.size, 2, none⟩ (.string ⟨k.toArray⟩)).setCell ⟨w.heap.size, 3, none⟩ (.string ⟨#[]⟩) else W0.drew) (fun _ _ => True) (fun _ _ _ _ _ h => h) rfl ?_ ?_
  · repeat (first | exact Steps.nil | (refine Steps.cons ?_ ?_; rotate_left))
    all_goals
      rintro L u W hL hpre hR K hK
      first | (simp [Region.binds] at hpre; done) | simp [Region.binds] at hpre | clear hpre
      rcases hl : L 9 with _ | _
      all_goals
        first | exact absurd (hl.symm.trans hL) (by decide) | (
          rw [hl] at hR
          first | rw [if_neg (by decide)] at hR | rw [if_pos rfl] at hR
          have hR' := hR.symm
          subst hR'
          go_simp
          try (go_at_call 132; refine (Hk.out _).mono ?_; rintro e w' ⟨rfl, rfl⟩)
          first | (refine hK _ _ _ rfl trivial (by simp [hl, go_sem]) rfl; done) | (refine hK _ _ _ rfl trivial (by simp [hl, go_sem]) (by simp [Act.put, hpre]); done) | (refine hK undef _ _ rfl trivial (by simp [hl, go_sem]) (by simp [Act.put, hpre]); done))
  · rintro L u W hL hφ hR
    have c10 := hφ 10 (by decide)
    simp at c10
    simp only [c10]
    rw [if_pos (hL 9 (by decide))] at hR
    subst hR
    go_wp2_with fail
    refine bodyPost_ret (v := .tuple #[.agg #[.int .i64 n0, .string ⟨b.toArray⟩, .string ⟨k.toArray⟩, .string ⟨#[]⟩], .bool false]) (by simp [results, Tryz.results150, go_sem, g1, y1, v0, v1, v2, v3]) rfl ?_
    exact SfPost.no HF.out rfl (by (repeat (first | exact Hb5.out | refine Below.setCell ?_ (by first | exact Nat.le_refl _ | (simp; omega) | omega) _ | refine Below.alloc ?_ (by first | exact Nat.le_refl _ | (simp; omega) | omega) _ | refine Below.drew ?_)))

end Go.Proofs.YtcjfgbcdlcdeaaaGreatDoor
/- l3ReadField, continued: a field of a record or a union. -/
namespace Go.Proofs.YtcjfgbcdlcdeaaaGreatDoor
open Go.RowKit
set_option maxRecDepth 100000
set_option linter.unusedVariables false
set_option linter.unusedSimpArgs false
attribute [local go_sem] ba_get ba_toList ba_extract take_drop_all ByteArray.mk_append_mk

set_option maxHeartbeats 2000000 in
theorem sRead_N4y (st : UInt8) (hst : st ≠ 69) (s a b d : List UInt8) (w : World) (hs : s.length ≤ 1000) (hp : splitL 58 s = [a, b, d]) (n0 : Nat) (ho : numOk a 200 = true) (hd : decL a = some n0) (h1 : 1 ≤ n0) (h2 : n0 ≤ 200) (hnm : nameOk b = true) (k : List UInt8) (hq : splitL 61 d = [k]) (kk : Kd) (hk : kindL k = some kk) :
    Calls Tryz.prog 150 #[.string ⟨s.toArray⟩, .int .u8 (st.toNat : Int)] w (SfPost (fieldS st s) w) := by
  have hal := splitL_plen 58 s a (by rw [hp]; simp)
  have hbl := splitL_plen 58 s b (by rw [hp]; simp)
  have hdl := splitL_plen 58 s d (by rw [hp]; simp)
  have hF : fieldS st s = fieldS3 st a b d := fieldS_three hst hp
  have Hcut := Lib.hid (fun W => l3Cut_any s 58 58 rfl W (by omega))
  rw [hp] at Hcut
  have Hnum := Lib.hid (fun W => l3Num_any a 200 W (by omega) (by omega))
  have Hname := Lib.hid (fun W => l2Name_any b W (by omega))
  have hsl := st.toNat_lt
  have t1 : ((st.toNat : Int) != 69) = true := by have := byte_ne hst; simpa using this
  have t2 : ((st.toNat : Int) == 69) = false := byte_ne hst
  clear hp hst
  have hkl := splitL_plen 61 d k (by rw [hq]; simp)
  rw [three_one (fdL3_good hd h1 h2 hnm) hq, hk] at hF
  have Hkb := Lib.hid (kindL_some.1 hk).2
  have HF := Lib.hid hF
  have Ho := Lib.hid ho
  have Hd := Lib.hid hd
  have Hnm := Lib.hid hnm
  have Hcut2 := Lib.hid (fun W => l3Cut_any d 61 61 rfl W (by omega))
  rw [hq] at Hcut2
  clear hF ho hd hnm hq
  have hkk := fun W => KindOk_any k.length k W (Nat.le_refl _) (by omega)
  rw [hk] at hkk
  have Hk := Lib.hid hkk
  clear hkk hk
  go_enter Tryz.func150, Tryz.ntmps150
  go_wp2_with fail
  refine (Hcut.out _).mono ?_
  rintro e w1 ⟨v, rfl, ho, hb⟩
  obtain ⟨g, c, rfl, hg1, hg2, c0, c1, c2⟩ := own_three ho
  simp at hg1
  obtain ⟨hc, hfz, hz⟩ := bcell hb
  have Hb := Lib.hid (((Below.refl w.heap.size w).alloc (Nat.le_refl _) _).trans (hb.mono (by simp)))
  have hzz := hz w.heap.size (by simp)
  clear hb ho
  go_wp2_with fail
  refine (Hnum.out _).mono ?_
  rintro e w2 ⟨n, hn, rfl, hdn, hb2⟩
  rw [Ho.out]
  obtain ⟨hc2, hfz2, hz2⟩ := bcell hb2
  have Hb2 := Lib.hid (Hb.out.trans (hb2.mono Hb.out.size))
  have hsz := Hb2.out.size
  have hz3 := hz2 _ hzz
  clear hb2
  obtain rfl := hdn n0 Hd.out
  clear hdn
  go_wp2_with fail
  refine (Hname.out _).mono ?_
  rintro e w3 ⟨rfl, rfl⟩
  rw [Hnm.out]
  go_wp2_with fail
  refine (Hcut2.out _).mono ?_
  rintro e w4 ⟨v4, rfl, ho4, hb4⟩
  obtain ⟨g4, c4, rfl, hg4, hg5, c40⟩ := own_one ho4
  obtain ⟨hc4, hfz4, hz4⟩ := bcell hb4
  have hzb := hz4 w.heap.size (Nat.lt_trans hz3 (by simp))
  have hzf := hz4 w2.heap.size (by simp)
  have Hb4 := Lib.hid ((Hb2.out.alloc hsz _).trans (hb4.mono (Nat.le_trans hsz (by simp))))
  have u0 : w4.cell? ⟨w.heap.size, 0, none⟩ = some (.int .i64 0) := by rw [hc4 w.heap.size 0 (by simp; omega)]; simp [go_sem, hc2, hc, hzz, hz3]
  have u1 : w4.cell? ⟨w.heap.size, 1, none⟩ = some (.string ⟨#[]⟩) := by rw [hc4 w.heap.size 1 (by simp; omega)]; simp [go_sem, hc2, hc, hzz, hz3]
  have u2 : w4.cell? ⟨w.heap.size, 2, none⟩ = some (.string ⟨#[]⟩) := by rw [hc4 w.heap.size 2 (by simp; omega)]; simp [go_sem, hc2, hc, hzz, hz3]
  have u3 : w4.cell? ⟨w.heap.size, 3, none⟩ = some (.string ⟨#[]⟩) := by rw [hc4 w.heap.size 3 (by simp; omega)]; simp [go_sem, hc2, hc, hzz, hz3]
  have d0 : w4.cell? ⟨w2.heap.size, 0, none⟩ = some (.int .i64 (n0 : Int)) := by rw [hc4 w2.heap.size 0 (by simp)]; simp
  have d1 : w4.cell? ⟨w2.heap.size, 1, none⟩ = some (.string ⟨b.toArray⟩) := by rw [hc4 w2.heap.size 1 (by simp)]; simp
  have d2 : w4.cell? ⟨w2.heap.size, 2, none⟩ = some (.string ⟨#[]⟩) := by rw [hc4 w2.heap.size 2 (by simp)]; simp
  have d3 : w4.cell? ⟨w2.heap.size, 3, none⟩ = some (.string ⟨#[]⟩) := by rw [hc4 w2.heap.size 3 (by simp)]; simp
  have f1 : ∀ j, w4.frozen? ⟨w.heap.size, j, none⟩ = false := fun j => by rw [hfz4 w.heap.size j (by simp; omega)]; simp [go_sem, hfz2, hfz, hzz, hz3]
  have f2 : ∀ j, w4.frozen? ⟨w2.heap.size, j, none⟩ = false := fun j => by rw [hfz4 w2.heap.size j (by simp)]; simp
  clear hb4 ho4 hc hc2 hc4 hfz hfz2 hfz4 hz hz2 hz4
  have hn1 : ¬ (w2.heap.size = w.heap.size) := by omega
  have hn2 : ¬ (w.heap.size = w2.heap.size) := by omega
  have hn3 : ¬ (w4.heap.size = w.heap.size) := by omega
  have hn4 : ¬ (w.heap.size = w4.heap.size) := by omega
  go_wp2_with fail
  generalize hW0 : w4.setCell ⟨w2.heap.size, 2, none⟩ (.string ⟨k.toArray⟩) = W0
  have e0 : W0.cell? ⟨w2.heap.size, 0, none⟩ = some (.int .i64 (n0 : Int)) := by rw [← hW0]; simp [go_sem, d0]
  have e1 : W0.cell? ⟨w2.heap.size, 1, none⟩ = some (.string ⟨b.toArray⟩) := by rw [← hW0]; simp [go_sem, d1]
  have e2 : W0.cell? ⟨w2.heap.size, 2, none⟩ = some (.string ⟨k.toArray⟩) := by rw [← hW0]; simp [go_sem, hzf, d2, f2]
  have e3 : W0.cell? ⟨w2.heap.size, 3, none⟩ = some (.string ⟨#[]⟩) := by rw [← hW0]; simp [go_sem, hzf, d3, f2]
  have v0 : W0.cell? ⟨w.heap.size, 0, none⟩ = some (.int .i64 0) := by rw [← hW0]; simp [go_sem, u0, hn1, hn2]
  have v1 : W0.cell? ⟨w.heap.size, 1, none⟩ = some (.string ⟨#[]⟩) := by rw [← hW0]; simp [go_sem, u1, hn1, hn2]
  have v2 : W0.cell? ⟨w.heap.size, 2, none⟩ = some (.string ⟨#[]⟩) := by rw [← hW0]; simp [go_sem, u2, hn1, hn2]
  have v3 : W0.cell? ⟨w.heap.size, 3, none⟩ = some (.string ⟨#[]⟩) := by rw [← hW0]; simp [go_sem, u3, hn1, hn2]
  have g1 : ∀ j, W0.frozen? ⟨w.heap.size, j, none⟩ = false := fun j => by rw [← hW0]; simp [go_sem, f1]
  have y1 : w.heap.size < W0.heap.size := by rw [← hW0]; simp [go_sem, hzb]
  have Hb5 : Below w.heap.size w W0 := by
    rw [← hW0]
    (repeat (first | exact Hb4.out | refine Below.setCell ?_ (by first | exact Nat.le_refl _ | (simp; omega) | omega) _ | refine Below.alloc ?_ (by first | exact Nat.le_refl _ | (simp; omega) | omega) _ | refine Below.drew ?_))
  have Hb5 := Lib.hid Hb5
  clear hW0 u0 u1 u2 u3 d0 d1 d2 d3 f1 f2 Hb4 hzb hzf
  refine wp_region_slots [83, 84, 85, 86, 87, 88, 89, 90, 91, 999, 5] (by kernel_rfl) (by kernel_rfl) (by kernel_rfl) (fun u => by dsimp only [frameOf, setMany, List.set])
    (fun i x W => x = [.agg #[.int .i64 n0, .string ⟨b.toArray⟩, .string ⟨k.toArray⟩, .string ⟨#[]⟩], .slice (some ⟨g4, 0, none⟩) 1 c4, .int .i64 1, .bool true, .bool true, .pointer (some ⟨w2.heap.size, 2, none⟩), .string ⟨k.toArray⟩, .bool true, .bool true, undef, .bool true][i]?.getD undef)
    (fun L W => W = if L 9 = true then (((W0.drew.setCell ⟨w.heap.size, 0, none⟩ (.int .i64 n0)).setCell ⟨w.heap.size, 1, none⟩ (.string ⟨b.toArray⟩)).setCell ⟨w.heap.size, 2, none⟩ (.string ⟨k.toArray⟩)).setCell ⟨w.heap.size, 3, none⟩ (.string ⟨#[]⟩) else W0.drew) (fun _ _ => True) (fun _ _ _ _ _ h => h) rfl ?_ ?_
  · repeat (first | exact Steps.nil | (refine Steps.cons ?_ ?_; rotate_left))
    all_goals
      rintro L u W hL hpre hR K hK
      first | (simp [Region.binds] at hpre; done) | simp [Region.binds] at hpre | clear hpre
      rcases hl : L 9 with _ | _
      all_goals
        first | exact absurd (hl.symm.trans hL) (by decide) | (
          rw [hl] at hR
          first | rw [if_neg (by decide)] at hR | rw [if_pos rfl] at hR
          have hR' := hR.symm
          subst hR'
          go_simp
          try (go_at_call 132; refine (Hk.out _).mono ?_; rintro e w' ⟨rfl, rfl⟩)
          first | (refine hK _ _ _ rfl trivial (by simp [hl, go_sem]) rfl; done) | (refine hK _ _ _ rfl trivial (by simp [hl, go_sem]) (by simp [Act.put, hpre]); done) | (refine hK undef _ _ rfl trivial (by simp [hl, go_sem]) (by simp [Act.put, hpre]); done))
  · rintro L u W hL hφ hR
    have c10 := hφ 10 (by decide)
    simp at c10
    simp only [c10]
    rw [if_pos (hL 9 (by decide))] at hR
    subst hR
    go_wp2_with fail
    refine bodyPost_ret (v := .tuple #[.agg #[.int .i64 n0, .string ⟨b.toArray⟩, .string ⟨k.toArray⟩, .string ⟨#[]⟩], .bool true]) (by simp [results, Tryz.results150, go_sem, g1, y1, v0, v1, v2, v3]) rfl ?_
    exact SfPost.yes HF.out (by unfold sfV; rw [Hkb.out]) (by (repeat (first | exact Hb5.out | refine Below.setCell ?_ (by first | exact Nat.le_refl _ | (simp; omega) | omega) _ | refine Below.alloc ?_ (by first | exact Nat.le_refl _ | (simp; omega) | omega) _ | refine Below.drew ?_)))

end Go.Proofs.YtcjfgbcdlcdeaaaGreatDoor
