/- A region whose order is open, by an invariant: each operation is shown once, whatever the order; what it has made is told by a word of its own that later operations keep. Conditions: as each theorem names them. -/
import Derived.Test.YtjbpjpakcpjheaaLib
import Derived.Deep.RegionWith
namespace Go.Proofs.Ytjbpjpakcpjheaa
open Go.RowKit

theorem filter_length_lt {α : Type} {p q : α → Bool} : ∀ (l : List α) (_ : ∀ x, q x = true → p x = true) {a : α} (_ : a ∈ l) (_ : p a = true) (_ : q a = false), (l.filter q).length < (l.filter p).length
  | [], _, _, ha, _, _ => by cases ha
  | x :: l, h, a, ha, hp, hq => by
    have hle : ∀ l : List α, (l.filter q).length ≤ (l.filter p).length := by
      intro l
      induction l with
      | nil => exact Nat.le_refl _
      | cons y l ih =>
        simp only [List.filter_cons]
        by_cases h1 : q y = true
        · rw [if_pos h1, if_pos (h y h1)]; simpa using ih
        · rw [if_neg h1]; split
          · simp; omega
          · exact ih
    rcases List.mem_cons.1 ha with rfl | ha
    · have := hle l
      simp only [List.filter_cons, hp, hq]; simp; omega
    · have ih := filter_length_lt l h ha hp hq
      simp only [List.filter_cons]
      by_cases h1 : q x = true
      · rw [if_pos h1, if_pos (h x h1)]; simpa using ih
      · rw [if_neg h1]; split
        · simp; omega
        · exact ih

section
variable {P : Program} {ops : Array Oper} {Q : Exit → Act → World → Prop} {md : Region.Mode}

/-- How many operations are still to come. -/
def stillTo (ops : Array Oper) (listed : Array Bool) : Nat := ((List.range ops.size).filter fun i => !listed.getD i false).length

theorem wpAny_inv (hac : ∀ (i : Nat) (o : Oper), ops[i]? = some o → ∀ e ∈ o.after, Region.binds md e = true → e.on < i) (I : (Nat → Bool) → Act → World → Prop)
    (hstep : ∀ (l : Nat → Bool) a w i o, ops[i]? = some o → l i = false → (∀ e ∈ o.after, Region.binds md e = true → l e.on = true) → I l a w → wpOp P ops Q i (I fun j => if j = i then true else l j) a w)
    (hdone : ∀ l a w, (∀ i, i < ops.size → l i = true) → I l a w → Q .normal a w) :
    ∀ (fuel : Nat) (listed : Array Bool) a w, listed.size = ops.size → stillTo ops listed ≤ fuel → I (fun j => listed.getD j false) a w → wpAny P md ops Q fuel listed a w := by
  have hall : ∀ listed : Array Bool, listed.size = ops.size → Region.ready md ops listed = [] → ∀ i, i < ops.size → listed.getD i false = true := by
    intro listed hsz hr i
    induction i using Nat.strongRecOn with
    | ind i ih =>
      intro hi
      cases hb : listed.getD i false with
      | true => rfl
      | false =>
        have : i ∈ Region.ready md ops listed := by
          rw [mem_ready]
          refine ⟨by have h2 : i < listed.size := by omega
                     simpa [Array.getD, h2] using hb, ops[i], by simp [hi], fun e he hbd => ?_⟩
          have h1 := hac i ops[i] (by simp [hi]) e he hbd
          exact ih e.on h1 (by omega)
        rw [hr] at this
        cases this
  intro fuel
  induction fuel with
  | zero =>
    intro listed a w hsz hst hI
    have hall' : ∀ i, i < ops.size → listed.getD i false = true := by
      intro i hi
      have h0 : ((List.range ops.size).filter fun i => !listed.getD i false) = [] := List.eq_nil_of_length_eq_zero (by unfold stillTo at hst; omega)
      have := List.filter_eq_nil_iff.1 h0 i (List.mem_range.2 hi)
      simpa using this
    refine ⟨?_, hdone _ a w hall' hI⟩
    cases hr : Region.ready md ops listed with
    | nil => rfl
    | cons j js =>
      have hj : j ∈ Region.ready md ops listed := by rw [hr]; simp
      obtain ⟨h1, o, h2, _⟩ := mem_ready.1 hj
      have h3 : j < ops.size := (Array.getElem?_eq_some_iff.1 h2).1
      have h4 := hall' j h3
      have h5 : j < listed.size := by omega
      simp [Array.getD, h5] at h1 h4
      rw [h1] at h4; cases h4
  | succ fuel ih =>
    intro listed a w hsz hst hI
    refine ⟨fun hr => hdone _ a w (hall listed hsz hr) hI, fun i hi => ?_⟩
    obtain ⟨h1, o, h2, h3⟩ := mem_ready.1 hi
    have hlt : i < ops.size := (Array.getElem?_eq_some_iff.1 h2).1
    have hlt2 : i < listed.size := by omega
    have h1' : listed.getD i false = false := by simpa [Array.getD, hlt2] using h1
    have hset : ∀ j, (listed.setIfInBounds i true).getD j false = if j = i then true else listed.getD j false := by
      intro j
      by_cases hj : j = i
      · subst hj; simp [Array.getD, hlt2]
      · rw [if_neg hj, getD_set_ne _ (Ne.symm hj)]
    refine wpOp_mono (fun a' w' h => ih (listed.setIfInBounds i true) a' w' (by simpa using hsz) ?_ ?_) (hstep _ a w i o h2 h1' h3 hI)
    · have := filter_length_lt (p := fun i => !listed.getD i false) (q := fun j => !(listed.setIfInBounds i true).getD j false) (List.range ops.size) (fun x hx => by
        simp only [Bool.not_eq_true'] at hx ⊢
        rw [hset] at hx
        by_cases hxi : x = i
        · rw [if_pos hxi] at hx; cases hx
        · rwa [if_neg hxi] at hx) (List.mem_range.2 hlt) (by simp only [h1', Bool.not_false]) (by simp only [hset, if_true, Bool.not_true])
      unfold stillTo at hst ⊢
      omega
    · have e : (fun j => (listed.setIfInBounds i true).getD j false) = fun j => if j = i then true else listed.getD j false := funext hset
      rw [e]; exact h

/-- One row after another of a list of operations. -/
def Steps (p : Nat → Oper → Prop) (k : Nat) (os : List Oper) : Prop := ∀ i o, os[i]? = some o → p (k + i) o
theorem Steps.nil {p : Nat → Oper → Prop} {k : Nat} : Steps p k [] := fun i o h => by simp at h
theorem Steps.cons {p : Nat → Oper → Prop} {k : Nat} {o : Oper} {os : List Oper} (h : p k o) (hs : Steps p (k + 1) os) : Steps p k (o :: os) := fun i o' ho => by
  cases i with
  | zero => simp at ho; subst ho; exact h
  | succ i => simp at ho; have := hs i o' ho; rwa [Nat.add_assoc, Nat.add_comm 1 i] at this

/-- THE LAW: the frame is told by what each operation has yielded ('mk u': operation i's slot holds u i); 'φ i' is what is known of operation i's value, 'Rel' how the world may turn (each φ is kept over it), 'R' what is known of the world. -/
theorem wp_region_inv {id : Nat} (hm : P.follows .mixedOrders = true) (hac : (List.range ops.size).all (fun i => ((ops[i]?).map fun o => o.after.all fun e => !Region.binds .any e || decide (e.on < i)).getD true) = true)
    (mk : (Nat → Value) → Act) (u0 : Nat → Value) {a : Act} (ha : a = mk u0) {w : World}
    (φ : Nat → Value → World → Prop) (R : (Nat → Bool) → World → Prop) (Rel : World → World → Prop)
    (hput : Steps (fun i o => ∀ u v, (mk u).put o.dst v = mk (fun j => if j = i then v else u j)) 0 ops.toList)
    (hst : ∀ w w', Rel w w' → ∀ i v, φ i v w → φ i v w')
    (h0 : R (fun _ => false) w.drew)
    (hstep : Steps (fun i o => ∀ (l : Nat → Bool) u w, l i = false → (∀ e ∈ o.after, Region.binds .any e = true → l e.on = true ∧ φ e.on (u e.on) w) → R l w →
      ∀ K : Act → World → Prop, (∀ v w' a', φ i v w' → Rel w w' → R (fun j => if j = i then true else l j) w' → a' = (mk u).put o.dst v → K a' w') →
        if Region.wanted o (yielded ops (mk u).tmps) = true then Oper.wp P o (mk u) w K Q else K ((mk u).put o.dst undef) w) 0 ops.toList)
    (hdone : ∀ (l : Nat → Bool) u w, (∀ i, i < ops.size → l i = true) → (∀ i, i < ops.size → φ i (u i) w) → R l w → Q .normal (mk u) w) : (Code.region id ops true).wp P Q a w := by
  subst ha
  have hst' := fun i v w w' h => hst w w' h i v
  have hac' : ∀ (i : Nat) (o : Oper), ops[i]? = some o → ∀ e ∈ o.after, Region.binds .any e = true → e.on < i := by
    intro i o ho e he hbd
    have hlt : i < ops.size := (Array.getElem?_eq_some_iff.1 ho).1
    have h := List.all_eq_true.1 hac i (List.mem_range.2 hlt)
    rw [ho] at h
    have := Array.all_eq_true_iff_forall_mem.1 h e he
    simpa [hbd] using this
  refine wp_region_any hm ?_
  refine wpAny_inv hac' (fun l a w => ∃ u, a = mk u ∧ (∀ i, l i = true → i < ops.size → φ i (u i) w) ∧ R l w) ?_ ?_ ops.size _ (mk u0) _ (by simp) (by
    unfold stillTo
    exact Nat.le_trans (List.length_filter_le _ _) (by simp)) ⟨u0, rfl, ?_, ?_⟩
  · rintro l a w i o ho hl hpre ⟨u, rfl, hφ, hR⟩
    have ho' : ops.toList[i]? = some o := by simpa using ho
    have hp := hput i o ho'
    have hs := hstep i o ho'
    rw [Nat.zero_add] at hp hs
    refine wpOp_step ho fun K' hK' => ?_
    refine hs l u w hl (fun e he hb => ⟨hpre e he hb, hφ e.on (hpre e he hb) ?_⟩) hR K' (fun v w' a' hv hrel hR' ha' => hK' _ _ ⟨_, ha'.trans (hp u v), fun j hj hjs => ?_, hR'⟩)
    · have := hac' i o ho e he hb
      have := (Array.getElem?_eq_some_iff.1 ho).1
      omega
    · by_cases hji : j = i
      · subst hji; simpa using hv
      · have hj' : l j = true := by simpa [hji] using hj
        simpa [hji] using hst' j _ w w' hrel (hφ j hj' hjs)
  · rintro l a w hl ⟨u, rfl, hφ, hR⟩
    exact hdone l u w hl (fun i hi => hφ i (hl i hi) hi) hR
  · intro i hi
    simp [Array.getD] at hi
  · have e : (fun j => (Array.replicate ops.size false).getD j false) = fun _ => false := by
      funext j
      simp [Array.getD]
    rw [e]; exact h0
/-- The frame in which operation i's slot holds u i: S lists the slots (a number beyond the frame: the operation has no slot). -/
def setMany : List Nat → Nat → (Nat → Value) → List Value → List Value
  | [], _, _, t => t
  | s :: S, i, u, t => setMany S (i + 1) u (t.set s (u i))
def frameOf (a : Act) (S : List Nat) (u : Nat → Value) : Act := { tmps := (setMany S 0 u a.tmps.toList).toArray, defers := a.defers }

theorem setMany_length : ∀ (S : List Nat) (i : Nat) (u : Nat → Value) (t : List Value), (setMany S i u t).length = t.length
  | [], _, _, _ => rfl
  | s :: S, i, u, t => by rw [setMany, setMany_length S]; simp
theorem setMany_self : ∀ (S : List Nat) (i : Nat) (u : Nat → Value) (t : List Value), (∀ k s, S[k]? = some s → u (i + k) = t.getD s undef) → setMany S i u t = t
  | [], _, _, _, _ => rfl
  | s :: S, i, u, t, h => by
    have h0 : u i = t.getD s undef := by simpa using h 0 s rfl
    have e : t.set s (u i) = t := by
      rw [h0]
      apply List.ext_getElem?
      intro j
      by_cases hj : s = j
      · subst hj
        by_cases hl : s < t.length
        · simp [List.getD, hl]
        · simp [hl]
      · simp [hj]
    rw [setMany, e]
    exact setMany_self S (i + 1) u t fun k s' hk => by
      have := h (k + 1) s' (by simpa using hk)
      rwa [show i + 1 + k = i + (k + 1) by omega]
theorem setMany_congr : ∀ (S : List Nat) (i : Nat) (u v : Nat → Value) (t : List Value), (∀ j, i ≤ j → u j = v j) → setMany S i u t = setMany S i v t
  | [], _, _, _, _, _ => rfl
  | s :: S, i, u, v, t, h => by
    rw [setMany, setMany, h i (Nat.le_refl _)]
    exact setMany_congr S (i + 1) u v _ fun j hj => h j (by omega)
theorem setMany_comm : ∀ (S : List Nat) (i : Nat) (u : Nat → Value) (t : List Value) (s : Nat) (v : Value), s ∉ S → (setMany S i u t).set s v = setMany S i u (t.set s v)
  | [], _, _, _, _, _, _ => rfl
  | s' :: S, i, u, t, s, v, h => by
    have h1 : s ≠ s' := fun e => h (by simp [e])
    rw [setMany, setMany, setMany_comm S (i + 1) u _ s v (fun hm => h (by simp [hm]))]
    congr 1
    exact (List.set_comm _ _ h1).symm
theorem setMany_put : ∀ (S : List Nat) (i : Nat) (u : Nat → Value) (t : List Value) (k s : Nat) (v : Value), S.Nodup → S[k]? = some s → (setMany S i u t).set s v = setMany S i (fun j => if j = i + k then v else u j) t
  | [], _, _, _, k, s, v, _, h => by simp at h
  | s' :: S, i, u, t, 0, s, v, hn, h => by
    simp at h
    subst h
    rw [setMany, setMany, setMany_comm S (i + 1) u _ s' v (List.nodup_cons.1 hn).1]
    rw [if_pos (by omega), List.set_set]
    exact setMany_congr S (i + 1) u _ _ fun j hj => by rw [if_neg (by omega)]
  | s' :: S, i, u, t, k + 1, s, v, hn, h => by
    simp at h
    rw [setMany, setMany, setMany_put S (i + 1) u _ k s v (List.nodup_cons.1 hn).2 h, if_neg (by omega)]
    rw [show i + 1 + k = i + (k + 1) by omega]
theorem setMany_out : ∀ (S : List Nat) (i : Nat) (u : Nat → Value) (t : List Value) (k s : Nat) (v : Value), S[k]? = some s → t.length ≤ s → setMany S i u t = setMany S i (fun j => if j = i + k then v else u j) t
  | [], _, _, _, k, s, v, h, _ => by simp at h
  | s' :: S, i, u, t, 0, s, v, h, hl => by
    simp at h
    subst h
    rw [setMany, setMany, List.set_eq_of_length_le hl, List.set_eq_of_length_le hl]
    exact setMany_congr S (i + 1) u _ _ fun j hj => by rw [if_neg (by omega)]
  | s' :: S, i, u, t, k + 1, s, v, h, hl => by
    simp at h
    rw [setMany, setMany, setMany_out S (i + 1) u _ k s v h (by simpa using hl), if_neg (by omega)]
    rw [show i + 1 + k = i + (k + 1) by omega]

/-- Each operation writes the slot that S names for it (or none, where S names a number beyond the frame). -/
def slotsOk (n : Nat) : List Oper → List Nat → Bool
  | [], [] => true
  | o :: os, s :: S => (match o.dst with | some d => d == s | none => decide (n ≤ s)) && !S.contains s && slotsOk n os S
  | _, _ => false
theorem slotsOk_spec {n : Nat} : ∀ {os : List Oper} {S : List Nat}, slotsOk n os S = true → S.Nodup ∧ ∀ (i : Nat) (o : Oper), os[i]? = some o → ∃ s, S[i]? = some s ∧ (o.dst = some s ∨ (o.dst = none ∧ n ≤ s))
  | [], [], _ => ⟨List.nodup_nil, fun i o h => by simp at h⟩
  | [], _ :: _, h => by simp [slotsOk] at h
  | _ :: _, [], h => by simp [slotsOk] at h
  | o :: os, s :: S, h => by
    simp only [slotsOk, Bool.and_eq_true] at h
    obtain ⟨⟨h1, h2⟩, h3⟩ := h
    obtain ⟨hn, hs⟩ := slotsOk_spec h3
    refine ⟨List.nodup_cons.2 ⟨by simpa using h2, hn⟩, fun i o' ho => ?_⟩
    cases i with
    | zero =>
      simp at ho
      subst ho
      refine ⟨s, rfl, ?_⟩
      cases hd : o.dst with
      | some d => rw [hd] at h1; simp at h1; exact .inl (by rw [h1])
      | none => rw [hd] at h1; simp at h1; exact .inr ⟨rfl, h1⟩
    | succ i => simpa using hs i o' (by simpa using ho)

/-- The law, the frame told by the list of its slots; 'mk' is that frame written out. -/
theorem wp_region_slots {id : Nat} {a : Act} {w : World} (S : List Nat) (hm : P.follows .mixedOrders = true) (hac : (List.range ops.size).all (fun i => ((ops[i]?).map fun o => o.after.all fun e => !Region.binds .any e || decide (e.on < i)).getD true) = true)
    (hS : slotsOk a.tmps.size ops.toList S = true) {mk : (Nat → Value) → Act} (hmk : ∀ u, frameOf a S u = mk u)
    (φ : Nat → Value → World → Prop) (R : (Nat → Bool) → World → Prop) (Rel : World → World → Prop)
    (hst : ∀ w w', Rel w w' → ∀ i v, φ i v w → φ i v w')
    (h0 : R (fun _ => false) w.drew)
    (hstep : Steps (fun i o => ∀ (l : Nat → Bool) u w, l i = false → (∀ e ∈ o.after, Region.binds .any e = true → l e.on = true ∧ φ e.on (u e.on) w) → R l w →
      ∀ K : Act → World → Prop, (∀ v w' a', φ i v w' → Rel w w' → R (fun j => if j = i then true else l j) w' → a' = (mk u).put o.dst v → K a' w') →
        if Region.wanted o (yielded ops (mk u).tmps) = true then Oper.wp P o (mk u) w K Q else K ((mk u).put o.dst undef) w) 0 ops.toList)
    (hdone : ∀ (l : Nat → Bool) u w, (∀ i, i < ops.size → l i = true) → (∀ i, i < ops.size → φ i (u i) w) → R l w → Q .normal (mk u) w) : (Code.region id ops true).wp P Q a w := by
  obtain rfl : frameOf a S = mk := funext hmk
  obtain ⟨hn, hs⟩ := slotsOk_spec hS
  refine wp_region_inv hm hac (frameOf a S) (fun i => a.tmps.toList.getD (S.getD i 0) undef) ?_ φ R Rel ?_ hst h0 hstep hdone
  · unfold frameOf
    rw [setMany_self S 0 _ _ fun k s hk => by simp [List.getD, hk]]
  · intro i o ho u v
    rw [Nat.zero_add]
    obtain ⟨s, hsi, hd | ⟨hd, hb⟩⟩ := hs i o ho
    · have e := setMany_put S 0 u a.tmps.toList i s v hn hsi
      rw [Nat.zero_add] at e
      unfold frameOf Act.put
      rw [hd]
      simp only [← e]
      congr 1
      simp
    · have e := setMany_out S 0 u a.tmps.toList i s v hsi (by simpa using hb)
      rw [Nat.zero_add] at e
      unfold frameOf Act.put
      rw [hd]
      simp only [← e]
/-- The same, for a region that reads a slot which it writes in the end: of an operation that is not listed the slot is as it was at the head; and what hangs on an operation that is not listed is not listed. -/
theorem wp_region_slots2 {id : Nat} {a : Act} {w : World} (S : List Nat) (hm : P.follows .mixedOrders = true) (hac : (List.range ops.size).all (fun i => ((ops[i]?).map fun o => o.after.all fun e => !Region.binds .any e || decide (e.on < i)).getD true) = true)
    (hS : slotsOk a.tmps.size ops.toList S = true) {mk : (Nat → Value) → Act} (hmk : ∀ u, frameOf a S u = mk u)
    (φ : Nat → Value → World → Prop) (R : (Nat → Bool) → World → Prop) (Rel : World → World → Prop)
    (hst : ∀ w w', Rel w w' → ∀ i v, φ i v w → φ i v w')
    (h0 : R (fun _ => false) w.drew)
    (hstep : Steps (fun i o => ∀ (l : Nat → Bool) u w, l i = false → (∀ e ∈ o.after, Region.binds .any e = true → l e.on = true ∧ φ e.on (u e.on) w) → R l w →
      (∀ j, l j = false → u j = a.tmps.toList.getD (S.getD j 0) undef) → (∀ (j : Nat) (o : Oper), ops[j]? = some o → ∀ e ∈ o.after, Region.binds .any e = true → l e.on = false → l j = false) →
      ∀ K : Act → World → Prop, (∀ v w' a', φ i v w' → Rel w w' → R (fun j => if j = i then true else l j) w' → a' = (mk u).put o.dst v → K a' w') →
        if Region.wanted o (yielded ops (mk u).tmps) = true then Oper.wp P o (mk u) w K Q else K ((mk u).put o.dst undef) w) 0 ops.toList)
    (hdone : ∀ (l : Nat → Bool) u w, (∀ i, i < ops.size → l i = true) → (∀ i, i < ops.size → φ i (u i) w) → R l w → Q .normal (mk u) w) : (Code.region id ops true).wp P Q a w := by
  obtain rfl : frameOf a S = mk := funext hmk
  obtain ⟨hn, hs⟩ := slotsOk_spec hS
  have hput : ∀ (i : Nat) (o : Oper), ops.toList[i]? = some o → ∀ u v, (frameOf a S u).put o.dst v = frameOf a S (fun j => if j = i then v else u j) := by
    intro i o ho u v
    obtain ⟨s, hsi, hd | ⟨hd, hb⟩⟩ := hs i o ho
    · have e := setMany_put S 0 u a.tmps.toList i s v hn hsi
      rw [Nat.zero_add] at e
      unfold frameOf Act.put
      rw [hd]
      simp only [← e]
      congr 1
      simp
    · have e := setMany_out S 0 u a.tmps.toList i s v hsi (by simpa using hb)
      rw [Nat.zero_add] at e
      unfold frameOf Act.put
      rw [hd]
      simp only [← e]
  have hac' : ∀ (i : Nat) (o : Oper), ops[i]? = some o → ∀ e ∈ o.after, Region.binds .any e = true → e.on < i := by
    intro i o ho e he hbd
    have hlt : i < ops.size := (Array.getElem?_eq_some_iff.1 ho).1
    have h := List.all_eq_true.1 hac i (List.mem_range.2 hlt)
    rw [ho] at h
    have := Array.all_eq_true_iff_forall_mem.1 h e he
    simpa [hbd] using this
  refine wp_region_any hm ?_
  refine wpAny_inv hac' (fun l b w => ∃ u, b = frameOf a S u ∧ (∀ i, l i = true → i < ops.size → φ i (u i) w) ∧ R l w ∧ (∀ j, l j = false → u j = a.tmps.toList.getD (S.getD j 0) undef) ∧
      (∀ (j : Nat) (o : Oper), ops[j]? = some o → ∀ e ∈ o.after, Region.binds .any e = true → l e.on = false → l j = false)) ?_ ?_ ops.size _ a _ (by simp) (by
    unfold stillTo
    exact Nat.le_trans (List.length_filter_le _ _) (by simp)) ⟨fun i => a.tmps.toList.getD (S.getD i 0) undef, ?_, ?_, ?_, fun _ _ => rfl, ?_⟩
  · rintro l b w i o ho hl hpre ⟨u, rfl, hφ, hR, hi, hdn⟩
    have ho' : ops.toList[i]? = some o := by simpa using ho
    have hp := hput i o ho'
    have hs' := hstep i o ho'
    rw [Nat.zero_add] at hs'
    refine wpOp_step ho fun K' hK' => ?_
    refine hs' l u w hl (fun e he hb => ⟨hpre e he hb, hφ e.on (hpre e he hb) ?_⟩) hR hi hdn K' (fun v w' a' hv hrel hR' ha' => hK' _ _ ⟨_, ha'.trans (hp u v), fun j hj hjs => ?_, hR', fun j hj => ?_, fun j o' hj e he hb hle => ?_⟩)
    · have := hac' i o ho e he hb
      have := (Array.getElem?_eq_some_iff.1 ho).1
      omega
    · by_cases hji : j = i
      · subst hji; simpa using hv
      · have hj' : l j = true := by simpa [hji] using hj
        simpa [hji] using hst w w' hrel j _ (hφ j hj' hjs)
    · by_cases hji : j = i
      · subst hji; simp at hj
      · have hj' : l j = false := by simpa [hji] using hj
        simpa [hji] using hi j hj'
    · have hne : e.on ≠ i := by rintro rfl; simp at hle
      have hle' : l e.on = false := by simpa [hne] using hle
      have hlj := hdn j o' hj e he hb hle'
      have hji : j ≠ i := by
        rintro rfl
        rw [ho] at hj
        injection hj with hj
        subst hj
        rw [hpre e he hb] at hle'
        cases hle'
      simpa [hji] using hlj
  · rintro l b w hl ⟨u, rfl, hφ, hR, _, _⟩
    exact hdone l u w hl (fun i hi => hφ i (hl i hi) hi) hR
  · unfold frameOf
    rw [setMany_self S 0 _ _ fun k s hk => by simp [List.getD, hk]]
  · intro i hi
    simp [Array.getD] at hi
  · have e : (fun j => (Array.replicate ops.size false).getD j false) = fun _ => false := by
      funext j
      simp [Array.getD]
    rw [e]; exact h0
  · intro j o hj e he hb _
    simp [Array.getD]
end
end Go.Proofs.Ytjbpjpakcpjheaa
