/- Texts joined: SL7, FormD, SLM. Conditions: as each theorem names them. -/
import Derived.Test.YtdhinlhafoiaiaaGreatDoorK01
import Derived.Test.YtdhinlhafoiaiaaGreatDoorK03
import Derived.Test.YtdhinlhafoiaiaaGreatDoorK17
/- Plain laws of forms: types named anew in the order of meeting; what is met is closed. No program in sight. -/
namespace Go.Proofs.YtdhinlhafoiaiaaGreatDoor
set_option linter.unusedVariables false

/-- The place of a name. -/
def placeN (ns : List Name) (n : Name) : Nat := ns.findIdx fun m => decide (m = n)
/-- A name anew: the letter a, and a letter by the place. -/
def newN (ns : List Name) (n : Name) : Name := [97, byteOf (97 + placeN ns n)]
def formK (ns : List Name) (k : Kd) : Kd := if k.base = [64] then { k with name := newN ns k.name } else k
def formF (ns : List Name) (st : UInt8) (f : Fd) : Fd := if st = 69 then f else { f with kind := formK ns f.kind }
def formY (ns : List Name) (t : Ty) : Ty := { t with name := newN ns t.name, fields := t.fields.map (formF ns t.sort) }
/-- The types of names, named anew. -/
def formS (S : List Ty) (ns : List Name) : List Ty := ns.filterMap fun n => (findTy S n).map (formY ns)

theorem placeN_lt {ns : List Name} {n : Name} (h : n ∈ ns) : placeN ns n < ns.length := by
  unfold placeN
  exact List.findIdx_lt_length_of_exists ⟨n, h, by simp⟩
theorem placeN_le (ns : List Name) (n : Name) : placeN ns n ≤ ns.length := List.findIdx_le_length
/-- Looking from the front. -/
theorem placeN_at {ns : List Name} {i : Nat} (hi : i < ns.length) (hn : ∀ j, (hj : j < i) → ns[j]'(by omega) ≠ ns[i]) : placeN ns ns[i] = i := by
  unfold placeN
  rw [List.findIdx_eq hi]
  exact ⟨by simp, fun j hj => by simpa using hn j hj⟩
theorem placeN_nodup {ns : List Name} (h : ns.Nodup) {i : Nat} (hi : i < ns.length) : placeN ns ns[i] = i :=
  placeN_at hi (fun j hj e => by
    have := (List.nodup_iff_pairwise_ne.1 h)
    rw [List.pairwise_iff_getElem] at this
    exact this j i (by omega) hi hj e)

/-! ### what is met is closed -/
/-- Each name in a type that was met is met. -/
def Closed (S : List Ty) (out : List Name) (k : Kd) : Prop := k.base = [64] → k.name ∈ out
def ClosedT (S : List Ty) (out : List Name) (t : Ty) : Prop := t.sort ≠ 69 → ∀ f ∈ t.fields, Closed S out f.kind
theorem metN_sub (S : List Ty) : ∀ (n : Nat) (k : Kd) (out : List Name), ∀ x ∈ out, x ∈ metN S n k out
  | 0, _, _, x, hx => hx
  | n + 1, k, out, x, hx => by
    unfold metN
    split
    · split
      · simp [hx]
      · rename_i t _
        split
        · simp [hx]
        · have : ∀ (fs : List Fd) (o : List Name), x ∈ o → x ∈ fs.foldl (fun o f => metN S n f.kind o) o := by
            intro fs
            induction fs with
            | nil => intro o h; exact h
            | cons f fs ih => intro o h; exact ih _ (metN_sub S n f.kind o x h)
          exact this _ _ (by simp [hx])
    · exact hx
/-- Where the names that are still open are known: behind meeting, all that was not open before is closed. -/
theorem metN_closed {S : List Ty} (hS : kindsOk S) : ∀ (n : Nat) (k : Kd) (out : List Name), refOk S k → Mets S out → S.length < n + out.length →
    Closed S (metN S n k out) k ∧ ∀ x ∈ metN S n k out, x ∉ out → ∀ t, findTy S x = some t → ClosedT S (metN S n k out) t
  | 0, k, out, _, hm, hn => by have := hm.len; omega
  | n + 1, k, out, hr, hm, hn => by
    by_cases hc : k.base = [64] ∧ k.name ∉ out
    · have h1 := hr hc.1
      cases hf : findTy S k.name with
      | none => rw [hf] at h1; cases h1
      | some t =>
        have htm := findTy_some hf
        have hm1 := hm.snoc (findTy_isSome.1 h1) hc.2
        by_cases h69 : t.sort = 69
        · have e : metN S (n + 1) k out = out ++ [k.name] := by rw [metN, if_pos hc, hf]; exact if_pos h69
          rw [e]
          refine ⟨fun _ => by simp, fun x hx hxo t' ht' => ?_⟩
          rcases List.mem_append.1 hx with hx | hx
          · exact absurd hx hxo
          · simp at hx; subst hx; rw [hf] at ht'; injection ht' with ht'; subst ht'; exact fun h => absurd h69 h
        · have e : metN S (n + 1) k out = t.fields.foldl (fun o f => metN S n f.kind o) (out ++ [k.name]) := by rw [metN, if_pos hc, hf]; exact if_neg h69
          -- along the fields
          have key : ∀ (fs : List Fd), (∀ f ∈ fs, refOk S f.kind) → ∀ (o : List Name), Mets S o → S.length < n + o.length →
              (∀ x ∈ o, x ∈ fs.foldl (fun o f => metN S n f.kind o) o) ∧ (∀ f ∈ fs, Closed S (fs.foldl (fun o f => metN S n f.kind o) o) f.kind) ∧
              ∀ x ∈ fs.foldl (fun o f => metN S n f.kind o) o, x ∉ o → ∀ t, findTy S x = some t → ClosedT S (fs.foldl (fun o f => metN S n f.kind o) o) t := by
            intro fs
            induction fs with
            | nil => intro _ o _ _; exact ⟨fun x hx => hx, (fun f hf => by cases hf), fun x hx hxo => absurd hx hxo⟩
            | cons f fs ih =>
              intro hfr o hmo hno
              obtain ⟨c1, c2⟩ := metN_closed hS n f.kind o (hfr f (by simp)) hmo hno
              obtain ⟨m1, l, hl⟩ := metN_mets hS n f.kind o (hfr f (by simp)) hmo
              obtain ⟨i1, i2, i3⟩ := ih (fun g hg => hfr g (by simp [hg])) (metN S n f.kind o) m1 (by rw [hl, List.length_append]; omega)
              simp only [List.foldl_cons]
              refine ⟨fun x hx => i1 x (metN_sub S n f.kind o x hx), fun g hg => ?_, fun x hx hxo t' ht' => ?_⟩
              · rcases List.mem_cons.1 hg with rfl | hg
                · exact fun hb => i1 _ (c1 hb)
                · exact i2 g hg
              · by_cases hxm : x ∈ metN S n f.kind o
                · exact fun hs g hg hb => i1 _ (c2 x hxm hxo t' ht' hs g hg hb)
                · exact i3 x hx hxm t' ht'
          have hk := key t.fields (fun f hf' => hS t htm.1 h69 f hf') (out ++ [k.name]) hm1 (by rw [List.length_append]; simp; omega)
          rw [e]
          refine ⟨fun _ => hk.1 _ (by simp), fun x hx hxo t' ht' => ?_⟩
          by_cases hxk : x = k.name
          · subst hxk
            rw [hf] at ht'; injection ht' with ht'; subst ht'
            exact fun _ f hf' => hk.2.1 f hf'
          · exact hk.2.2 x hx (by simp [hxo, hxk]) t' ht'
    · have e : metN S (n + 1) k out = out := by rw [metN, if_neg hc]
      rw [e]
      refine ⟨fun hb => ?_, fun x hx hxo => absurd hx hxo⟩
      by_cases hk : k.name ∈ out
      · exact hk
      · exact absurd ⟨hb, hk⟩ hc
theorem metL_closed {S : List Ty} (hS : kindsOk S) (h8 : S.length ≤ 8) {k : Kd} (hr : refOk S k) : Closed S (metL S k) k ∧ ∀ x ∈ metL S k, ∀ t, findTy S x = some t → ClosedT S (metL S k) t := by
  obtain ⟨h1, h2⟩ := metN_closed hS 9 k [] hr (Mets.nil S) (by simp; omega)
  exact ⟨h1, fun x hx => h2 x hx (by simp)⟩
end Go.Proofs.YtdhinlhafoiaiaaGreatDoor
/- Forms and their likeness, as plain functions; cells of fields. -/
namespace Go.Proofs.YtdhinlhafoiaiaaGreatDoor
open Go.RowKit
set_option linter.unusedVariables false

/-- The form of a schema and a kind, if it is one. -/
def formL (o : Option (List Ty × Kd)) : Option (List UInt8 × List UInt8) :=
  match o with
  | none => none
  | some (S, k) => if (bothL (scB (formS S (metL S k))) (kdB (formK (metL S k) k))).isSome = true then some (scB (formS S (metL S k)), kdB (formK (metL S k) k)) else none
/-- .. as results. -/
def formV : Option (List UInt8 × List UInt8) → Value
  | none => .tuple #[.string ⟨#[]⟩, .string ⟨#[]⟩, .bool false]
  | some x => .tuple #[.string ⟨x.1.toArray⟩, .string ⟨x.2.toArray⟩, .bool true]
theorem formS_snoc {S : List Ty} {ns : List Name} {a : List Name} {n : Name} {t : Ty} (h : findTy S n = some t) : (a ++ [n]).filterMap (fun m => (findTy S m).map (formY ns)) = a.filterMap (fun m => (findTy S m).map (formY ns)) ++ [formY ns t] := by
  rw [List.filterMap_append]; simp [h]
theorem scB_snoc (S : List Ty) (t : Ty) : scB (S ++ [t]) = scB S ++ (tyB t ++ [10]) := by unfold scB; simp
theorem sfc_one (fs : List Fd) : ∀ y ∈ fs.flatMap sfc, y.oneCell' = true := by
  intro y hy
  obtain ⟨v, _, hv⟩ := List.mem_flatMap.1 hy
  simp [sfc] at hv
  rcases hv with rfl | rfl | rfl | rfl <;> rfl
/-- Whether two forms are one. -/
def alikeB : Option (List UInt8 × List UInt8) → Option (List UInt8 × List UInt8) → Bool
  | some a, some b => a.1 == b.1 && a.2 == b.2
  | _, _ => false
end Go.Proofs.YtdhinlhafoiaiaaGreatDoor
/- Plain laws: runs of signs in a text, read from the left; a text a byte of which was turned. No program in sight. -/
namespace Go.Proofs.YtdhinlhafoiaiaaGreatDoor
set_option linter.unusedVariables false

/-! ### runs of signs, read from the left: the run behind which one byte stands, and the run now -/
def stepM (st : Nat × Nat) (c : UInt8) : Option (Nat × Nat) :=
  if isSign c = true then some (st.1, st.2 + 1) else if c = 64 ∧ 8 < st.1 + st.2 then none else some (st.2, 0)
def mach : Nat × Nat → List UInt8 → Option (Nat × Nat)
  | st, [] => some st
  | st, c :: r => match stepM st c with
    | none => none
    | some q => mach q r
theorem mach_app : ∀ (a b : List UInt8) (st : Nat × Nat), mach st (a ++ b) = match mach st a with | none => none | some q => mach q b
  | [], b, st => rfl
  | c :: a, b, st => by
    rw [List.cons_append, mach, mach]
    cases h : stepM st c with
    | none => rfl
    | some q => exact mach_app a b q
theorem mach_signs : ∀ (g : List UInt8) (st : Nat × Nat), g.all isSign = true → mach st g = some (st.1, st.2 + g.length)
  | [], st, _ => rfl
  | c :: g, st, h => by
    simp only [List.all_cons, Bool.and_eq_true] at h
    rw [mach, stepM, if_pos h.1]
    simp only
    rw [mach_signs g _ h.2]
    simp; omega
theorem mach_two {p : List UInt8} {x : UInt8} {g1 g2 q : List UInt8} (h1 : g1.all isSign = true) (h2 : g2.all isSign = true) {st : Nat × Nat} (h : mach (0, 0) (p ++ (g1 ++ x :: (g2 ++ 64 :: q))) = some st) : g1.length + g2.length ≤ 8 := by
  rw [mach_app] at h
  cases hp : mach (0, 0) p with
  | none => rw [hp] at h; cases h
  | some s0 =>
    rw [hp] at h
    simp only at h
    rw [mach_app, mach_signs g1 _ h1] at h
    simp only [mach] at h
    by_cases hx : isSign x = true
    · rw [stepM, if_pos hx] at h
      simp only at h
      rw [mach_app, mach_signs g2 _ h2] at h
      simp only [mach] at h
      rw [stepM, if_neg (by decide)] at h
      split at h
      · cases h
      · rename_i h'
        split at h'
        · cases h'
        · rename_i hc; simp at hc; omega
    · rw [stepM, if_neg hx] at h
      split at h
      · cases h
      · rename_i h'
        split at h'
        · cases h'
        · injection h' with h'
          subst h'
          rw [mach_app, mach_signs g2 _ h2] at h
          simp only [mach] at h
          rw [stepM, if_neg (by decide)] at h
          split at h
          · cases h
          · rename_i h'
            split at h'
            · cases h'
            · rename_i hc; simp at hc; omega
theorem mach_one {p g q : List UInt8} (h1 : g.all isSign = true) {st : Nat × Nat} (h : mach (0, 0) (p ++ (g ++ 64 :: q)) = some st) : g.length ≤ 8 := by
  rw [mach_app] at h
  cases hp : mach (0, 0) p with
  | none => rw [hp] at h; cases h
  | some s0 =>
    rw [hp] at h
    simp only at h
    rw [mach_app, mach_signs g _ h1] at h
    simp only [mach] at h
    rw [stepM, if_neg (by decide)] at h
    split at h
    · cases h
    · rename_i h'
      split at h'
      · cases h'
      · rename_i hc; simp at hc; omega

/-- No long run of signs ahead of a name. -/
def NoRun (s : List UInt8) : Prop := ∀ p g q, s = p ++ (g ++ 64 :: q) → g.all isSign = true → g.length ≤ 8
theorem NoRun.of_mach {s : List UInt8} {st : Nat × Nat} (h : mach (0, 0) s = some st) : NoRun s := fun p g q e hg => by subst e; exact mach_one hg h
/-- Two ways to cut a text. -/
theorem cut_two : ∀ {a b c d : List UInt8}, a ++ b = c ++ d → (∃ m, c = a ++ m ∧ b = m ++ d) ∨ (∃ m, a = c ++ m ∧ d = m ++ b)
  | [], b, c, d, h => .inl ⟨c, rfl, h⟩
  | x :: a, b, [], d, h => .inr ⟨x :: a, rfl, h.symm⟩
  | x :: a, b, y :: c, d, h => by
    rw [List.cons_append, List.cons_append] at h
    injection h with h1 h2
    subst h1
    rcases cut_two h2 with ⟨m, e1, e2⟩ | ⟨m, e1, e2⟩
    · exact .inl ⟨m, by rw [e1]; rfl, e2⟩
    · exact .inr ⟨m, by rw [e1]; rfl, e2⟩
theorem all_app {p : UInt8 → Bool} {a b : List UInt8} (h : (a ++ b).all p = true) : a.all p = true ∧ b.all p = true := by
  rw [List.all_append, Bool.and_eq_true] at h; exact h
/-- A byte left out, or turned into one that is no sign. -/
theorem NoRun.turned {a b : List UInt8} {x : UInt8} {st : Nat × Nat} (h : mach (0, 0) (a ++ x :: b) = some st) (i : List UInt8) (hi : i = [] ∨ ∃ c, i = [c] ∧ isSign c = false ∧ c ≠ 64) : NoRun (a ++ (i ++ b)) := by
  intro p g q e hg
  rcases cut_two e with ⟨m, e1, e2⟩ | ⟨m, e1, e2⟩
  · -- p = a ++ m: the run lies in i ++ b behind m
    rcases hi with rfl | ⟨c, rfl, _, _⟩
    · rw [List.nil_append] at e2
      subst e2
      exact mach_one (p := a ++ x :: m) hg (by simpa using h)
    · cases m with
      | nil =>
        rw [List.nil_append, List.singleton_append] at e2
        cases g with
        | nil => simp
        | cons y g =>
          rw [List.cons_append] at e2
          injection e2 with e3 e4
          subst e3
          simp only [List.all_cons, Bool.and_eq_true] at hg
          rename_i hc _
          rw [hg.1] at hc; cases hc
      | cons y m =>
        rw [List.singleton_append, List.cons_append] at e2
        injection e2 with e3 e4
        subst e4
        exact mach_one (p := a ++ x :: m) hg (by simpa using h)
  · -- a = p ++ m, g ++ 64 :: q = m ++ (i ++ b)
    subst e1
    rcases cut_two e2 with ⟨n, f1, f2⟩ | ⟨n, f1, f2⟩
    · -- m = g ++ n: 64 :: q = n ++ (i ++ b)
      subst f1
      cases n with
      | nil =>
        rw [List.nil_append] at f2
        rcases hi with rfl | ⟨c, rfl, _, hc⟩
        · rw [List.nil_append] at f2
          subst f2
          have := mach_two (p := p) (x := x) (g1 := g) (g2 := []) (q := q) hg rfl (by simpa using h)
          simpa using this
        · rw [List.singleton_append] at f2
          injection f2 with f3 _
          exact absurd f3.symm hc
      | cons y n =>
        rw [List.cons_append] at f2
        injection f2 with f3 f4
        subst f3
        exact mach_one (p := p) (g := g) (q := n ++ x :: b) hg (by simpa using h)
    · -- g = m ++ n: i ++ b = n ++ 64 :: q
      subst f1
      obtain ⟨hm, hn⟩ := all_app hg
      rcases hi with rfl | ⟨c, rfl, hc, hc2⟩
      · rw [List.nil_append] at f2
        subst f2
        have := mach_two (p := p) (x := x) (g1 := m) (g2 := n) (q := q) hm hn (by simpa using h)
        rw [List.length_append]; exact this
      · cases n with
        | nil =>
          rw [List.nil_append, List.singleton_append] at f2
          injection f2 with f3 _
          exact absurd f3 hc2
        | cons y n =>
          rw [List.singleton_append, List.cons_append] at f2
          injection f2 with f3 _
          subst f3
          simp only [List.all_cons, Bool.and_eq_true] at hn
          rw [hn.1] at hc; cases hc
end Go.Proofs.YtdhinlhafoiaiaaGreatDoor
