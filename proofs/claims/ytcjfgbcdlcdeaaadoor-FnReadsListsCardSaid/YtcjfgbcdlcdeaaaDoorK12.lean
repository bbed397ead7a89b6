/- Texts joined: SL7, FormD, AppW, AppW2, FMap, Shelf, Strs, NumsI. Conditions: as each theorem names them. -/
import Derived.Laws.Append
import Derived.Maps.OwnSet
import Derived.Maps.OwnOps
import Derived.StringKeys
import Derived.Shelf.Strings.SlTrimAscii
import Derived.Shelf.Strings.Prefix
import Derived.Shelf.Strings.Search3
import Derived.Shelf.Strings.Count
import Derived.Test.YtcjfgbcdlcdeaaaDoorProg
import Derived.Lib.IndexLaws
import Derived.Test.YtcjfgbcdlcdeaaaDoorK01
import Derived.Test.YtcjfgbcdlcdeaaaDoorK11
/- Plain laws of forms: types named anew in the order of meeting; what is met is closed. No program in sight. -/
namespace Go.Proofs.YtcjfgbcdlcdeaaaDoor
set_option linter.unusedVariables false

/-- The place of a name. -/
def placeN (ns : List Name) (n : Name) : Nat := ns.findIdx fun m => decide (m = n)
/-- A name anew: the letter a, and a letter by the place. -/
def newN (ns : List Name) (n : Name) : Name := [97, byteOf (97 + placeN ns n)]
def formK (ns : List Name) (k : Kd) : Kd := if k.base = [64] then { k with name := newN ns k.name } else k
def formF (ns : List Name) (st : UInt8) (f : Fd) : Fd := if st = 69 then f else { f with kind := formK ns f.kind }
def formY (ns : List Name) (t : Ty) : Ty := { t with name := newN ns t.name, fields := t.fields.map (formF ns t.sort) }
/-- The types of names, named anew. -/
def formS (S : List Ty) (ns : List Name) : List Ty := ns.filterMap fun n => (findTy S n).map (formY ns)

theorem placeN_lt {ns : List Name} {n : Name} (h : n ∈ ns) : placeN ns n < ns.length := by
  unfold placeN
  exact List.findIdx_lt_length_of_exists ⟨n, h, by simp⟩
theorem placeN_le (ns : List Name) (n : Name) : placeN ns n ≤ ns.length := List.findIdx_le_length
/-- Looking from the front. -/
theorem placeN_at {ns : List Name} {i : Nat} (hi : i < ns.length) (hn : ∀ j, (hj : j < i) → ns[j]'(by omega) ≠ ns[i]) : placeN ns ns[i] = i := by
  unfold placeN
  rw [List.findIdx_eq hi]
  exact ⟨by simp, fun j hj => by simpa using hn j hj⟩
theorem placeN_nodup {ns : List Name} (h : ns.Nodup) {i : Nat} (hi : i < ns.length) : placeN ns ns[i] = i :=
  placeN_at hi (fun j hj e => by
    have := (List.nodup_iff_pairwise_ne.1 h)
    rw [List.pairwise_iff_getElem] at this
    exact this j i (by omega) hi hj e)

/-! ### what is met is closed -/
/-- Each name in a type that was met is met. -/
def Closed (S : List Ty) (out : List Name) (k : Kd) : Prop := k.base = [64] → k.name ∈ out
def ClosedT (S : List Ty) (out : List Name) (t : Ty) : Prop := t.sort ≠ 69 → ∀ f ∈ t.fields, Closed S out f.kind
theorem metN_sub (S : List Ty) : ∀ (n : Nat) (k : Kd) (out : List Name), ∀ x ∈ out, x ∈ metN S n k out
  | 0, _, _, x, hx => hx
  | n + 1, k, out, x, hx => by
    unfold metN
    split
    · split
      · simp [hx]
      · rename_i t _
        split
        · simp [hx]
        · have : ∀ (fs : List Fd) (o : List Name), x ∈ o → x ∈ fs.foldl (fun o f => metN S n f.kind o) o := by
            intro fs
            induction fs with
            | nil => intro o h; exact h
            | cons f fs ih => intro o h; exact ih _ (metN_sub S n f.kind o x h)
          exact this _ _ (by simp [hx])
    · exact hx
/-- Where the names that are still open are known: behind meeting, all that was not open before is closed. -/
theorem metN_closed {S : List Ty} (hS : kindsOk S) : ∀ (n : Nat) (k : Kd) (out : List Name), refOk S k → Mets S out → S.length < n + out.length →
    Closed S (metN S n k out) k ∧ ∀ x ∈ metN S n k out, x ∉ out → ∀ t, findTy S x = some t → ClosedT S (metN S n k out) t
  | 0, k, out, _, hm, hn => by have := hm.len; omega
  | n + 1, k, out, hr, hm, hn => by
    by_cases hc : k.base = [64] ∧ k.name ∉ out
    · have h1 := hr hc.1
      cases hf : findTy S k.name with
      | none => rw [hf] at h1; cases h1
      | some t =>
        have htm := findTy_some hf
        have hm1 := hm.snoc (findTy_isSome.1 h1) hc.2
        by_cases h69 : t.sort = 69
        · have e : metN S (n + 1) k out = out ++ [k.name] := by rw [metN, if_pos hc, hf]; exact if_pos h69
          rw [e]
          refine ⟨fun _ => by simp, fun x hx hxo t' ht' => ?_⟩
          rcases List.mem_append.1 hx with hx | hx
          · exact absurd hx hxo
          · simp at hx; subst hx; rw [hf] at ht'; injection ht' with ht'; subst ht'; exact fun h => absurd h69 h
        · have e : metN S (n + 1) k out = t.fields.foldl (fun o f => metN S n f.kind o) (out ++ [k.name]) := by rw [metN, if_pos hc, hf]; exact if_neg h69
          -- along the fields
          have key : ∀ (fs : List Fd), (∀ f ∈ fs, refOk S f.kind) → ∀ (o : List Name), Mets S o → S.length < n + o.length →
              (∀ x ∈ o, x ∈ fs.foldl (fun o f => metN S n f.kind o) o) ∧ (∀ f ∈ fs, Closed S (fs.foldl (fun o f => metN S n f.kind o) o) f.kind) ∧
              ∀ x ∈ fs.foldl (fun o f => metN S n f.kind o) o, x ∉ o → ∀ t, findTy S x = some t → ClosedT S (fs.foldl (fun o f => metN S n f.kind o) o) t := by
            intro fs
            induction fs with
            | nil => intro _ o _ _; exact ⟨fun x hx => hx, (fun f hf => by cases hf), fun x hx hxo => absurd hx hxo⟩
            | cons f fs ih =>
              intro hfr o hmo hno
              obtain ⟨c1, c2⟩ := metN_closed hS n f.kind o (hfr f (by simp)) hmo hno
              obtain ⟨m1, l, hl⟩ := metN_mets hS n f.kind o (hfr f (by simp)) hmo
              obtain ⟨i1, i2, i3⟩ := ih (fun g hg => hfr g (by simp [hg])) (metN S n f.kind o) m1 (by rw [hl, List.length_append]; omega)
              simp only [List.foldl_cons]
              refine ⟨fun x hx => i1 x (metN_sub S n f.kind o x hx), fun g hg => ?_, fun x hx hxo t' ht' => ?_⟩
              · rcases List.mem_cons.1 hg with rfl | hg
                · exact fun hb => i1 _ (c1 hb)
                · exact i2 g hg
              · by_cases hxm : x ∈ metN S n f.kind o
                · exact fun hs g hg hb => i1 _ (c2 x hxm hxo t' ht' hs g hg hb)
                · exact i3 x hx hxm t' ht'
          have hk := key t.fields (fun f hf' => hS t htm.1 h69 f hf') (out ++ [k.name]) hm1 (by rw [List.length_append]; simp; omega)
          rw [e]
          refine ⟨fun _ => hk.1 _ (by simp), fun x hx hxo t' ht' => ?_⟩
          by_cases hxk : x = k.name
          · subst hxk
            rw [hf] at ht'; injection ht' with ht'; subst ht'
            exact fun _ f hf' => hk.2.1 f hf'
          · exact hk.2.2 x hx (by simp [hxo, hxk]) t' ht'
    · have e : metN S (n + 1) k out = out := by rw [metN, if_neg hc]
      rw [e]
      refine ⟨fun hb => ?_, fun x hx hxo => absurd hx hxo⟩
      by_cases hk : k.name ∈ out
      · exact hk
      · exact absurd ⟨hb, hk⟩ hc
theorem metL_closed {S : List Ty} (hS : kindsOk S) (h8 : S.length ≤ 8) {k : Kd} (hr : refOk S k) : Closed S (metL S k) k ∧ ∀ x ∈ metL S k, ∀ t, findTy S x = some t → ClosedT S (metL S k) t := by
  obtain ⟨h1, h2⟩ := metN_closed hS 9 k [] hr (Mets.nil S) (by simp; omega)
  exact ⟨h1, fun x hx => h2 x hx (by simp)⟩
end Go.Proofs.YtcjfgbcdlcdeaaaDoor
/- Forms and their likeness, as plain functions; cells of fields. -/
namespace Go.Proofs.YtcjfgbcdlcdeaaaDoor
open Go.RowKit
set_option linter.unusedVariables false

/-- The form of a schema and a kind, if it is one. -/
def formL (o : Option (List Ty × Kd)) : Option (List UInt8 × List UInt8) :=
  match o with
  | none => none
  | some (S, k) => if (bothL (scB (formS S (metL S k))) (kdB (formK (metL S k) k))).isSome = true then some (scB (formS S (metL S k)), kdB (formK (metL S k) k)) else none
/-- .. as results. -/
def formV : Option (List UInt8 × List UInt8) → Value
  | none => .tuple #[.string ⟨#[]⟩, .string ⟨#[]⟩, .bool false]
  | some x => .tuple #[.string ⟨x.1.toArray⟩, .string ⟨x.2.toArray⟩, .bool true]
theorem formS_snoc {S : List Ty} {ns : List Name} {a : List Name} {n : Name} {t : Ty} (h : findTy S n = some t) : (a ++ [n]).filterMap (fun m => (findTy S m).map (formY ns)) = a.filterMap (fun m => (findTy S m).map (formY ns)) ++ [formY ns t] := by
  rw [List.filterMap_append]; simp [h]
theorem scB_snoc (S : List Ty) (t : Ty) : scB (S ++ [t]) = scB S ++ (tyB t ++ [10]) := by unfold scB; simp
theorem sfc_one (fs : List Fd) : ∀ y ∈ fs.flatMap sfc, y.oneCell' = true := by
  intro y hy
  obtain ⟨v, _, hv⟩ := List.mem_flatMap.1 hy
  simp [sfc] at hv
  rcases hv with rfl | rfl | rfl | rfl <;> rfl
/-- Whether two forms are one. -/
def alikeB : Option (List UInt8 × List UInt8) → Option (List UInt8 × List UInt8) → Bool
  | some a, some b => a.1 == b.1 && a.2 == b.2
  | _, _ => false
end Go.Proofs.YtcjfgbcdlcdeaaaDoor
/- Append of one element to a row of the call's own: and where the row lies then. -/
namespace Go.Proofs.YtcjfgbcdlcdeaaaDoor
open Go.RowKit
set_option linter.unusedVariables false

section
variable {P : Program}
theorem run_append_where (w : World) (base : Nat) (t ty e : TypeId) (i : TypeInfo) (z : Value) (size bytes : Nat) (ht : P.underlying t = some (.slice e)) (hi : P.info? e = some i) (hz : i.zero = some z)
    (hsize : i.size = size) (hby : i.bytes = bytes) (hzs : z.cells.size = size) (hsz : 0 < size)
    (v : Value) (n : Nat) (xs : List Value) (hown : w.ownsRow base e size v n xs)
    (a : Addr) (m c : Nat) (news : List Value) (hl : news.length = m * size) (hnews : ∀ j u, news[j]? = some u → w.cell? (a.add j) = some u) (h1 : ∀ u ∈ news, u.oneCell' = true)
    (hm : 0 < m) (h63 : n + m ≤ maxLen) (hbytes : (n + m) * bytes ≤ 140737488355328) (hbase : base ≤ w.heap.size) :
    ∃ v' w', (Builtin.append_ #[t, t] ty #[v, .slice (some a) m c]).run P w = .ok v' w' ∧ w'.ownsRow base e size v' (n + m) (xs ++ news) ∧ w.grownBy w' v.ownBlock ∧
      (v'.ownBlock = v.ownBlock ∨ ∃ k, v'.ownBlock = some k ∧ w.heap.size ≤ k) := by
  obtain ⟨v', w', hr, h2, h3, _⟩ := run_append_own (P := P) w base t ty e i z size bytes ht hi hz hsize hby hzs hsz v n xs hown a m c news hl hnews h1 h63 hbytes hbase
  refine ⟨v', w', hr, h2, h3, ?_⟩
  subst hsize
  subst hby
  have h63' : n + m ≤ 9223372036854775807 := by simp only [maxLen] at h63; omega
  rcases hown.2 with ⟨rfl, rfl⟩ | ⟨g, cap, cur, rfl, hbg, hg, hnc, hcm, hcs, htake⟩
  · have hq := run_append_nil (P := P) w t ty e i z ht hi hz a m c news hl hnews hm (by omega) (by have hb := hbytes; simp only [Nat.zero_add] at hb; omega)
    rw [hq] at hr
    injection hr with e1 _
    subst e1
    exact .inr ⟨_, rfl, Nat.le_refl _⟩
  · by_cases hroom : n + m ≤ cap
    · have hfit : n * i.size + news.length ≤ cur.size := by rw [hl, hcs, ← Nat.add_mul]; exact Nat.mul_le_mul_right _ hroom
      have hq := run_append_room (P := P) w t ty e i ht hi g n cap cur hg a m c news hl hnews h1 hroom hfit
      rw [hq] at hr
      injection hr with e1 _
      subst e1
      exact .inl rfl
    · have holds : ∀ j u, xs[j]? = some u → w.cell? ((⟨g, 0, none⟩ : Addr).add j) = some u := hown.cells (g := g) rfl
      have hq := run_append_grow (P := P) w t ty e i z ht hi hz ⟨g, 0, none⟩ n cap xs hown.1 holds a m c news hl hnews (by omega) (by omega) (growslice_fits (by omega) hbytes)
      rw [hq] at hr
      injection hr with e1 _
      subst e1
      exact .inr ⟨_, rfl, Nat.le_refl _⟩
/-- wpList_app1, and what else it keeps, and where the row lies. -/
theorem wpList_app1W (w : World) {ops : Array Oper} {rest : List Oper} {o : Oper} {a : Act} {Q : Exit → Act → World → Prop} (hgd : o.guard = none) (s x : Operand) (t : TypeId)
    (ho : o.op = .call { callee := .builtin .append, args := #[s, x], argTypes := #[t, t] })
    (base : Nat) (e : TypeId) (z : Value) (bytes : Nat) (ht : P.underlying t = some (.slice e)) (hinfo : (P.info? e).map (fun i => (i.zero, i.size, i.bytes)) = some (some z, 1, bytes))
    (hzs : z.cells.size = 1) (W : World) (u : Value) (hw : w = W.alloc (.cells #[u] e)) (hu : u.oneCell' = true) (v : Value) (n : Nat) (xs : List Value) (hs : a.eval s = v) (hx : a.eval x = .slice (some ⟨W.heap.size, 0, none⟩) 1 1)
    (hown : W.ownsRow base e 1 v n xs)
    (h63 : n + 1 ≤ maxLen) (hbytes : (n + 1) * bytes ≤ 140737488355328) (hbase : base ≤ W.heap.size)
    (h : ∀ v' w', w'.ownsRow base e 1 v' (n + 1) (xs ++ [u]) → W.grownBy w' v.ownBlock → (v'.ownBlock = v.ownBlock ∨ ∃ k, v'.ownBlock = some k ∧ W.heap.size ≤ k) → wpList P ops Q rest (a.put o.dst v') w') : wpList P ops Q (o :: rest) a w := by
  subst hw
  obtain ⟨i0, hi, hz0, hz1, hz2⟩ := info_parts hinfo
  obtain ⟨v', w', hrun, r1, r2, r3⟩ := run_append_where (P := P) (W.alloc (.cells #[u] e)) base t o.type e i0 z 1 bytes ht hi hz0 hz1 hz2 hzs (by decide) v n xs (hown.alloc _) ⟨W.heap.size, 0, none⟩ 1 1 [u] rfl (by
    intro j y hj
    match j, hj with
    | 0, hj => simp at hj; subst hj; simp [Addr.add, World.cell?_alloc_new]) (by intro y hy; simp at hy; subst hy; exact hu) (by decide) h63 hbytes (by simp; omega)
  refine wpList_plain hgd fun K' hK' => ?_
  unfold Oper.wp
  simp [execOp, ho, resolve, invoke, builtin, hs, hx, hrun, Result.andThen]
  refine hK' _ _ (h v' w' r1 ?_ ?_)
  · exact ⟨r2.os, r2.tape, r2.output, Nat.le_trans (by simp) r2.size, fun k hk hne => (r2.block k (by simp; omega) hne).trans (heap_alloc_old W _ hk)⟩
  · rcases r3 with r3 | ⟨k, r3, r4⟩
    · exact .inl r3
    · exact .inr ⟨k, r3, by simp at r4; omega⟩
end
end Go.Proofs.YtcjfgbcdlcdeaaaDoor
/- Append of one element of several cells to a row of the call's own: as one operation, and where the row lies then. -/
namespace Go.Proofs.YtcjfgbcdlcdeaaaDoor
open Go.RowKit
set_option linter.unusedVariables false

section
variable {P : Program}
theorem wp_appKW (W : World) {o : Oper} {a : Act} {K : Act → World → Prop} {Q : Exit → Act → World → Prop} (s x : Operand) (t : TypeId)
    (ho : o.op = .call { callee := .builtin .append, args := #[s, x], argTypes := #[t, t] })
    (base : Nat) (e : TypeId) (z : Value) (k bytes : Nat) (ht : P.underlying t = some (.slice e)) (hinfo : (P.info? e).map (fun i => (i.zero, i.size, i.bytes)) = some (some z, k, bytes))
    (hzs : z.cells.size = k) (hk : 0 < k) (us : List Value) (hul : us.length = k) (hu : ∀ u ∈ us, u.oneCell' = true) (v : Value) (n : Nat) (xs : List Value) (hs : a.eval s = v) (hx : a.eval x = .slice (some ⟨W.heap.size, 0, none⟩) 1 1)
    (hown : W.ownsRow base e k v n xs) (h63 : n + 1 ≤ maxLen) (hbytes : (n + 1) * bytes ≤ 140737488355328) (hbase : base ≤ W.heap.size)
    (h : ∀ v' w', w'.ownsRow base e k v' (n + 1) (xs ++ us) → W.grownBy w' v.ownBlock → (v'.ownBlock = v.ownBlock ∨ ∃ k, v'.ownBlock = some k ∧ W.heap.size ≤ k) → K (a.put o.dst v') w') : Oper.wp P o a (W.alloc (.cells us.toArray e)) K Q := by
  obtain ⟨i0, hi, hz0, hz1, hz2⟩ := info_parts hinfo
  obtain ⟨v', w', hrun, r1, r2, r3⟩ := run_append_where (P := P) (W.alloc (.cells us.toArray e)) base t o.type e i0 z k bytes ht hi hz0 hz1 hz2 hzs hk v n xs (hown.alloc _) ⟨W.heap.size, 0, none⟩ 1 1 us (by omega) (by
    intro j y hj
    have e1 : (⟨W.heap.size, 0, none⟩ : Addr).add j = ⟨W.heap.size, j, none⟩ := by unfold Addr.add; split <;> simp_all
    rw [e1, World.cell?_alloc_new]
    simpa using hj) hu (by decide) h63 hbytes (by simp; omega)
  unfold Oper.wp
  simp [execOp, ho, resolve, invoke, builtin, hs, hx, hrun, Result.andThen]
  refine h v' w' r1 ?_ ?_
  · exact ⟨r2.os, r2.tape, r2.output, Nat.le_trans (by simp) r2.size, fun k hk hne => (r2.block k (by simp; omega) hne).trans (heap_alloc_old W _ hk)⟩
  · rcases r3 with r3 | ⟨k, r3, r4⟩
    · exact .inl r3
    · exact .inr ⟨k, r3, by simp at r4; omega⟩
theorem wpList_appKW (W : World) {ops : Array Oper} {rest : List Oper} {o : Oper} {a : Act} {Q : Exit → Act → World → Prop} (hgd : o.guard = none) (s x : Operand) (t : TypeId)
    (ho : o.op = .call { callee := .builtin .append, args := #[s, x], argTypes := #[t, t] })
    (base : Nat) (e : TypeId) (z : Value) (k bytes : Nat) (ht : P.underlying t = some (.slice e)) (hinfo : (P.info? e).map (fun i => (i.zero, i.size, i.bytes)) = some (some z, k, bytes))
    (hzs : z.cells.size = k) (hk : 0 < k) (us : List Value) (hul : us.length = k) (hu : ∀ u ∈ us, u.oneCell' = true) (v : Value) (n : Nat) (xs : List Value) (hs : a.eval s = v) (hx : a.eval x = .slice (some ⟨W.heap.size, 0, none⟩) 1 1)
    (hown : W.ownsRow base e k v n xs) (h63 : n + 1 ≤ maxLen) (hbytes : (n + 1) * bytes ≤ 140737488355328) (hbase : base ≤ W.heap.size)
    (h : ∀ v' w', w'.ownsRow base e k v' (n + 1) (xs ++ us) → W.grownBy w' v.ownBlock → (v'.ownBlock = v.ownBlock ∨ ∃ k, v'.ownBlock = some k ∧ W.heap.size ≤ k) → wpList P ops Q rest (a.put o.dst v') w') : wpList P ops Q (o :: rest) a (W.alloc (.cells us.toArray e)) :=
  wpList_plain hgd fun K' hK' => wp_appKW W s x t ho base e z k bytes ht hinfo hzs hk us hul hu v n xs hs hx hown h63 hbytes hbase fun v' w' h1 h2 h3 => hK' _ _ (h v' w' h1 h2 h3)
end
end Go.Proofs.YtcjfgbcdlcdeaaaDoor
/- A map of the call's own, told as a function from keys to values: made, stored into, looked up. Conditions: as each theorem names them. -/
namespace Go.Proofs.YtcjfgbcdlcdeaaaDoor
open Go.RowKit
open Go.Maps (Keyed)
set_option linter.unusedVariables false

/-- How an element reads: as itself. -/
def selfElem (v : Value) : Option (DataW Value × List MemPlace) := some (.held v, [])
/-- Block b is a map of at most n entries; the key kl gives F kl (z where it is not there). -/
def FMap (P : Program) (k : TypeId) (z : Value) (w : World) (b n : Nat) (F : Lit → Value) : Prop :=
  ∃ D : DataW Value, w.ownsMap P k selfElem b n D ∧ Go.Maps.IsMap D ∧ ∀ l, WideAt.IsKeyLit l → D.atKey l (.held z) = .held (F l)

section
variable {P : Program} {k : TypeId} {z : Value} {w w' : World} {b n : Nat} {F : Lit → Value}
theorem FMap.made (w : World) (P : Program) (k : TypeId) (z : Value) : FMap P k z (w.alloc (.map #[] 0)) w.heap.size 0 (fun _ => z) :=
  ⟨.map [], World.ownsMap_made w P k selfElem, Go.Maps.isMap_empty, fun l _ => rfl⟩
theorem FMap.lt (h : FMap P k z w b n F) : b < w.heap.size := by
  obtain ⟨D, h1, _⟩ := h
  exact h1.lt
theorem FMap.kept {row : Option Nat} (h : FMap P k z w b n F) (hg : w.grownBy w' row) (hne : some b ≠ row) : FMap P k z w' b n F := by
  obtain ⟨D, h1, h2⟩ := h
  exact ⟨D, h1.kept hg hne, h2⟩
theorem FMap.below (h : FMap P k z w b n F) (hb : Below w.heap.size w w') : FMap P k z w' b n F :=
  h.kept (row := none) ⟨hb.os, hb.tape, hb.output, hb.size, fun k hk _ => hb.block k hk⟩ (by simp)
theorem FMap.belowAt {B : Nat} (h : FMap P k z w b n F) (hlt : b < B) (hb : Below B w w') : FMap P k z w' b n F := by
  obtain ⟨D, ⟨es, clock, h1, h2, h3, h4⟩, h5⟩ := h
  exact ⟨D, ⟨es, clock, (hb.block b hlt).trans h1, h2, h3, h4⟩, h5⟩
theorem FMap.alloc (h : FMap P k z w b n F) (o : Obj) : FMap P k z (w.alloc o) b n F := h.below ((Below.refl _ _).alloc (Nat.le_refl _) o)
theorem FMap.drew (h : FMap P k z w b n F) : FMap P k z w.drew b n F := h
theorem FMap.mono (h : FMap P k z w b n F) {n' : Nat} (hn : n ≤ n') : FMap P k z w b n' F := by
  obtain ⟨D, h1, h2⟩ := h
  exact ⟨D, h1.mono hn, h2⟩
theorem FMap.of_eq {G : Lit → Value} (h : FMap P k z w b n F) (e : ∀ l, WideAt.IsKeyLit l → F l = G l) : FMap P k z w b n G := by
  obtain ⟨D, h1, h2, h3⟩ := h
  exact ⟨D, h1, h2, fun l hl => by rw [h3 l hl, e l hl]⟩
/-- 'm[k]'. -/
theorem FMap.lookup {t e : TypeId} (h : FMap P k z w b n F) (K : Keyed P k) (ht : P.underlying t = some (.map k e)) (hz : (zeroValue e).run P w = .ok z w) {key : Value} {kl : Lit} (hkey : keyOf P k key = some kl) :
    (Instr.lookup t (.map (some b)) key false).run P w = .ok (F kl) w := by
  obtain ⟨D, h1, h2, h3⟩ := h
  obtain ⟨v, ps, hrun, hv⟩ := h1.lookup K ht hz (show selfElem z = some (.held z, []) from rfl) hkey
  rw [h3 kl (K.key hkey)] at hv
  simp only [selfElem, Option.some.injEq, Prod.mk.injEq, DataW.held.injEq] at hv
  rw [hrun, hv.1]
theorem wpList_lookup_F {ops : Array Oper} {rest : List Oper} {o : Oper} {a : Act} {Q : Exit → Act → World → Prop}
    (hg : o.guard = none) (m x : Operand) (t : TypeId) (hop : o.op = Op.lookup t m x false) (e : TypeId) (K : Keyed P k) (ht : P.underlying t = some (.map k e)) (hz : (zeroValue e).run P w = .ok z w)
    (hm : a.eval m = .map (some b)) (hown : FMap P k z w b n F) (key : Value) (kl : Lit) (hx : a.eval x = key) (hkey : keyOf P k key = some kl)
    (hK : wpList P ops Q rest (a.put o.dst (F kl)) w) : wpList P ops Q (o :: rest) a w := by
  refine wpList_plain hg fun K' hK' => ?_
  have hrun := hown.lookup K ht hz hkey
  unfold Oper.wp
  simp [execOp, hop, hm, hx, hrun, Result.andThen]
  exact hK' _ _ hK
/-- 'm[k] = v'. -/
theorem FMap.store {t e : TypeId} (h : FMap P k z w b n F) (K : Keyed P k) (ht : P.underlying t = some (.map k e)) (hn : n < maxLen) {key : Value} (val : Value) {kl : Lit} (hkey : keyOf P k key = some kl) :
    ∃ w', (Instr.mapUpdate t (.map (some b)) key val).run P w = .ok () w' ∧ FMap P k z w' b (n + 1) (fun l => if l.sameKey kl = true then val else F l) ∧ w.grownBy w' (some b) := by
  obtain ⟨D, h1, h2, h3⟩ := h
  obtain ⟨w', hrun, r1, r2⟩ := h1.update K ht hn hkey (show selfElem val = some (.held val, []) from rfl)
  refine ⟨w', hrun, ⟨_, r1, h2.put _ _, fun l hl => ?_⟩, r2⟩
  by_cases e : l = kl
  · subst e
    rw [Go.Maps.atKey_put_same h2 hl]; simp [WideAt.sameKey_self hl]
  · rw [Go.Maps.atKey_put_other e, h3 l hl]; simp [show l.sameKey kl = false from Go.Maps.sameKey_ne e]
theorem wpList_mapUpdate_F {ops : Array Oper} {rest : List Oper} {o : Oper} {a : Act} {Q : Exit → Act → World → Prop}
    (hg : o.guard = none) (m x v : Operand) (t : TypeId) (hop : o.op = Op.mapUpdate t m x v) (e : TypeId) (K : Keyed P k) (ht : P.underlying t = some (.map k e))
    (hm : a.eval m = .map (some b)) (hown : FMap P k z w b n F) (hn : n < maxLen) (key val : Value) (kl : Lit) (hx : a.eval x = key) (hv : a.eval v = val) (hkey : keyOf P k key = some kl)
    (hK : ∀ w', FMap P k z w' b (n + 1) (fun l => if l.sameKey kl = true then val else F l) → w.grownBy w' (some b) → wpList P ops Q rest (a.put o.dst undef) w') :
    wpList P ops Q (o :: rest) a w := by
  refine wpList_plain hg fun K' hK' => ?_
  obtain ⟨w', hrun, r1, r2⟩ := hown.store K ht hn val hkey
  unfold Oper.wp
  simp [execOp, hop, hm, hx, hv, hrun, Result.andThen]
  exact hK' _ _ (hK w' r1 r2)
end
end Go.Proofs.YtcjfgbcdlcdeaaaDoor
/- The closures of library functions of this dump, as the shelf's own tool lays them in plain text. Conditions: none. -/
namespace Go.Proofs
open Go.Shelf
def Tryd.lays160_ren : Go.Shelf.Ren := ⟨fun | 160 => 67 | 232 => 79 | 231 => 61 | 227 => 62 | 234 => 80 | 233 => 63 | 236 => 81 | 235 => 64 | 228 => 76 | 271 => 94 | 151 => 78 | 197 => 77 | 120 => 101 | 152 => 93 | 260 => 92 | 137 => 99 | 119 => 100 | 224 => 87 | 225 => 86 | 217 => 85 | 266 => 95 | n => n, fun | 9 => 9 | 4 => 4 | 3 => 3 | 5 => 5 | 117 => 123 | 116 => 122 | 0 => 0 | 124 => 126 | 21 => 21 | 105 => 131 | 46 => 136 | 119 => 143 | 139 => 146 | 138 => 145 | n => n, fun | 3 => 1 | 4 => 2 | n => n⟩
theorem Tryd.lays160 : Go.Proofs.Lays.n160 Tryd.prog Tryd.lays160_ren := {
  mixed := by kernel_rfl
  f119 := Tryd.func100.trans (congrArg some (by kernel_rfl))
  f120 := Tryd.func101.trans (congrArg some (by kernel_rfl))
  f137 := Tryd.func99.trans (congrArg some (by kernel_rfl))
  f151 := Tryd.func78.trans (congrArg some (by kernel_rfl))
  f152 := Tryd.func93.trans (congrArg some (by kernel_rfl))
  f160 := Tryd.func67.trans (congrArg some (by kernel_rfl))
  f197 := Tryd.func77.trans (congrArg some (by kernel_rfl))
  f217 := Tryd.func85.trans (congrArg some (by kernel_rfl))
  f224 := Tryd.func87.trans (congrArg some (by kernel_rfl))
  f225 := Tryd.func86.trans (congrArg some (by kernel_rfl))
  f227 := Tryd.func62.trans (congrArg some (by kernel_rfl))
  f228 := Tryd.func76.trans (congrArg some (by kernel_rfl))
  f231 := Tryd.func61.trans (congrArg some (by kernel_rfl))
  f232 := Tryd.func79.trans (congrArg some (by kernel_rfl))
  f233 := Tryd.func63.trans (congrArg some (by kernel_rfl))
  f234 := Tryd.func80.trans (congrArg some (by kernel_rfl))
  f235 := Tryd.func64.trans (congrArg some (by kernel_rfl))
  f236 := Tryd.func81.trans (congrArg some (by kernel_rfl))
  f260 := Tryd.func92.trans (congrArg some (by kernel_rfl))
  f266 := Tryd.func95.trans (congrArg some (by kernel_rfl))
  f271 := Tryd.func94.trans (congrArg some (by kernel_rfl))
  t0 := Tryd.underlying0
  a0 := Tryd.isAgg0
  z0 := Tryd.sizeOf0
  v0 := Tryd.zeroValue0
  t3 := Tryd.underlying3
  a3 := Tryd.isAgg3
  z3 := Tryd.sizeOf3
  v3 := Tryd.zeroValue3
  t4 := Tryd.underlying4
  a4 := Tryd.isAgg4
  z4 := Tryd.sizeOf4
  v4 := Tryd.zeroValue4
  t5 := Tryd.underlying5
  a5 := Tryd.isAgg5
  z5 := Tryd.sizeOf5
  v5 := Tryd.zeroValue5
  t9 := Tryd.underlying9
  a9 := Tryd.isAgg9
  z9 := Tryd.sizeOf9
  v9 := Tryd.zeroValue9
  t21 := Tryd.underlying21
  a21 := Tryd.isAgg21
  z21 := Tryd.sizeOf21
  v21 := Tryd.zeroValue21
  t46 := Tryd.underlying136
  a46 := Tryd.isAgg136
  z46 := Tryd.sizeOf136
  v46 := Tryd.zeroValue136
  t105 := Tryd.underlying131
  a105 := Tryd.isAgg131
  z105 := Tryd.sizeOf131
  v105 := Tryd.zeroValue131
  t116 := Tryd.underlying122
  a116 := Tryd.isAgg122
  z116 := Tryd.sizeOf122
  t117 := Tryd.underlying123
  a117 := Tryd.isAgg123
  z117 := Tryd.sizeOf123
  v117 := Tryd.zeroValue123
  t119 := Tryd.underlying143
  a119 := Tryd.isAgg143
  z119 := Tryd.sizeOf143
  t124 := Tryd.underlying126
  a124 := Tryd.isAgg126
  z124 := Tryd.sizeOf126
  v124 := Tryd.zeroValue126
  t138 := Tryd.underlying145
  a138 := Tryd.isAgg145
  z138 := Tryd.sizeOf145
  v138 := Tryd.zeroValue145
  t139 := Tryd.underlying146
  a139 := Tryd.isAgg146
  z139 := Tryd.sizeOf146
  v139 := Tryd.zeroValue146
  g3 := by kernel_rfl
  g4 := by kernel_rfl }
def Tryd.lays161_ren : Go.Shelf.Ren := ⟨fun | 161 => 46 | 231 => 61 | 227 => 62 | 233 => 63 | 235 => 64 | 228 => 76 | 197 => 77 | 151 => 78 | 260 => 92 | 152 => 93 | 137 => 99 | 119 => 100 | 224 => 87 | 225 => 86 | 217 => 85 | 266 => 95 | n => n, fun | 9 => 9 | 4 => 4 | 3 => 3 | 5 => 5 | 117 => 123 | 116 => 122 | 0 => 0 | 124 => 126 | 105 => 131 | 21 => 21 | 119 => 143 | 46 => 136 | 139 => 146 | 138 => 145 | n => n, fun | 3 => 1 | 4 => 2 | n => n⟩
theorem Tryd.lays161 : Go.Proofs.Lays.n161 Tryd.prog Tryd.lays161_ren := {
  mixed := by kernel_rfl
  f119 := Tryd.func100.trans (congrArg some (by kernel_rfl))
  f137 := Tryd.func99.trans (congrArg some (by kernel_rfl))
  f151 := Tryd.func78.trans (congrArg some (by kernel_rfl))
  f152 := Tryd.func93.trans (congrArg some (by kernel_rfl))
  f161 := Tryd.func46.trans (congrArg some (by kernel_rfl))
  f197 := Tryd.func77.trans (congrArg some (by kernel_rfl))
  f217 := Tryd.func85.trans (congrArg some (by kernel_rfl))
  f224 := Tryd.func87.trans (congrArg some (by kernel_rfl))
  f225 := Tryd.func86.trans (congrArg some (by kernel_rfl))
  f227 := Tryd.func62.trans (congrArg some (by kernel_rfl))
  f228 := Tryd.func76.trans (congrArg some (by kernel_rfl))
  f231 := Tryd.func61.trans (congrArg some (by kernel_rfl))
  f233 := Tryd.func63.trans (congrArg some (by kernel_rfl))
  f235 := Tryd.func64.trans (congrArg some (by kernel_rfl))
  f260 := Tryd.func92.trans (congrArg some (by kernel_rfl))
  f266 := Tryd.func95.trans (congrArg some (by kernel_rfl))
  t0 := Tryd.underlying0
  a0 := Tryd.isAgg0
  z0 := Tryd.sizeOf0
  v0 := Tryd.zeroValue0
  t3 := Tryd.underlying3
  a3 := Tryd.isAgg3
  z3 := Tryd.sizeOf3
  v3 := Tryd.zeroValue3
  t4 := Tryd.underlying4
  a4 := Tryd.isAgg4
  z4 := Tryd.sizeOf4
  v4 := Tryd.zeroValue4
  t5 := Tryd.underlying5
  a5 := Tryd.isAgg5
  z5 := Tryd.sizeOf5
  v5 := Tryd.zeroValue5
  t9 := Tryd.underlying9
  a9 := Tryd.isAgg9
  z9 := Tryd.sizeOf9
  v9 := Tryd.zeroValue9
  t21 := Tryd.underlying21
  a21 := Tryd.isAgg21
  z21 := Tryd.sizeOf21
  v21 := Tryd.zeroValue21
  t46 := Tryd.underlying136
  a46 := Tryd.isAgg136
  z46 := Tryd.sizeOf136
  v46 := Tryd.zeroValue136
  t105 := Tryd.underlying131
  a105 := Tryd.isAgg131
  z105 := Tryd.sizeOf131
  v105 := Tryd.zeroValue131
  t116 := Tryd.underlying122
  a116 := Tryd.isAgg122
  z116 := Tryd.sizeOf122
  t117 := Tryd.underlying123
  a117 := Tryd.isAgg123
  z117 := Tryd.sizeOf123
  v117 := Tryd.zeroValue123
  t119 := Tryd.underlying143
  a119 := Tryd.isAgg143
  z119 := Tryd.sizeOf143
  t124 := Tryd.underlying126
  a124 := Tryd.isAgg126
  z124 := Tryd.sizeOf126
  v124 := Tryd.zeroValue126
  t138 := Tryd.underlying145
  a138 := Tryd.isAgg145
  z138 := Tryd.sizeOf145
  v138 := Tryd.zeroValue145
  t139 := Tryd.underlying146
  a139 := Tryd.isAgg146
  z139 := Tryd.sizeOf146
  v139 := Tryd.zeroValue146
  g3 := by kernel_rfl
  g4 := by kernel_rfl }
def Tryd.lays99_ren : Go.Shelf.Ren := ⟨fun | 99 => 47 | 206 => 65 | n => n, fun | 9 => 9 | 4 => 4 | 3 => 3 | n => n, fun | n => n⟩
theorem Tryd.lays99 : Go.Proofs.Lays.n99 Tryd.prog Tryd.lays99_ren := {
  mixed := by kernel_rfl
  f99 := Tryd.func47.trans (congrArg some (by kernel_rfl))
  f206 := Tryd.func65.trans (congrArg some (by kernel_rfl))
  t3 := Tryd.underlying3
  a3 := Tryd.isAgg3
  z3 := Tryd.sizeOf3
  v3 := Tryd.zeroValue3
  t4 := Tryd.underlying4
  a4 := Tryd.isAgg4
  z4 := Tryd.sizeOf4
  v4 := Tryd.zeroValue4
  t9 := Tryd.underlying9
  a9 := Tryd.isAgg9
  z9 := Tryd.sizeOf9
  v9 := Tryd.zeroValue9 }
def Tryd.lays100_ren : Go.Shelf.Ren := ⟨fun | 100 => 48 | 207 => 66 | n => n, fun | 9 => 9 | 4 => 4 | 3 => 3 | n => n, fun | n => n⟩
theorem Tryd.lays100 : Go.Proofs.Lays.n100 Tryd.prog Tryd.lays100_ren := {
  mixed := by kernel_rfl
  f100 := Tryd.func48.trans (congrArg some (by kernel_rfl))
  f207 := Tryd.func66.trans (congrArg some (by kernel_rfl))
  t3 := Tryd.underlying3
  a3 := Tryd.isAgg3
  z3 := Tryd.sizeOf3
  v3 := Tryd.zeroValue3
  t4 := Tryd.underlying4
  a4 := Tryd.isAgg4
  z4 := Tryd.sizeOf4
  v4 := Tryd.zeroValue4
  t9 := Tryd.underlying9
  a9 := Tryd.isAgg9
  z9 := Tryd.sizeOf9
  v9 := Tryd.zeroValue9 }
def Tryd.lays143_ren : Go.Shelf.Ren := ⟨fun | 143 => 72 | 219 => 71 | 217 => 85 | 225 => 86 | 224 => 87 | 267 => 88 | 266 => 95 | 314 => 96 | n => n, fun | 9 => 9 | 3 => 3 | 4 => 4 | 5 => 5 | 46 => 136 | 146 => 140 | 51 => 139 | n => n, fun | 1 => 0 | n => n⟩
theorem Tryd.lays143 : Go.Proofs.Lays.n143 Tryd.prog Tryd.lays143_ren := {
  mixed := by kernel_rfl
  f143 := Tryd.func72.trans (congrArg some (by kernel_rfl))
  f217 := Tryd.func85.trans (congrArg some (by kernel_rfl))
  f219 := Tryd.func71.trans (congrArg some (by kernel_rfl))
  f224 := Tryd.func87.trans (congrArg some (by kernel_rfl))
  f225 := Tryd.func86.trans (congrArg some (by kernel_rfl))
  f266 := Tryd.func95.trans (congrArg some (by kernel_rfl))
  f267 := Tryd.func88.trans (congrArg some (by kernel_rfl))
  f314 := Tryd.func96.trans (congrArg some (by kernel_rfl))
  t3 := Tryd.underlying3
  a3 := Tryd.isAgg3
  z3 := Tryd.sizeOf3
  v3 := Tryd.zeroValue3
  t4 := Tryd.underlying4
  a4 := Tryd.isAgg4
  z4 := Tryd.sizeOf4
  v4 := Tryd.zeroValue4
  t5 := Tryd.underlying5
  a5 := Tryd.isAgg5
  z5 := Tryd.sizeOf5
  v5 := Tryd.zeroValue5
  t9 := Tryd.underlying9
  a9 := Tryd.isAgg9
  z9 := Tryd.sizeOf9
  v9 := Tryd.zeroValue9
  t46 := Tryd.underlying136
  a46 := Tryd.isAgg136
  z46 := Tryd.sizeOf136
  v46 := Tryd.zeroValue136
  t51 := Tryd.underlying139
  a51 := Tryd.isAgg139
  z51 := Tryd.sizeOf139
  v51 := Tryd.zeroValue139
  t146 := Tryd.underlying140
  a146 := Tryd.isAgg140
  z146 := Tryd.sizeOf140
  v146 := Tryd.zeroValue140
  g1 := by kernel_rfl }
def Tryd.lays144_ren : Go.Shelf.Ren := ⟨fun | 144 => 58 | 143 => 72 | 219 => 71 | 217 => 85 | 225 => 86 | 224 => 87 | 267 => 88 | 266 => 95 | 314 => 96 | n => n, fun | 9 => 9 | 4 => 4 | 3 => 3 | 5 => 5 | 46 => 136 | 146 => 140 | 51 => 139 | n => n, fun | 1 => 0 | n => n⟩
theorem Tryd.lays144 : Go.Proofs.Lays.n144 Tryd.prog Tryd.lays144_ren := {
  mixed := by kernel_rfl
  f143 := Tryd.func72.trans (congrArg some (by kernel_rfl))
  f144 := Tryd.func58.trans (congrArg some (by kernel_rfl))
  f217 := Tryd.func85.trans (congrArg some (by kernel_rfl))
  f219 := Tryd.func71.trans (congrArg some (by kernel_rfl))
  f224 := Tryd.func87.trans (congrArg some (by kernel_rfl))
  f225 := Tryd.func86.trans (congrArg some (by kernel_rfl))
  f266 := Tryd.func95.trans (congrArg some (by kernel_rfl))
  f267 := Tryd.func88.trans (congrArg some (by kernel_rfl))
  f314 := Tryd.func96.trans (congrArg some (by kernel_rfl))
  t3 := Tryd.underlying3
  a3 := Tryd.isAgg3
  z3 := Tryd.sizeOf3
  v3 := Tryd.zeroValue3
  t4 := Tryd.underlying4
  a4 := Tryd.isAgg4
  z4 := Tryd.sizeOf4
  v4 := Tryd.zeroValue4
  t5 := Tryd.underlying5
  a5 := Tryd.isAgg5
  z5 := Tryd.sizeOf5
  v5 := Tryd.zeroValue5
  t9 := Tryd.underlying9
  a9 := Tryd.isAgg9
  z9 := Tryd.sizeOf9
  v9 := Tryd.zeroValue9
  t46 := Tryd.underlying136
  a46 := Tryd.isAgg136
  z46 := Tryd.sizeOf136
  v46 := Tryd.zeroValue136
  t51 := Tryd.underlying139
  a51 := Tryd.isAgg139
  z51 := Tryd.sizeOf139
  v51 := Tryd.zeroValue139
  t146 := Tryd.underlying140
  a146 := Tryd.isAgg140
  z146 := Tryd.sizeOf140
  v146 := Tryd.zeroValue140
  g1 := by kernel_rfl }
def Tryd.lays138_ren : Go.Shelf.Ren := ⟨fun | 138 => 90 | 195 => 97 | 218 => 98 | 143 => 72 | 219 => 71 | 217 => 85 | 225 => 86 | 224 => 87 | 267 => 88 | 266 => 95 | 314 => 96 | n => n, fun | 9 => 9 | 3 => 3 | 4 => 4 | 5 => 5 | 0 => 0 | 46 => 136 | 146 => 140 | 51 => 139 | n => n, fun | 1 => 0 | n => n⟩
theorem Tryd.lays138 : Go.Proofs.Lays.n138 Tryd.prog Tryd.lays138_ren := {
  mixed := by kernel_rfl
  f138 := Tryd.func90.trans (congrArg some (by kernel_rfl))
  f143 := Tryd.func72.trans (congrArg some (by kernel_rfl))
  f195 := Tryd.func97.trans (congrArg some (by kernel_rfl))
  f217 := Tryd.func85.trans (congrArg some (by kernel_rfl))
  f218 := Tryd.func98.trans (congrArg some (by kernel_rfl))
  f219 := Tryd.func71.trans (congrArg some (by kernel_rfl))
  f224 := Tryd.func87.trans (congrArg some (by kernel_rfl))
  f225 := Tryd.func86.trans (congrArg some (by kernel_rfl))
  f266 := Tryd.func95.trans (congrArg some (by kernel_rfl))
  f267 := Tryd.func88.trans (congrArg some (by kernel_rfl))
  f314 := Tryd.func96.trans (congrArg some (by kernel_rfl))
  t0 := Tryd.underlying0
  a0 := Tryd.isAgg0
  z0 := Tryd.sizeOf0
  v0 := Tryd.zeroValue0
  t3 := Tryd.underlying3
  a3 := Tryd.isAgg3
  z3 := Tryd.sizeOf3
  v3 := Tryd.zeroValue3
  t4 := Tryd.underlying4
  a4 := Tryd.isAgg4
  z4 := Tryd.sizeOf4
  v4 := Tryd.zeroValue4
  t5 := Tryd.underlying5
  a5 := Tryd.isAgg5
  z5 := Tryd.sizeOf5
  v5 := Tryd.zeroValue5
  t9 := Tryd.underlying9
  a9 := Tryd.isAgg9
  z9 := Tryd.sizeOf9
  v9 := Tryd.zeroValue9
  t46 := Tryd.underlying136
  a46 := Tryd.isAgg136
  z46 := Tryd.sizeOf136
  v46 := Tryd.zeroValue136
  t51 := Tryd.underlying139
  a51 := Tryd.isAgg139
  z51 := Tryd.sizeOf139
  v51 := Tryd.zeroValue139
  t146 := Tryd.underlying140
  a146 := Tryd.isAgg140
  z146 := Tryd.sizeOf140
  v146 := Tryd.zeroValue140
  g1 := by kernel_rfl }
def Tryd.lays219_ren : Go.Shelf.Ren := ⟨fun | 219 => 71 | 217 => 85 | 225 => 86 | 224 => 87 | 267 => 88 | 266 => 95 | 314 => 96 | n => n, fun | 9 => 9 | 3 => 3 | 4 => 4 | 5 => 5 | 46 => 136 | 146 => 140 | 51 => 139 | n => n, fun | 1 => 0 | n => n⟩
theorem Tryd.lays219 : Go.Proofs.Lays.n219 Tryd.prog Tryd.lays219_ren := {
  mixed := by kernel_rfl
  f217 := Tryd.func85.trans (congrArg some (by kernel_rfl))
  f219 := Tryd.func71.trans (congrArg some (by kernel_rfl))
  f224 := Tryd.func87.trans (congrArg some (by kernel_rfl))
  f225 := Tryd.func86.trans (congrArg some (by kernel_rfl))
  f266 := Tryd.func95.trans (congrArg some (by kernel_rfl))
  f267 := Tryd.func88.trans (congrArg some (by kernel_rfl))
  f314 := Tryd.func96.trans (congrArg some (by kernel_rfl))
  t3 := Tryd.underlying3
  a3 := Tryd.isAgg3
  z3 := Tryd.sizeOf3
  v3 := Tryd.zeroValue3
  t4 := Tryd.underlying4
  a4 := Tryd.isAgg4
  z4 := Tryd.sizeOf4
  v4 := Tryd.zeroValue4
  t5 := Tryd.underlying5
  a5 := Tryd.isAgg5
  z5 := Tryd.sizeOf5
  v5 := Tryd.zeroValue5
  t9 := Tryd.underlying9
  a9 := Tryd.isAgg9
  z9 := Tryd.sizeOf9
  v9 := Tryd.zeroValue9
  t46 := Tryd.underlying136
  a46 := Tryd.isAgg136
  z46 := Tryd.sizeOf136
  v46 := Tryd.zeroValue136
  t51 := Tryd.underlying139
  a51 := Tryd.isAgg139
  z51 := Tryd.sizeOf139
  v51 := Tryd.zeroValue139
  t146 := Tryd.underlying140
  a146 := Tryd.isAgg140
  z146 := Tryd.sizeOf140
  v146 := Tryd.zeroValue140
  g1 := by kernel_rfl }
end Go.Proofs
/- Functions of package strings, at texts as lists: Trim, TrimLeft, HasPrefix, HasSuffix, Contains, Cut, Split at one byte. -/
namespace Go.Proofs.YtcjfgbcdlcdeaaaDoor
open Go.RowKit
set_option maxRecDepth 100000
set_option linter.unusedVariables false
attribute [local go_sem] ba_get ba_toList ba_extract take_drop_all ByteArray.mk_append_mk

theorem TrimLeft_any (s cs : List UInt8) (w : World) (hcs : cs.length < 4294967281) (ha : ∀ b ∈ cs, b.toNat < 128) :
    Calls Tryd.prog 46 #[.string ⟨s.toArray⟩, .string ⟨cs.toArray⟩] w fun e w' => e = .returned (.string ⟨(s.dropWhile (cs.contains ·)).toArray⟩) ∧ Below w.heap.size w w' :=
  Any.strings_TrimLeft_laid Tryd.lays161 (by kernel_rfl) ⟨s.toArray⟩ ⟨cs.toArray⟩ w hcs (fun j b h => ha b (List.mem_of_getElem? h))

theorem dropWhile_nil_iff {p : UInt8 → Bool} : ∀ {l : List UInt8}, l.dropWhile p = [] ↔ l.all p = true
  | [] => by simp
  | x :: l => by
    have ih := dropWhile_nil_iff (p := p) (l := l)
    by_cases h : p x = true
    · simp only [List.dropWhile_cons, h, if_true, List.all_cons, Bool.true_and]; exact ih
    · simp [h]
/-- 'strings.Trim(s, cs) == ""'. -/
theorem trimS_nil {l cs : List UInt8} : Lib.trimS l cs = [] ↔ l.all (cs.contains ·) = true := by
  unfold Lib.trimS Lib.trimLeftS Lib.trimRightS
  rw [dropWhile_nil_iff]
  have hsp : l.reverse.takeWhile (cs.contains ·) ++ l.reverse.dropWhile (cs.contains ·) = l.reverse := List.takeWhile_append_dropWhile
  have htk := takeWhile_all (p := fun x => cs.contains x) l.reverse
  constructor
  · intro h
    rw [List.all_eq_true] at h htk ⊢
    intro x hx
    have hx' : x ∈ l.reverse := List.mem_reverse.2 hx
    rw [← hsp] at hx'
    rcases List.mem_append.1 hx' with hx' | hx'
    · exact htk x hx'
    · exact h x (List.mem_reverse.2 hx')
  · intro h
    rw [List.all_eq_true] at h ⊢
    intro x hx
    have hx' := List.mem_reverse.1 hx
    exact h x (List.mem_reverse.1 (by rw [← hsp]; exact List.mem_append_right _ hx'))
theorem Trim_any (s cs : List UInt8) (w : World) (hs : s.length ≤ 9223372036854775807) (hcs : cs.length < 4294967281) (ha : ∀ b ∈ cs, b.toNat < 128) :
    Calls Tryd.prog 67 #[.string ⟨s.toArray⟩, .string ⟨cs.toArray⟩] w fun e w' => (∃ r : List UInt8, e = .returned (.string ⟨r.toArray⟩) ∧ (r = [] ↔ s.all (cs.contains ·) = true)) ∧ Below w.heap.size w w' :=
  (Any.strings_Trim_laid Tryd.lays160 (by kernel_rfl) ⟨s.toArray⟩ ⟨cs.toArray⟩ w hs hcs (fun j b h => ha b (List.mem_of_getElem? h))).mono fun e w' ⟨h1, h2⟩ => ⟨⟨_, h1, trimS_nil⟩, h2⟩

theorem hasPrefix_eq (s p : List UInt8) : Lib.hasPrefix s p = p.isPrefixOf s := by
  unfold Lib.hasPrefix
  first | rfl | simp
theorem HasPrefix_any (s p : List UInt8) (w : World) :
    Calls Tryd.prog 47 #[.string ⟨s.toArray⟩, .string ⟨p.toArray⟩] w fun e w' => e = .returned (.bool (p.isPrefixOf s)) ∧ w = w' :=
  (Any.strings_HasPrefix Tryd.lays99 ⟨s.toArray⟩ ⟨p.toArray⟩ w).mono fun e w' ⟨h1, h2⟩ => ⟨by rw [h1, hasPrefix_eq], h2.symm⟩
theorem HasSuffix_any (s p : List UInt8) (w : World) (hs : s.length ≤ 9223372036854775807) :
    Calls Tryd.prog 48 #[.string ⟨s.toArray⟩, .string ⟨p.toArray⟩] w fun e w' => e = .returned (.bool (Lib.hasSuffix s p)) ∧ w = w' :=
  (Any.strings_HasSuffix Tryd.lays100 ⟨s.toArray⟩ ⟨p.toArray⟩ w hs).mono fun e w' ⟨h1, h2⟩ => ⟨h1, h2.symm⟩

/-! ### the first place of a byte -/
theorem indexByte_cases (s : List UInt8) (c : UInt8) : (c ∉ s ∧ Lib.indexByte s c = -1) ∨ ∃ p t, s = p ++ c :: t ∧ c ∉ p ∧ Lib.indexByte s c = (p.length : Int) := by
  induction s with
  | nil => exact .inl ⟨by simp, rfl⟩
  | cons x s ih =>
    by_cases hx : x = c
    · exact .inr ⟨[], s, by simp [hx], by simp, by simp [Lib.indexByte, hx]⟩
    · have hb : (x == c) = false := by simpa using hx
      rcases ih with ⟨hn, e⟩ | ⟨p, t, es, hp, e⟩
      · exact .inl ⟨by simp; exact ⟨fun h => hx h.symm, hn⟩, by simp [Lib.indexByte, hb, e]⟩
      · refine .inr ⟨x :: p, t, by simp [es], by simp; exact ⟨fun h => hx h.symm, hp⟩, ?_⟩
        have : ¬ (p.length : Int) = -1 := by omega
        simp [Lib.indexByte, hb, e, this]
theorem Index_one (s : List UInt8) (c : UInt8) (w : World) :
    Calls Tryd.prog 72 #[.string ⟨s.toArray⟩, .string ⟨#[c]⟩] w fun e w' => e = .returned (.int .i64 (Lib.indexByte s c)) ∧ w = w' :=
  (Any.strings_Index_one Tryd.lays143 ⟨s.toArray⟩ c w).mono fun e w' ⟨h1, h2⟩ => ⟨h1, h2.symm⟩
theorem Index_lite (s : List UInt8) (c : UInt8) (w : World) :
    Calls Tryd.prog 71 #[.string ⟨s.toArray⟩, .string ⟨#[c]⟩] w fun e w' => e = .returned (.int .i64 (Lib.indexByte s c)) ∧ w = w' :=
  (Any.stringslite_Index_one Tryd.lays219 ⟨s.toArray⟩ c w).mono fun e w' ⟨h1, h2⟩ => ⟨h1, h2.symm⟩
theorem Count_one (s : List UInt8) (c : UInt8) (w : World) :
    Calls Tryd.prog 90 #[.string ⟨s.toArray⟩, .string ⟨#[c]⟩] w fun e w' => e = .returned (.int .i64 ((s.count c : Nat) : Int)) ∧ w = w' :=
  (Any.strings_Count_one Tryd.lays138 ⟨s.toArray⟩ c w).mono fun e w' ⟨h1, h2⟩ => ⟨h1, h2.symm⟩
/-- 'strings.Contains(s, "c")'. -/
theorem Contains_any (s : List UInt8) (c : UInt8) (w : World) :
    Calls Tryd.prog 58 #[.string ⟨s.toArray⟩, .string ⟨#[c]⟩] w fun e w' => e = .returned (.bool (decide (c ∈ s))) ∧ w = w' :=
  (Any.strings_Contains_one Tryd.lays144 ⟨s.toArray⟩ c w).mono fun e w' ⟨h1, h2⟩ => ⟨by
    rw [h1]
    refine ret1 (vbool ?_)
    show decide (0 ≤ Lib.indexByte s c) = _
    rw [decide_eq_decide]
    rcases indexByte_cases s c with ⟨hn, e⟩ | ⟨p, t, es, hp, e⟩
    · rw [e]; exact ⟨fun h => by omega, fun h => absurd h hn⟩
    · rw [e]; exact ⟨fun _ => by rw [es]; simp, fun _ => by omega⟩, h2.symm⟩

/-! ### Cut -/
def cutV (r : List UInt8 × List UInt8 × Bool) : Value := .tuple #[.string ⟨r.1.toArray⟩, .string ⟨r.2.1.toArray⟩, .bool r.2.2]

set_option maxHeartbeats 1000000 in
theorem Cut_lite (s : List UInt8) (c : UInt8) (w : World) (hs : s.length ≤ 4294967280) :
    Calls Tryd.prog 57 #[.string ⟨s.toArray⟩, .string ⟨#[c]⟩] w fun e w' => e = .returned (cutV (cutL c s)) ∧ ∃ k, w' = w.drewN k := by
  rcases indexByte_cases s c with ⟨hn, e⟩ | ⟨p, t, es, hp, e⟩
  · have Hc := Lib.hid (cutL_no hn)
    have Hi := Lib.hid (fun W => Index_lite s c W)
    rw [e] at Hi
    clear hn e
    go_enter Tryd.func57, Tryd.ntmps57
    go_wp2_with fail
    refine (Hi.out _).mono ?_
    rintro e w' ⟨rfl, rfl⟩
    go_wp2_with fail
    go_ret3
    exact ⟨by rw [Hc.out]; rfl, 0, rfl⟩
  · have Hc := Lib.hid (show cutL c s = (p, t, true) by rw [es]; exact cutL_app hp)
    have Hi := Lib.hid (fun W => Index_lite s c W)
    rw [e] at Hi
    have hl : s.length = p.length + 1 + t.length := by rw [es]; simp; omega
    have h1 : s.take p.length = p := by rw [es]; simp
    have h2 : s.drop (p.length + 1) = t := by
      rw [es, show p ++ c :: t = (p ++ [c]) ++ t by simp]
      exact List.drop_left' (by simp)
    have k1 : IntKind.i64.wrap ((p.length : Int) + 1) = (p.length : Int) + 1 := IntWalk.i64_in _ (by omega)
    have k2 : ((p.length : Int) + 1).toNat = p.length + 1 := by omega
    have k3 : (0 : Int) ≤ (p.length : Int) + 1 := by omega
    have k4 : (p.length : Int) + 1 ≤ (s.length : Int) := by omega
    have k5 : (p.length : Int) ≤ (s.length : Int) := by omega
    have k6 : (0 : Int) ≤ (p.length : Int) := by omega
    have H1 := Lib.hid h1
    have H2 := Lib.hid h2
    clear e es hl h1 h2 hp
    go_enter Tryd.func57, Tryd.ntmps57
    go_wp2_with fail
    refine (Hi.out _).mono ?_
    rintro e w' ⟨rfl, rfl⟩
    go_wp2_with fail
    go_quiet (fail)
    go_wp2
    go_ret3
    exact ⟨by rw [Hc.out]; exact ret3 (vstr H1.out) (vstr H2.out) rfl, _, rfl⟩
theorem Cut_any (s : List UInt8) (c : UInt8) (w : World) (hs : s.length ≤ 4294967280) :
    Calls Tryd.prog 43 #[.string ⟨s.toArray⟩, .string ⟨#[c]⟩] w fun e w' => e = .returned (cutV (cutL c s)) ∧ ∃ k, w' = w.drewN k := by
  go_enter Tryd.func43, Tryd.ntmps43
  go_wp2_with fail
  refine (Cut_lite s c _ hs).mono ?_
  rintro e w' ⟨rfl, k, rfl⟩
  unfold cutV
  go_wp2_with fail
  go_ret3
  exact ⟨rfl, k, rfl⟩

/-! ### Split -/
theorem splitL_count (c : UInt8) : ∀ s : List UInt8, (splitL c s).length = s.count c + 1
  | [] => rfl
  | x :: s => by
    have ih := splitL_count c s
    simp only [splitL]
    by_cases h : x = c
    · rw [if_pos h, h]; simp [ih]
    · rw [if_neg h]
      have e : List.count c (x :: s) = List.count c s := List.count_cons_of_ne h
      rw [e]
      cases hs : splitL c s with
      | nil => rw [hs] at ih; simp at ih
      | cons p ps => rw [hs] at ih; simp at ih ⊢; exact ih
theorem set_mid' (A B : List Value) (k : Nat) (x y : Value) (h : A.length = k) : (A ++ x :: B).set k y = A ++ y :: B := by
  subst h
  rw [List.set_append, if_neg (by omega)]; simp

/-- What is stored at the next place of a row of texts. -/
theorem row_next {w : World} {base k n g cap : Nat} {ps : List (List UInt8)} {ys : List Value} (h : w.ownsRow base 9 1 (.slice (some ⟨g, 0, none⟩) n cap) n (scells ps ++ ys)) (hk : ps.length = k) (hlt : k < n) (s : List UInt8) :
    ∃ zs, (w.setCell ⟨g, k, none⟩ (.string ⟨s.toArray⟩)).ownsRow base 9 1 (.slice (some ⟨g, 0, none⟩) n cap) n (scells (ps ++ [s]) ++ zs) ∧ w.grownBy (w.setCell ⟨g, k, none⟩ (.string ⟨s.toArray⟩)) (some g) ∧ w.frozen? ⟨g, k, none⟩ = false ∧ ∃ u, w.cell? ⟨g, k, none⟩ = some u := by
  have hl : (scells ps).length = k := by simp [scells, hk]
  have h1 := h.1
  rw [List.length_append, hl] at h1
  obtain ⟨y, zs, rfl⟩ : ∃ y zs, ys = y :: zs := by
    cases ys with
    | nil => simp at h1; omega
    | cons y zs => exact ⟨y, zs, rfl⟩
  have hst := h.stored k (.string ⟨s.toArray⟩)
  rw [set_mid' _ _ _ _ _ hl] at hst
  have hc := h.cellAt k (by omega)
  rw [List.getElem?_append_right (by omega), hl] at hc
  simp at hc
  exact ⟨zs, by rw [scells_snoc, List.append_assoc]; exact hst.1, hst.2, h.frozenAt k, y, hc⟩

theorem row_cut {w : World} {base k n g cap : Nat} {ps : List (List UInt8)} {ys : List Value} (h : w.ownsRow base 9 1 (.slice (some ⟨g, 0, none⟩) n cap) n (scells ps ++ ys)) (hk : ps.length = k) (hle : k ≤ n) :
    w.ownsRow base 9 1 (.slice (some ⟨g, 0, none⟩) k cap) k (scells ps) := by
  rcases h.2 with ⟨e, _⟩ | ⟨g', cap', cur, e, hb, hh, hnc, hcm, hcs, htk⟩
  · cases e
  · injection e with e1 e2 e3
    injection e1 with e1
    injection e1 with e1
    subst e1; subst e3
    refine ⟨by simp [scells, hk], .inr ⟨g, cap, cur, rfl, hb, hh, by omega, hcm, hcs, ?_⟩⟩
    have hl : (scells ps).length = k := by simp [scells, hk]
    have : (cur.toList.take (n * 1)).take (k * 1) = (scells ps ++ ys).take (k * 1) := by rw [htk]
    rw [List.take_take, Nat.min_eq_left (by omega)] at this
    rw [this, List.take_append_of_le_length (by omega), List.take_of_length_le (by omega)]

set_option maxHeartbeats 2000000 in
theorem genSplit_any (s : List UInt8) (c : UInt8) (w : World) (hs : s.length ≤ 4000000) :
    Calls Tryd.prog 73 #[.string ⟨s.toArray⟩, .string ⟨#[c]⟩, .int .i64 0, .int .i64 (-1)] w fun e w' =>
      ∃ v, e = .returned v ∧ w'.ownsRow w.heap.size 9 1 v (splitL c s).length (scells (splitL c s)) ∧ Below w.heap.size w w' := by
  obtain ⟨i0, hi, hz0, hz1, hz2⟩ := info_parts Tryd.infoStr
  have hcnt : s.count c ≤ s.length := List.count_le_length
  have Hn := Lib.hid (splitL_count c s)
  have H0 := Lib.hid (show splitL c s = [] ++ splitL c s from rfl)
  go_enter Tryd.func73, Tryd.ntmps73
  go_wp2_with fail
  refine (Count_one s c w).mono ?_
  rintro e w' ⟨rfl, rfl⟩
  obtain ⟨n, hn⟩ : ∃ n, n = s.count c := ⟨_, rfl⟩
  have HN := Lib.hid hn
  rw [← hn] at hcnt ⊢
  clear hn
  have hmin : min ((n : Int) + 1) ((s.length : Int) + 1) = (n : Int) + 1 := by omega
  go_wp2_with (at_make; refine wpList_make_full _ rfl _ _ 67 rfl w.heap.size 9 i0 (.string ⟨#[]⟩) 1 Tryd.underlying67 hi hz0 hz1 .i64 .i64 _ _ (n + 1) rfl rfl (by omega) (by omega) (by rw [hz2]; omega) (by unfold maxLen; omega) (Nat.le_refl _) ?_; intro w0 hown0 hgrow0)
  go_loopw [0, 10] (fun x i wr => ∃ (ps : List (List UInt8)) (r : List UInt8) (k : Nat), i = .int .i64 k ∧ k ≤ n ∧ x = .string ⟨r.toArray⟩ ∧ r.length ≤ s.length ∧ ps.length = k ∧ Hid (splitL c s = ps ++ splitL c r) ∧ Hid (r.count c + k = n) ∧
      Hid (∃ ys, wr.ownsRow w.heap.size 9 1 (.slice (some ⟨w.heap.size, 0, none⟩) (n + 1) (n + 1)) (n + 1) (scells ps ++ ys)) ∧ Hid (Below w.heap.size w wr)) (fun _ i _ => n - (intOf i).toNat)
  case atStart => exact ⟨[], s, 0, rfl, Nat.zero_le _, rfl, Nat.le_refl _, rfl, H0.out, by show _ = _; have := HN.out; omega, ⟨_, hown0⟩, (Below.refl _ _).grown hgrow0 (Nat.le_refl _) (by simp)⟩
  case round =>
    obtain ⟨ps, r, k, rfl, hk, rfl, hr, hps, hsp, hct, hown, hb⟩ := hrel
    have Hps := Lib.hid hps
    clear hps
    by_cases hlt : k < n
    · have hmem : c ∈ r := by
        have := hct.out
        exact List.count_pos_iff.1 (by omega)
      have hix : ∃ p t, r = p ++ c :: t ∧ c ∉ p ∧ Lib.indexByte r c = (p.length : Int) := by
        rcases indexByte_cases r c with ⟨h, _⟩ | h
        · exact absurd hmem h
        · exact h
      obtain ⟨p, t, er, hp, e⟩ := hix
      have Hi := Lib.hid (fun W => Index_one r c W)
      rw [e] at Hi
      have hl : r.length = p.length + 1 + t.length := by rw [er]; simp; omega
      have H1 := Lib.hid (show r.take p.length = p by rw [er]; simp)
      have H2 := Lib.hid (show r.drop (p.length + 1) = t by
        rw [er, show p ++ c :: t = (p ++ [c]) ++ t by simp]
        exact List.drop_left' (by simp))
      have Hsp := Lib.hid (show splitL c s = (ps ++ [p]) ++ splitL c t by rw [hsp.out, er, splitL_app c p t hp]; simp)
      have Hct := Lib.hid (show t.count c + (k + 1) = n by
        have h0 := hct.out
        have h1 : p.count c = 0 := List.count_eq_zero.2 hp
        rw [er, List.count_append, h1, List.count_cons_self] at h0
        omega)
      obtain ⟨ys, hown'⟩ := hown.out
      obtain ⟨zs, n1, n2, n3, u, n4⟩ := row_next hown' Hps.out (by omega : k < n + 1) p
      have N1 := Lib.hid (show (wr.setCell ⟨w.heap.size, k, none⟩ (.string ⟨(r.take p.length).toArray⟩)).ownsRow w.heap.size 9 1 (.slice (some ⟨w.heap.size, 0, none⟩) (n + 1) (n + 1)) (n + 1) (scells (ps ++ [p]) ++ zs) by rw [H1.out]; exact n1)
      have N2 := Lib.hid (show Below w.heap.size w (wr.setCell ⟨w.heap.size, k, none⟩ (.string ⟨(r.take p.length).toArray⟩)) from hb.out.setCell (p := ⟨w.heap.size, k, none⟩) (Nat.le_refl _) _)
      have k1 : (0 : Int) ≤ (p.length : Int) := by omega
      have k2 : (p.length : Int) ≤ (r.length : Int) := by omega
      have k3 : p.length + 1 ≤ r.length := by omega
      clear e er hp hmem hown' n1 n2 hl
      go_wp2_with fail
      refine (Hi.out _).mono ?_
      rintro e w' ⟨rfl, rfl⟩
      go_wp2_with fail
      go_roundw
      case rel => exact ⟨ps ++ [p], t, k + 1, by go_num, by omega, vstr H2.out, by have := congrArg List.length H2.out; simp at this; omega, by rw [List.length_append, Hps.out]; rfl, Hsp.out, Hct.out, ⟨zs, N1.out⟩, N2.out⟩
      case measure => simp [intOf]; omega
    · obtain rfl : k = n := by omega
      have hno : c ∉ r := by
        have := hct.out
        exact List.count_eq_zero.1 (by omega)
      have Hsp := Lib.hid (show splitL c s = ps ++ [r] by rw [hsp.out, splitL_plain c r hno])
      obtain ⟨ys, hown'⟩ := hown.out
      obtain ⟨zs, n1, n2, n3, u, n4⟩ := row_next hown' Hps.out (by omega : k < k + 1) r
      have N1 := Lib.hid (row_cut n1 (by rw [List.length_append, Hps.out]; rfl) (Nat.le_refl _))
      have N2 := Lib.hid (show Below w.heap.size w (wr.setCell ⟨w.heap.size, k, none⟩ (.string ⟨r.toArray⟩)) from hb.out.setCell (p := ⟨w.heap.size, k, none⟩) (Nat.le_refl _) _)
      clear hown' n1 n2 hno
      go_wp2_with fail
      go_ret
      refine ⟨_, rfl, ?_, N2.out⟩
      have e1 : (splitL c s).length = k + 1 := by rw [Hsp.out, List.length_append, Hps.out]; rfl
      rw [e1, Hsp.out]
      exact N1.out

theorem Split_any (s : List UInt8) (c : UInt8) (w : World) (hs : s.length ≤ 4000000) :
    Calls Tryd.prog 59 #[.string ⟨s.toArray⟩, .string ⟨#[c]⟩] w fun e w' =>
      ∃ v, e = .returned v ∧ w'.ownsRow w.heap.size 9 1 v (splitL c s).length (scells (splitL c s)) ∧ Below w.heap.size w w' := by
  go_enter Tryd.func59, Tryd.ntmps59
  go_wp2_with fail
  refine (genSplit_any s c _ hs).mono ?_
  rintro e w' ⟨v, rfl, ho, hb⟩
  have Ho := Lib.hid ho
  have Hb := Lib.hid hb
  clear ho hb
  go_wp2_with fail
  go_ret
  exact ⟨_, rfl, Ho.out, Hb.out⟩
end Go.Proofs.YtcjfgbcdlcdeaaaDoor
/- Names, numbers and texts of the program: isName, plainNumber, isText, standing, decimal. -/
namespace Go.Proofs.YtcjfgbcdlcdeaaaDoor
open Go.RowKit
set_option maxRecDepth 100000
set_option linter.unusedVariables false
attribute [local go_sem] ba_get ba_toList ba_extract take_drop_all ByteArray.mk_append_mk

def lowB : List UInt8 := [97, 98, 99, 100, 101, 102, 103, 104, 105, 106, 107, 108, 109, 110, 111, 112, 113, 114, 115, 116, 117, 118, 119, 120, 121, 122]
def txtB : List UInt8 := [97, 98, 99, 100, 101, 102, 103, 104, 105, 106, 107, 108, 109, 110, 111, 112, 113, 114, 115, 116, 117, 118, 119, 120, 121, 122, 48, 49, 50, 51, 52, 53, 54, 55, 56, 57, 32]
theorem all_bytes {p : UInt8 → Bool} (h : ∀ n, n < 256 → p (UInt8.ofNat n) = true) (c : UInt8) : p c = true := by
  have := h c.toNat c.toNat_lt
  rwa [UInt8.ofNat_toNat] at this
theorem lowB_has (c : UInt8) : lowB.contains c = isLow c := by
  have := all_bytes (p := fun c => lowB.contains c == isLow c) (by decide +kernel) c
  simpa using this
theorem txtB_has (c : UInt8) : txtB.contains c = isTxt c := by
  have := all_bytes (p := fun c => txtB.contains c == isTxt c) (by decide +kernel) c
  simpa using this
theorem all_low (s : List UInt8) : s.all (lowB.contains ·) = s.all isLow := by congr 1; funext c; exact lowB_has c
theorem all_txt (s : List UInt8) : s.all (txtB.contains ·) = s.all isTxt := by congr 1; funext c; exact txtB_has c

set_option maxHeartbeats 400000 in
theorem isName_any (s : List UInt8) (w : World) (hs : s.length ≤ 9223372036854775807) :
    Calls Tryd.prog 49 #[.string ⟨s.toArray⟩] w fun e w' => e = .returned (.bool (nameOk s)) ∧ Below w.heap.size w w' := by
  by_cases h1 : 1 ≤ s.length
  · by_cases h3 : s.length ≤ 3
    · have hT := fun W => Trim_any s lowB W hs (by decide) (by decide)
      simp only [all_low] at hT
      have HT := Lib.hid hT
      have hn : nameOk s = s.all isLow := by simp [nameOk, h1, h3]
      have Hn := Lib.hid hn
      clear hn hT
      go_enter Tryd.func49, Tryd.ntmps49
      go_wp2_with fail
      refine (HT.out _).mono ?_
      rintro e w' ⟨⟨r, rfl, hr⟩, hb⟩
      cases r with
      | nil =>
        have Hr := Lib.hid (hr.1 rfl)
        clear hr
        go_wp2_with fail
        go_ret
        exact ⟨ret1 (vbool (by rw [Hn.out, Hr.out])), hb⟩
      | cons x r =>
        have Hr := Lib.hid (show s.all isLow = false by
          cases h : s.all isLow with
          | false => rfl
          | true => exact absurd (hr.2 h) (by simp))
        clear hr
        go_wp2_with fail
        go_ret
        exact ⟨ret1 (vbool (by rw [Hn.out, Hr.out])), hb⟩
    · have Hn := Lib.hid (show nameOk s = false by simp [nameOk, h3])
      go_enter Tryd.func49, Tryd.ntmps49
      go_wp2_with fail
      go_ret
      exact ⟨ret1 (vbool Hn.out.symm), Below.refl _ _⟩
  · have Hn := Lib.hid (show nameOk s = false by simp [nameOk, h1])
    go_enter Tryd.func49, Tryd.ntmps49
    go_wp2_with fail
    go_ret
    exact ⟨ret1 (vbool Hn.out.symm), Below.refl _ _⟩

set_option maxHeartbeats 400000 in
theorem isText_any (s : List UInt8) (w : World) (hs : s.length ≤ 9223372036854775807) :
    Calls Tryd.prog 91 #[.string ⟨s.toArray⟩] w fun e w' => e = .returned (.bool (textOk s)) ∧ Below w.heap.size w w' := by
  by_cases h3 : s.length ≤ 12
  · have hT := fun W => Trim_any s txtB W hs (by decide) (by decide)
    simp only [all_txt] at hT
    have HT := Lib.hid hT
    have hn : textOk s = s.all isTxt := by simp [textOk, h3]
    have Hn := Lib.hid hn
    have t0 : decide ((s.length : Int) ≤ 12) = true := by simp; omega
    clear hn hT
    go_enter Tryd.func91, Tryd.ntmps91
    go_wp2_with fail
    refine (HT.out _).mono ?_
    rintro e w' ⟨⟨r, rfl, hr⟩, hb⟩
    cases r with
    | nil =>
      have Hr := Lib.hid (hr.1 rfl)
      clear hr
      go_wp2_with fail
      go_ret
      exact ⟨ret1 (vbool (by rw [Hn.out, Hr.out])), hb⟩
    | cons x r =>
      have Hr := Lib.hid (show s.all isTxt = false by
        cases h : s.all isTxt with
        | false => rfl
        | true => exact absurd (hr.2 h) (by simp))
      clear hr
      go_wp2_with fail
      go_ret
      exact ⟨ret1 (vbool (by rw [Hn.out, Hr.out])), hb⟩
  · have Hn := Lib.hid (show textOk s = false by simp [textOk, h3])
    have t0 : decide ((s.length : Int) ≤ 12) = false := by simp; omega
    go_enter Tryd.func91, Tryd.ntmps91
    go_wp2_with fail
    go_ret
    exact ⟨ret1 (vbool Hn.out.symm), Below.refl _ _⟩

/-- What plainNumber returns. -/
def pnV (s : List UInt8) (m : Nat) : Value :=
  match decL s with
  | none => .tuple #[.int .i64 0, .bool false]
  | some n => .tuple #[.int .i64 n, .bool (decide (n ≤ m))]
theorem pnV_no {s : List UInt8} {m : Nat} (h : decL s = none) : pnV s m = .tuple #[.int .i64 0, .bool false] := by unfold pnV; rw [h]
theorem pnV_yes {s : List UInt8} {m n : Nat} (h : decL s = some n) : pnV s m = .tuple #[.int .i64 n, .bool (decide (n ≤ m))] := by unfold pnV; rw [h]

theorem valB_take_lt (s : List UInt8) (k : Nat) (hk : k ≤ 6) (h : (s.take k).all isDig = true) : valB (s.take k) ≤ 999999 := by
  have h1 := valB_lt (s.take k).length (s.take k) rfl h
  have h2 : 10 ^ (s.take k).length ≤ 10 ^ 6 := Nat.pow_le_pow_right (by omega) (by simp; omega)
  have e6 : 10 ^ 6 = 1000000 := rfl
  omega

set_option maxHeartbeats 1000000 in
theorem plainNumber_any (s : List UInt8) (m : Nat) (w : World) (hs : s.length ≤ 9223372036854775807) (hm : m ≤ 999999) :
    Calls Tryd.prog 74 #[.string ⟨s.toArray⟩, .int .i64 m] w fun e w' => e = .returned (pnV s m) ∧ w = w' := by
  rcases Nat.lt_or_ge s.length 1 with h1 | h1
  · obtain rfl : s = [] := List.eq_nil_of_length_eq_zero (by omega)
    have Hn := Lib.hid (pnV_no (m := m) (show decL [] = none by rfl))
    go_enter Tryd.func74, Tryd.ntmps74
    go_wp2_with fail
    go_ret2
    exact ⟨by rw [Hn.out]; rfl, rfl⟩
  · rcases Nat.lt_or_ge 6 s.length with h6 | h6
    · have Hn := Lib.hid (pnV_no (m := m) (show decL s = none by unfold decL; rw [if_neg]; rintro ⟨_, h, _⟩; omega))
      go_enter Tryd.func74, Tryd.ntmps74
      go_wp2_with fail
      go_ret2
      exact ⟨by rw [Hn.out]; rfl, rfl⟩
    · have hc0 := (s[0]'(by omega)).toNat_lt
      have h3 : (s[0]'(by omega) = 48 ∧ 1 < s.length) ∨ ((((s[0]'(by omega)).toNat : Int) == 48) = true ∧ s.length ≤ 1) ∨ ((((s[0]'(by omega)).toNat : Int) == 48) = false) := by
        by_cases h : s[0]'(by omega) = 48
        · rcases Nat.lt_or_ge 1 s.length with h' | h'
          · exact .inl ⟨h, h'⟩
          · exact .inr (.inl ⟨byte_eq h, h'⟩)
        · exact .inr (.inr (byte_ne h))
      have hhd : (s.head? ≠ some 48 ∨ s.length = 1) ∨ (s[0]'(by omega) = 48 ∧ 1 < s.length) := by
        rcases h3 with h | ⟨_, h⟩ | h
        · exact .inr h
        · exact .inl (.inr (by omega))
        · refine .inl (.inl ?_)
          rw [List.head?_eq_getElem?, List.getElem?_eq_getElem (by omega)]
          intro e
          injection e with e
          rw [e] at h
          exact absurd h (by decide)
      have Hhd := Lib.hid hhd
      clear hhd
      rcases h3 with ⟨hz, hl⟩ | ⟨t0, hl⟩ | t0
      · have Hn := Lib.hid (pnV_no (m := m) (show decL s = none by
          unfold decL
          rw [if_neg]
          rintro ⟨_, _, _, h | h⟩
          · apply h
            rw [List.head?_eq_getElem?, List.getElem?_eq_getElem (by omega), hz]
          · omega))
        have t0 : (((s[0]'(by omega)).toNat : Int) == 48) = true := byte_eq hz
        have Hz := Lib.hid hz
        go_enter Tryd.func74, Tryd.ntmps74
        go_wp2_with fail
        go_ret2
        exact ⟨by rw [Hn.out]; rfl, rfl⟩
      all_goals
        have Hall : Hid (s.head? ≠ some 48 ∨ s.length = 1) := by
          rcases Hhd.out with h | ⟨e, h⟩
          · exact h
          · exfalso
            first
              | omega
              | (rw [e] at t0; exact absurd t0 (by decide))
        clear Hhd
        go_enter Tryd.func74, Tryd.ntmps74
        go_wp2_with fail
        go_loop [6, 28] (fun x i => ∃ k : Nat, i = .int .i64 k ∧ k ≤ s.length ∧ Hid ((s.take k).all isDig = true) ∧ valB (s.take k) ≤ 999999 ∧ x = .int .i64 ((valB (s.take k) : Nat) : Int)) (fun _ i => s.length - (intOf i).toNat)
        case atStart => exact ⟨0, rfl, Nat.zero_le _, by simp [Hid], by simp [valB], by simp [valB]⟩
        case round =>
          obtain ⟨k, rfl, hk, hdig, hv, rfl⟩ := hrel
          by_cases hlt : k < s.length
          · have hc := (s[k]).toNat_lt
            have Hts := Lib.hid (take_snoc s k hlt)
            by_cases hd : isDig s[k] = true
            · have hd2 := isDig_iff.1 hd
              obtain ⟨d1, d2⟩ := hd2
              have hdig2 : (s.take (k + 1)).all isDig = true := by
                rw [Hts.out, List.all_append, hdig.out]; simp [hd]
              have hv2 := valB_take_lt s (k + 1) (by omega) hdig2
              have Hdig2 := Lib.hid hdig2
              have Hv := Lib.hid (show valB (s.take (k + 1)) = 10 * valB (s.take k) + ((s[k]).toNat - 48) by rw [Hts.out, valB_snoc])
              clear hd hdig2
              go_wp2_with fail
              go_round
              case rel => exact ⟨k + 1, by go_num, by omega, Hdig2.out, hv2, vint (by rw [Hv.out]; omega)⟩
              case measure => simp [intOf]; omega
            · have Hn := Lib.hid (pnV_no (m := m) (show decL s = none by
                unfold decL
                rw [if_neg]
                rintro ⟨_, _, h, _⟩
                exact hd (List.all_eq_true.1 h _ (List.getElem_mem hlt))))
              have h2 : (s[k]).toNat < 48 ∨ (48 ≤ (s[k]).toNat ∧ 57 < (s[k]).toNat) := by
                rcases Nat.lt_or_ge (s[k]).toNat 48 with h | h
                · exact .inl h
                · rcases Nat.lt_or_ge 57 (s[k]).toNat with h' | h'
                  · exact .inr ⟨h, h'⟩
                  · exact absurd (isDig_iff.2 ⟨h, h'⟩) hd
              clear hd
              rcases h2 with h2 | ⟨h2, h4⟩
              · go_wp2_with fail
                go_ret2
                exact ⟨by rw [Hn.out]; rfl, rfl⟩
              · go_wp2_with fail
                go_ret2
                exact ⟨by rw [Hn.out]; rfl, rfl⟩
          · have e : s.take k = s := List.take_of_length_le (by omega)
            have Hn := Lib.hid (pnV_yes (m := m) (show decL s = some (valB (s.take k)) by
              have hd := hdig.out
              rw [e] at hd ⊢
              unfold decL
              rw [if_pos ⟨by omega, by omega, hd, Hall.out⟩]))
            clear e
            generalize valB (s.take k) = v at hv Hn
            by_cases hvm : v ≤ m
            · go_wp2_with fail
              go_ret2
              exact ⟨by rw [Hn.out]; exact ret2 rfl (vbool (by simp [hvm])), rfl⟩
            · go_wp2_with fail
              go_ret2
              exact ⟨by rw [Hn.out]; exact ret2 rfl (vbool (by simp; omega)), rfl⟩
end Go.Proofs.YtcjfgbcdlcdeaaaDoor
