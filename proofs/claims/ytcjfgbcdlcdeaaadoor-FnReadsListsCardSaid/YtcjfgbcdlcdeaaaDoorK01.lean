/- Texts joined: Lib, Lib2, Pick, Open, NumL, SL1, Kinds, SL2, NumsS, SLM, DKind. Conditions: as each theorem names them. -/
import Derived.Test.YtcjfgbcdlcdeaaaDoorProg
import Derived.WalkKit
import Derived.WalkSmall
import Derived.WalkSpells
import Derived.WalkLawsBesides
import Derived.Below
import Derived.Lib.Hide
import Derived.Lib.BufferRead
import Derived.Laws.BytesArg
import Derived.Deep.QuietTactic
import Derived.BigQuiet
import Derived.Handy
import Derived.Deep.DeepCutAuto
import Derived.Laws.BitsAllLaws
import Derived.Laws.BitsLemmas
import Init
import Derived.Deep.RegionWith
/- Small laws for the walks of this seat: strings as lists of bytes, slices of the call's own that grow by one element, bytes read back as a string. Conditions: none beside those that each theorem names. -/
namespace Go.Proofs.YtcjfgbcdlcdeaaaDoor
open Go.RowKit

theorem ba_get (l : List UInt8) (k : Nat) (h : k < (ByteArray.mk l.toArray).size) : (ByteArray.mk l.toArray)[k] = l[k]'h := rfl

theorem ba_toList (l : List UInt8) : (ByteArray.mk l.toArray).toList = l := by
  have : (ByteArray.mk l.toArray).toList = (ByteArray.mk l.toArray).data.toList := ByteArray.toList_eq _
  rw [this]
theorem ba_extract (l : List UInt8) (a b : Nat) : (ByteArray.mk l.toArray).extract a b = ⟨((l.drop a).take (b - a)).toArray⟩ := by
  apply ByteArray.ext
  simp [ByteArray.data_extract]
theorem take_drop_all (l : List UInt8) (a : Nat) : (l.drop a).take (l.length - a) = l.drop a := List.take_of_length_le (by simp)

theorem results_four {fn : Func} {t u v x : Tmp} (h : fn.results = #[.tmp t, .tmp u, .tmp v, .tmp x]) (tmps : Array Value) (P : Program) (w : World) :
    (results fn tmps).run P w = .ok (.tuple #[tmps.getD t undef, tmps.getD u undef, tmps.getD v undef, tmps.getD x undef]) w := by simp [results, h]

theorem ret_int {k : IntKind} {a b : Int} (h : a = b) : Ending.returned (.int k a) = .returned (.int k b) := by rw [h]

theorem take_snoc {α : Type} (l : List α) (k : Nat) (h : k < l.length) : l.take (k + 1) = l.take k ++ [l[k]] := by
  rw [List.take_succ_eq_append_getElem h]

/-- The cells of a row of bytes. -/
def bcells (l : List UInt8) : List Value := l.map fun c => .int .u8 (c.toNat : Int)
/-- The cells of a row of strings. -/
def scells (ls : List (List UInt8)) : List Value := ls.map fun l => .string ⟨l.toArray⟩

theorem bcells_length (l : List UInt8) : (bcells l).length = l.length := by simp [bcells]
theorem scells_length (l : List (List UInt8)) : (scells l).length = l.length := by simp [scells]
theorem bcells_snoc (l : List UInt8) (c : UInt8) : bcells (l ++ [c]) = bcells l ++ [.int .u8 (c.toNat : Int)] := by simp [bcells]
theorem scells_snoc (l : List (List UInt8)) (c : List UInt8) : scells (l ++ [c]) = scells l ++ [.string ⟨c.toArray⟩] := by simp [scells]

/-- A slice value that reads as the cells xs; nil and empty ones are let in. -/
def RowAt (w : World) (A : Option Addr) (n : Nat) (xs : List Value) : Prop :=
  xs.length = n ∧ n ≤ maxLen ∧ (0 < n → ∃ b off, A = some ⟨b, off, none⟩ ∧ b < w.heap.size ∧ ∀ j u, xs[j]? = some u → w.cell? ⟨b, off + j, none⟩ = some u)

theorem RowAt.below {w w' : World} {A : Option Addr} {n : Nat} {xs : List Value} (h : RowAt w A n xs) (hb : Below w.heap.size w w') : RowAt w' A n xs := by
  refine ⟨h.1, h.2.1, fun hn => ?_⟩
  obtain ⟨b, off, e, hlt, hc⟩ := h.2.2 hn
  exact ⟨b, off, e, Nat.lt_of_lt_of_le hlt hb.size, fun j u hu => (hb.cell (p := ⟨b, off + j, none⟩) hlt).trans (hc j u hu)⟩
theorem RowAt.drew {w : World} {A : Option Addr} {n : Nat} {xs : List Value} (h : RowAt w A n xs) : RowAt w.drew A n xs := h
theorem RowAt.alloc {w : World} {A : Option Addr} {n : Nat} {xs : List Value} (h : RowAt w A n xs) (o : Obj) : RowAt (w.alloc o) A n xs := h.below ((Below.refl _ _).alloc (Nat.le_refl _) o)
theorem RowAt.at_ {w : World} {A : Option Addr} {n : Nat} {xs : List Value} (h : RowAt w A n xs) {k : Nat} (hk : k < n) :
    ∃ b off, A = some ⟨b, off, none⟩ ∧ b < w.heap.size ∧ w.cell? ⟨b, off + k, none⟩ = some (xs[k]'(by have := h.1; omega)) := by
  obtain ⟨b, off, e, hlt, hc⟩ := h.2.2 (by omega)
  exact ⟨b, off, e, hlt, hc k _ (List.getElem?_eq_getElem _)⟩
theorem RowAt.own {w : World} {base : Nat} {e : TypeId} {v : Value} {n : Nat} {xs : List Value} (h : w.ownsRow base e 1 v n xs) : ∃ A c, v = .slice A n c ∧ RowAt w A n xs := by
  have h1 := h.1
  rcases h.2 with ⟨rfl, rfl⟩ | ⟨g, cap, cur, rfl, hb, hh, hnc, hcm, hcs, htk⟩
  · exact ⟨none, 0, rfl, by omega, Nat.zero_le _, fun h => absurd h (by omega)⟩
  · refine ⟨some ⟨g, 0, none⟩, cap, rfl, by omega, by omega, fun hn => ⟨g, 0, rfl, (h.lt g rfl).2, fun j u hu => ?_⟩⟩
    have := h.cells (g := g) rfl j u hu
    have e1 : (⟨g, 0, none⟩ : Addr).add j = ⟨g, 0 + j, none⟩ := by unfold Addr.add; split <;> simp_all
    rwa [e1] at this

/-- A row of the call's own is as it was behind a contract that ends in Below. -/
theorem ownsRow_below {w w1 : World} {base : Nat} {e : TypeId} {size : Nat} {v : Value} {n : Nat} {xs : List Value} (h : w.ownsRow base e size v n xs) (hb : Below w.heap.size w w1) : w1.ownsRow base e size v n xs :=
  h.kept (row := none) ⟨hb.os, hb.tape, hb.output, hb.size, fun k hk _ => hb.block k hk⟩ (by
    cases v with
    | slice A a b => cases A with
      | none => exact .inl rfl
      | some x => exact .inr (by simp [Value.ownBlock])
    | _ => exact .inl rfl)

section
variable {P : Program}

/-- 'append(v, u)': the one new element lies in a block that was just made. -/
theorem wpList_app1 (w : World) {ops : Array Oper} {rest : List Oper} {o : Oper} {a : Act} {Q : Exit → Act → World → Prop} (hgd : o.guard = none) (s x : Operand) (t : TypeId)
    (ho : o.op = .call { callee := .builtin .append, args := #[s, x], argTypes := #[t, t] })
    (base : Nat) (e : TypeId) (z : Value) (bytes : Nat) (ht : P.underlying t = some (.slice e)) (hinfo : (P.info? e).map (fun i => (i.zero, i.size, i.bytes)) = some (some z, 1, bytes))
    (hzs : z.cells.size = 1) (W : World) (u : Value) (hw : w = W.alloc (.cells #[u] e)) (hu : u.oneCell' = true) (v : Value) (n : Nat) (xs : List Value) (hs : a.eval s = v) (hx : a.eval x = .slice (some ⟨W.heap.size, 0, none⟩) 1 1)
    (hown : W.ownsRow base e 1 v n xs)
    (h63 : n + 1 ≤ maxLen) (hbytes : (n + 1) * bytes ≤ 140737488355328) (hbase : base ≤ W.heap.size)
    (h : ∀ v' w', w'.ownsRow base e 1 v' (n + 1) (xs ++ [u]) → Below base W w' → wpList P ops Q rest (a.put o.dst v') w') : wpList P ops Q (o :: rest) a w := by
  subst hw
  obtain ⟨i0, hi, hz0, hz1, hz2⟩ := info_parts hinfo
  refine wpList_append_own _ hgd s x t ho base e i0 z 1 bytes ht hi hz0 hz1 hz2 hzs (by decide) v n xs hs (hown.alloc _) ⟨W.heap.size, 0, none⟩ 1 1 [u] hx rfl ?_ ?_ h63 hbytes ?_ ?_
  · intro j y hj
    match j, hj with
    | 0, hj => simp at hj; subst hj; simp [Addr.add, World.cell?_alloc_new]
  · intro y hy; simp at hy; subst hy; exact hu
  · have : (W.alloc (.cells #[u] e)).heap.size = W.heap.size + 1 := by simp
    omega
  · intro v' w' h1 h2 _
    exact h v' w' h1 (((Below.refl base W).alloc hbase _).grown h2 (by simp; omega) (fun k hk => (hown.lt k hk).1))

/-- 'string(v)' of a row of bytes of the call's own. -/
theorem conv_own (w : World) (src e dst : TypeId) (hs : P.underlying src = some (.slice e)) (he : P.underlying e = some (.int .u8)) (hd : P.underlying dst = some .string)
    (base : Nat) (v : Value) (l : List UInt8) (n : Nat) (hn : n = l.length) (hown : w.ownsRow base e 1 v n (bcells l)) : (convert src dst v).run P w = .ok (.string ⟨l.toArray⟩) w := by
  subst hn
  rcases hown.2 with ⟨rfl, h0⟩ | ⟨g, cap, cur, rfl, _, hh, hnc, hcm, hcs, htk⟩
  · obtain rfl : l = [] := List.eq_nil_of_length_eq_zero h0
    exact Lib.run_convert_nil_bytes w src dst e 0 hs he hd
  · have hc := hown.cells (g := g) rfl
    have h := run_convert_bytes_arg (P := P) w src e hs he g 0 l.length cap (l.map fun c => (c.toNat : Int)) (by simp) (fun i hi => by
      have := hc i (.int .u8 (l[i].toNat : Int)) (by simp [bcells, hi])
      have e1 : (⟨g, 0, none⟩ : Addr).add i = ⟨g, 0 + i, none⟩ := by unfold Addr.add; split <;> simp_all
      rw [e1] at this
      rw [this]; simp [List.getD, hi]) dst hd
    rw [h]
    have : strOfNums (l.map fun c => (c.toNat : Int)) = ⟨l.toArray⟩ := by
      simp [strOfNums, Function.comp_def]
    rw [this]

/-- 'string([]byte{c})': the one byte lies in a block of the call's own. -/
theorem conv_one (W : World) (src e dst : TypeId) (hs : P.underlying src = some (.slice e)) (he : P.underlying e = some (.int .u8)) (hd : P.underlying dst = some .string)
    (g c : Nat) (b : UInt8) (hc : W.cell? ⟨g, 0, none⟩ = some (.int .u8 (b.toNat : Int))) : (convert src dst (.slice (some ⟨g, 0, none⟩) 1 c)).run P W = .ok (.string ⟨[b].toArray⟩) W := by
  have h := run_convert_bytes_arg (P := P) W src e hs he g 0 1 c [(b.toNat : Int)] rfl (fun i hi => by
    obtain rfl : i = 0 := by omega
    simpa using hc) dst hd
  rw [h]; simp [strOfNums]
end

theorem Tryd.conv1 (W : World) (g c : Nat) (b : UInt8) (hc : W.cell? ⟨g, 0, none⟩ = some (.int .u8 (b.toNat : Int))) :
    (convert 22 9 (.slice (some ⟨g, 0, none⟩) 1 c)).run Tryd.prog W = .ok (.string ⟨[b].toArray⟩) W :=
  conv_one W 22 5 9 Tryd.underlying22 Tryd.underlying5 Tryd.underlying9 g c b hc

/-- What a contract that ends in Below gives to a walk: old cells and marks read as before, old blocks are still there. -/
theorem bcell {W w1 : World} (hb : Below W.heap.size W w1) : (∀ b o, b < W.heap.size → w1.cell? ⟨b, o, none⟩ = W.cell? ⟨b, o, none⟩) ∧ (∀ b o, b < W.heap.size → w1.frozen? ⟨b, o, none⟩ = W.frozen? ⟨b, o, none⟩) ∧ (∀ b, b < W.heap.size → b < w1.heap.size) :=
  ⟨fun b o h => hb.cell (p := ⟨b, o, none⟩) h, fun b o h => hb.frozen (p := ⟨b, o, none⟩) h, fun _ h => Nat.lt_of_lt_of_le h hb.size⟩

theorem Tryd.infoU8 : (Tryd.prog.info? 5).map (fun i => (i.zero, i.size, i.bytes)) = some (some (.int .u8 0), 1, 1) := by kernel_rfl
theorem Tryd.infoStr : (Tryd.prog.info? 9).map (fun i => (i.zero, i.size, i.bytes)) = some (some (.string ⟨#[]⟩), 1, 16) := by kernel_rfl

end Go.Proofs.YtcjfgbcdlcdeaaaDoor
/- More small laws for the walks: results written limb by limb. -/
namespace Go.Proofs.YtcjfgbcdlcdeaaaDoor
open Go.RowKit

theorem ret1 {a a' : Value} (h : a = a') : Ending.returned a = .returned a' := by rw [h]
theorem ret2 {a b a' b' : Value} (h1 : a = a') (h2 : b = b') : Ending.returned (.tuple #[a, b]) = .returned (.tuple #[a', b']) := by rw [h1, h2]
theorem ret3 {a b c a' b' c' : Value} (h1 : a = a') (h2 : b = b') (h3 : c = c') : Ending.returned (.tuple #[a, b, c]) = .returned (.tuple #[a', b', c']) := by rw [h1, h2, h3]
theorem ret4 {a b c d a' b' c' d' : Value} (h1 : a = a') (h2 : b = b') (h3 : c = c') (h4 : d = d') : Ending.returned (.tuple #[a, b, c, d]) = .returned (.tuple #[a', b', c', d']) := by rw [h1, h2, h3, h4]
theorem vint {k : IntKind} {x y : Int} (h : x = y) : Value.int k x = .int k y := by rw [h]
theorem vstr {x y : List UInt8} (h : x = y) : Value.string ⟨x.toArray⟩ = .string ⟨y.toArray⟩ := by rw [h]
theorem vbool {x y : Bool} (h : x = y) : Value.bool x = .bool y := by rw [h]

theorem below_drewN' {B : Nat} {a w : World} (h : Below B a w) (n : Nat) : Below B a (w.drewN n) := below_drewN h n
end Go.Proofs.YtcjfgbcdlcdeaaaDoor
/- The reader of codes: l6Open and pick. -/
namespace Go.Proofs.YtcjfgbcdlcdeaaaDoor
open Go.RowKit
set_option maxRecDepth 100000
set_option linter.unusedVariables false

/-- A reader in block g, its place p: a code of at most 2000 bytes, which lies elsewhere. -/
def Rdr (w : World) (g p : Nat) : Prop :=
  ∃ A n c l, w.heap[g]? = some (.cells #[.slice A n c, .int .i64 (p : Int)] 40 (0, 0)) ∧ RowAt w A n (bcells l) ∧ n ≤ 2000 ∧ ∀ b off, A = some ⟨b, off, none⟩ → 0 < n → b < g

theorem Rdr.lt {w : World} {g p : Nat} (h : Rdr w g p) : g < w.heap.size := by
  obtain ⟨A, n, c, l, hh, _⟩ := h
  rcases Nat.lt_or_ge g w.heap.size with h1 | h1
  · exact h1
  · rw [Array.getElem?_eq_none h1] at hh; cases hh
theorem Rdr.below {w w' : World} {g p : Nat} (h : Rdr w g p) (hb : Below w.heap.size w w') : Rdr w' g p := by
  have hlt := h.lt
  obtain ⟨A, n, c, l, hh, hr, h2, h3⟩ := h
  exact ⟨A, n, c, l, (hb.block g hlt).trans hh, hr.below hb, h2, h3⟩

/-- What lies up to the reader is as it was. -/
theorem Rdr.belowg {w w' : World} {g p : Nat} (h : Rdr w g p) (hb : Below (g + 1) w w') (hs : w.heap.size ≤ w'.heap.size) : Rdr w' g p := by
  obtain ⟨A, n, c, l, hh, hr, h2, h3⟩ := h
  refine ⟨A, n, c, l, (hb.block g (by omega)).trans hh, ⟨hr.1, hr.2.1, fun hn => ?_⟩, h2, h3⟩
  obtain ⟨b, off, e, hlt, hc⟩ := hr.2.2 hn
  have := h3 b off e hn
  exact ⟨b, off, e, Nat.lt_of_lt_of_le hlt hs, fun j u hu => (hb.cell (p := ⟨b, off + j, none⟩) (by show b < g + 1; omega)).trans (hc j u hu)⟩

/-- The reader alone has turned, and what is new. -/
theorem RowAt.grown {w w' : World} {g : Nat} {A : Option Addr} {n : Nat} {xs : List Value} (h : RowAt w A n xs) (hg : w.grownBy w' (some g)) (hne : ∀ b off, A = some ⟨b, off, none⟩ → 0 < n → b ≠ g) : RowAt w' A n xs := by
  refine ⟨h.1, h.2.1, fun hn => ?_⟩
  obtain ⟨b, off, e, hlt, hc⟩ := h.2.2 hn
  refine ⟨b, off, e, Nat.lt_of_lt_of_le hlt hg.size, fun j u hu => ?_⟩
  exact (World.cell?_of_block (a := ⟨b, off + j, none⟩) (hg.block b hlt (fun h => hne b off e hn (Option.some.inj h)))).trans (hc j u hu)

theorem i64_xor_nat (a b : Nat) (ha : a < 4611686018427387904) (hb : b < 4611686018427387904) : ∃ x : Nat, bits .xor .i64 (a : Int) (b : Int) = (x : Int) ∧ x < 4611686018427387904 := by
  have hx : a ^^^ b < 2 ^ 62 := Nat.xor_lt_two_pow (by omega) (by omega)
  refine ⟨a ^^^ b, ?_, hx⟩
  show IntKind.i64.wrap ((BitVec.ofInt 64 (a : Int) ^^^ BitVec.ofInt 64 (b : Int)).toNat : Int) = _
  have ho : ∀ a : Nat, a < 4611686018427387904 → (BitVec.ofInt 64 (a : Int)).toNat = a := fun a ha => by
    rw [BitVec.ofInt_natCast, BitVec.toNat_ofNat]; exact Nat.mod_eq_of_lt (by omega)
  rw [BitVec.toNat_xor, ho a ha, ho b hb, IntKind.wrap_i64]
  omega

/-- What a call of pick leaves. -/
def PickPost (w : World) (g p : Nat) (n : Int) (e : Ending) (w' : World) : Prop :=
  ∃ x : Nat, e = .returned (.int .i64 (x : Int)) ∧ (1 ≤ n → (x : Int) < n) ∧ (n < 1 → x = 0) ∧ Rdr w' g (p + 1) ∧ w.grownBy w' (some g)

theorem pick_world {w : World} {g p : Nat} (h : Rdr w g p) (k : Nat) : Rdr ((w.setCell ⟨g, 1, none⟩ (.int .i64 ((p : Int) + 1))).drewN k) g (p + 1) ∧ w.grownBy ((w.setCell ⟨g, 1, none⟩ (.int .i64 ((p : Int) + 1))).drewN k) (some g) := by
  obtain ⟨A, n, c, l, hh, hr, h2, h3⟩ := h
  have hg : w.grownBy (w.setCell ⟨g, 1, none⟩ (.int .i64 ((p : Int) + 1))) (some g) :=
    ⟨rfl, rfl, rfl, by simp, fun k _ hk => heap_setCell_other w ⟨g, 1, none⟩ k _ (fun e => hk (by simp [e]))⟩
  have hg' : w.grownBy ((w.setCell ⟨g, 1, none⟩ (.int .i64 ((p : Int) + 1))).drewN k) (some g) := ⟨hg.os, hg.tape, hg.output, hg.size, hg.block⟩
  refine ⟨⟨A, n, c, l, ?_, hr.grown hg' (fun b off e hn => Nat.ne_of_lt (h3 b off e hn)), h2, h3⟩, hg'⟩
  have := heap_setCell_same w g 1 _ _ (.int .i64 ((p : Int) + 1)) hh
  have e : ((p + 1 : Nat) : Int) = (p : Int) + 1 := by omega
  rw [e]
  exact this

set_option maxHeartbeats 1000000 in
theorem pick_any (g p : Nat) (n : Int) (w : World) (h : Rdr w g p) (hp : p ≤ 1000000000) (hn : n ≤ 1000000000) (hn0 : -1000000000 ≤ n) :
    Calls Tryd.prog 14 #[.pointer (some ⟨g, 0, none⟩), .int .i64 n] w (PickPost w g p n) := by
  have hw := fun k => pick_world h k
  have Hw := Lib.hid hw
  clear hw
  obtain ⟨A, m, c, l, hh, hr, h2, h3⟩ := h
  have hc0 : w.cell? ⟨g, 0, none⟩ = some (.slice A m c) := by simp [World.cell?, hh]
  have hc1 : w.cell? ⟨g, 1, none⟩ = some (.int .i64 (p : Int)) := by simp [World.cell?, hh]
  have hf : w.frozen? ⟨g, 1, none⟩ = false := by simp [World.frozen?, hh]
  have Hh := Lib.hid hh
  clear hh
  by_cases hn1 : n < 1
  · have H3 := Lib.hid h3
    clear h3
    go_enter Tryd.func14, Tryd.ntmps14
    go_wp2
    go_ret
    exact ⟨0, rfl, by omega, fun _ => rfl, (Hw.out 0).1, (Hw.out 0).2⟩
  · by_cases hm : m = 0
    · have H3 := Lib.hid h3
      clear h3
      subst hm
      go_enter Tryd.func14, Tryd.ntmps14
      go_wp2
      go_ret
      exact ⟨0, rfl, by omega, fun _ => rfl, (Hw.out 0).1, (Hw.out 0).2⟩
    · have hm1 : 0 < m := by omega
      have tm : ((m : Int) == 0) = false := by simp; omega
      have hl : l.length = m := by have := hr.1; simpa [bcells] using this
      by_cases hk : p < m
      · obtain ⟨b, o, rfl, hb, hx⟩ := hr.at_ hk
        have hbg : b ≠ g := Nat.ne_of_lt (h3 b o rfl hm1)
        have hx' : w.cell? ⟨b, o + p, none⟩ = some (.int .u8 ((l[p]'(by omega)).toNat : Int)) := by rw [hx]; simp [bcells]
        have hlt := (l[p]'(by omega)).toNat_lt
        generalize (l[p]'(show p < l.length by omega)).toNat = y at hx' hlt
        clear hx h3 tm
        have tm : ((m : Int) == 0) = false := by simp; omega
        have i1 : (0 : Int) ≤ (p : Int) := by omega
        have i2 : (p : Int) < (m : Int) := by omega
        go_enter Tryd.func14, Tryd.ntmps14
        go_wp2
        go_ret
        have hn' : (0 : Int) < n := by omega
        have e1 := Int.emod_nonneg (y : Int) (show n ≠ 0 by omega)
        have e2 := Int.emod_lt_of_pos (y : Int) hn'
        exact ⟨((y : Int) % n).toNat, ret1 (vint (by omega)), by omega, by omega, (Hw.out 0).1, (Hw.out 0).2⟩
      · obtain ⟨b, o, rfl, hb, hcell⟩ := hr.2.2 hm1
        have hbg : b ≠ g := Nat.ne_of_lt (h3 b o rfl hm1)
        have m1 : p % m < m := Nat.mod_lt _ hm1
        have m2 : (p * 7 + 3) % m < m := Nat.mod_lt _ hm1
        have hx1 := hcell (p % m) _ (List.getElem?_eq_getElem (show p % m < (bcells l).length by rw [bcells_length]; omega))
        have hx2 := hcell ((p * 7 + 3) % m) _ (List.getElem?_eq_getElem (show (p * 7 + 3) % m < (bcells l).length by rw [bcells_length]; omega))
        simp only [bcells, List.getElem_map] at hx1 hx2
        have hlt1 := (l[p % m]'(by omega)).toNat_lt
        have hlt2 := (l[(p * 7 + 3) % m]'(by omega)).toNat_lt
        generalize (l[p % m]'(show p % m < l.length by omega)).toNat = y1 at hx1 hlt1
        generalize (l[(p * 7 + 3) % m]'(show (p * 7 + 3) % m < l.length by omega)).toNat = y2 at hx2 hlt2
        have M1 : ((p : Int).tmod m) = ((p % m : Nat) : Int) := by rw [Int.tmod_eq_emod_of_nonneg (by omega)]; omega
        have M2 : (((p : Int) * 7 + 3).tmod m) = (((p * 7 + 3) % m : Nat) : Int) := by rw [Int.tmod_eq_emod_of_nonneg (by omega)]; simp
        have M3 : ((p : Int).tdiv m) = ((p / m : Nat) : Int) := by rw [Int.tdiv_eq_ediv_of_nonneg (by omega)]; omega
        have m3 : p / m ≤ p := Nat.div_le_self _ _
        generalize p % m = k1 at M1 hx1 m1
        generalize (p * 7 + 3) % m = k2 at M2 hx2 m2
        generalize p / m = k3 at M3 m3
        have a1 : IntKind.i64.wrap ((y1 : Int) * 131) = (y1 : Int) * 131 := IntWalk.i64_in _ (by omega)
        have a2 : IntKind.i64.wrap ((y2 : Int) * 1117) = (y2 : Int) * 1117 := IntWalk.i64_in _ (by omega)
        have a3 : IntKind.i64.wrap ((y1 : Int) * 131 + (y2 : Int) * 1117) = (y1 : Int) * 131 + (y2 : Int) * 1117 := IntWalk.i64_in _ (by omega)
        have a4 : IntKind.i64.wrap ((p : Int) * 29) = (p : Int) * 29 := IntWalk.i64_in _ (by omega)
        have a5 : IntKind.i64.wrap ((y1 : Int) * 131 + (y2 : Int) * 1117 + (p : Int) * 29) = (y1 : Int) * 131 + (y2 : Int) * 1117 + (p : Int) * 29 := IntWalk.i64_in _ (by omega)
        have a7 : IntKind.i64.wrap ((k3 : Int) * 53) = (k3 : Int) * 53 := IntWalk.i64_in _ (by omega)
        have a9 : IntKind.i64.wrap ((p : Int) * 7) = (p : Int) * 7 := IntWalk.i64_in _ (by omega)
        have a10 : IntKind.i64.wrap ((p : Int) * 7 + 3) = (p : Int) * 7 + 3 := IntWalk.i64_in _ (by omega)
        obtain ⟨z, a8, hz⟩ : ∃ z : Nat, IntKind.i64.wrap ((y1 : Int) * 131 + (y2 : Int) * 1117 + (p : Int) * 29 + (k3 : Int) * 53) = (z : Int) ∧ z < 4611686018427387904 :=
          ⟨y1 * 131 + y2 * 1117 + p * 29 + k3 * 53, by rw [IntWalk.i64_in _ (by omega)]; omega, by omega⟩
        obtain ⟨x, hx, hxl⟩ := i64_xor_nat z (z / 64) hz (by omega)
        rw [show ((z / 64 : Nat) : Int) = (z : Int) / 64 from by omega] at hx
        clear hcell h3 hm hr
        have i1 : (0 : Int) ≤ (p : Int) := by omega
        have i2 : (0 : Int) < (m : Int) := by omega
        have i3 : (0 : Int) ≤ (k1 : Int) := by omega
        have i4 : (k1 : Int) < (m : Int) := by omega
        have i5 : (0 : Int) ≤ (k2 : Int) := by omega
        have i6 : (k2 : Int) < (m : Int) := by omega
        have j1 : (0 : Int) ≤ (z : Int) := by omega
        have j2 : (0 : Int) ≤ (x : Int) := by omega
        go_enter Tryd.func14, Tryd.ntmps14
        go_wp2
        go_quiet (fail)
        clear a1 a2 a3 a4 a5 a7 a9 a10 a8 M1 M2 M3
        go_wp2
        go_ret
        have hn' : (0 : Int) < n := by omega
        have e1 := Int.emod_nonneg (x : Int) (show n ≠ 0 by omega)
        have e2 := Int.emod_lt_of_pos (x : Int) hn'
        exact ⟨((x : Int) % n).toNat, ret1 (vint (by omega)), by omega, by omega, (Hw.out _).1, (Hw.out _).2⟩
end Go.Proofs.YtcjfgbcdlcdeaaaDoor
/- l6Open: a reader over a code. -/
namespace Go.Proofs.YtcjfgbcdlcdeaaaDoor
open Go.RowKit
set_option maxRecDepth 100000
set_option linter.unusedVariables false

theorem rdr_new {w : World} {A : Option Addr} {n c : Nat} {l : List UInt8} (h : RowAt w A n (bcells l)) (hn : n ≤ 2000) : Rdr (w.alloc (.cells #[.slice A n c, .int .i64 0] 40)) w.heap.size 0 := by
  refine ⟨A, n, c, l, heap_alloc_new w _, h.alloc _, hn, fun b off e hpos => ?_⟩
  obtain ⟨b', off', e', hlt, _⟩ := h.2.2 hpos
  rw [e] at e'
  injection e' with e'
  injection e' with e1
  subst e1
  omega

theorem RowAt.take {w : World} {A : Option Addr} {n : Nat} {l : List UInt8} (h : RowAt w A n (bcells l)) (k : Nat) (hk : k ≤ n) : RowAt w A k (bcells (l.take k)) := by
  have hl : l.length = n := by have := h.1; simpa [bcells] using this
  refine ⟨by simp [bcells]; omega, Nat.le_trans hk h.2.1, fun h0 => ?_⟩
  obtain ⟨b, off, e, hlt, hc⟩ := h.2.2 (by omega)
  refine ⟨b, off, e, hlt, fun j u hu => hc j u ?_⟩
  have hj : j < k := by
    have := (List.getElem?_eq_some_iff.1 hu).1
    simp [bcells] at this; omega
  simpa [bcells, List.getElem?_take, hj] using hu

set_option maxHeartbeats 1000000 in
theorem l6Open_any (A : Option Addr) (n c : Nat) (l : List UInt8) (w : World) (h : RowAt w A n (bcells l)) (hc : n ≤ c) (hcm : c ≤ maxLen) :
    Calls Tryd.prog 7 #[.slice A n c] w fun e w' => ∃ g, e = .returned (.pointer (some ⟨g, 0, none⟩)) ∧ Rdr w' g 0 ∧ w.heap.size ≤ g ∧ Below w.heap.size w w' := by
  unfold maxLen at hcm
  by_cases hn : n ≤ 2000
  · go_enter Tryd.func7, Tryd.ntmps7
    go_wp2
    go_goals
    go_ret
    exact ⟨w.heap.size, rfl, rdr_new h hn, Nat.le_refl _, (Below.refl _ _).alloc (Nat.le_refl _) _⟩
  · go_enter Tryd.func7, Tryd.ntmps7
    go_wp2
    go_goals
    go_ret
    exact ⟨w.heap.size, rfl, rdr_new (h.take 2000 (by omega)) (Nat.le_refl _), Nat.le_refl _, (Below.refl _ _).alloc (Nat.le_refl _) _⟩
end Go.Proofs.YtcjfgbcdlcdeaaaDoor
/- Plain laws of the numbers to the base 128: how a number below 2097152 is told as bytes. No program in sight. -/
namespace Go.Proofs.YtcjfgbcdlcdeaaaDoor

def byteOf (n : Nat) : UInt8 := UInt8.ofNat n
theorem byteOf_toNat {n : Nat} (h : n < 256) : (byteOf n).toNat = n := by unfold byteOf; exact UInt8.toNat_ofNat_of_lt' h

/-- The bytes of a number below 2097152. -/
def numB (n : Nat) : List UInt8 :=
  if n < 128 then [byteOf n] else if n < 16384 then [byteOf (n % 128 + 128), byteOf (n / 128)] else [byteOf (n % 128 + 128), byteOf (n / 128 % 128 + 128), byteOf (n / 16384)]

theorem numB_small {n : Nat} (h : n < 128) : numB n = [byteOf n] := by unfold numB; rw [if_pos h]
theorem numB_step {n : Nat} (h : 128 ≤ n) (h2 : n < 2097152) : numB n = byteOf (n % 128 + 128) :: numB (n / 128) := by
  unfold numB
  by_cases h3 : n < 16384
  · rw [if_neg (by omega), if_pos h3, if_pos (by omega)]
  · rw [if_neg (by omega), if_neg h3, if_neg (by omega), if_pos (by omega)]
    have : n / 16384 = n / 128 / 128 := by omega
    rw [this]
theorem numB_length_pos (n : Nat) : 1 ≤ (numB n).length := by
  unfold numB
  split
  · simp
  · split <;> simp
theorem numB_length_le (n : Nat) : (numB n).length ≤ 3 := by
  unfold numB
  split
  · simp
  · split <;> simp
theorem numB_len1 {n : Nat} (h : n < 128) : (numB n).length = 1 := by rw [numB_small h]; rfl
theorem numB_len2 {n : Nat} (h : n < 16384) : (numB n).length ≤ 2 := by
  unfold numB
  split
  · simp
  · simp
theorem numB_ne (n : Nat) : numB n ≠ [] := by have := numB_length_pos n; intro h; rw [h] at this; simp at this

/-- The number at the beginning of bytes, and what is behind it. -/
def numGetL : List UInt8 → Option (Nat × List UInt8)
  | [] => none
  | a :: t =>
    if a.toNat < 128 then some (a.toNat, t)
    else match t with
      | [] => none
      | b :: u =>
        if b.toNat < 128 then (if b.toNat = 0 then none else some (a.toNat % 128 + b.toNat * 128, u))
        else match u with
          | [] => none
          | c :: v => if c.toNat < 128 then (if c.toNat = 0 ∨ 999999 < a.toNat % 128 + b.toNat % 128 * 128 + c.toNat * 16384 then none else some (a.toNat % 128 + b.toNat % 128 * 128 + c.toNat * 16384, v)) else none

theorem numGetL_len {s : List UInt8} {n : Nat} {r : List UInt8} (h : numGetL s = some (n, r)) : n ≤ 999999 ∧ r.length < s.length := by
  rcases s with _ | ⟨a, _ | ⟨b, _ | ⟨c, v⟩⟩⟩
  · simp [numGetL] at h
  · simp only [numGetL] at h
    split at h
    · simp at h; obtain ⟨rfl, rfl⟩ := h; exact ⟨by omega, by simp⟩
    · simp at h
  · simp only [numGetL] at h
    split at h
    · simp at h; obtain ⟨rfl, rfl⟩ := h; exact ⟨by omega, by simp⟩
    · split at h
      · split at h
        · simp at h
        · simp at h; obtain ⟨rfl, rfl⟩ := h; exact ⟨by omega, by simp⟩
      · simp at h
  · simp only [numGetL] at h
    split at h
    · simp at h; obtain ⟨rfl, rfl⟩ := h; exact ⟨by omega, by simp⟩
    · split at h
      · split at h
        · simp at h
        · simp at h; obtain ⟨rfl, rfl⟩ := h; exact ⟨by omega, by simp⟩
      · split at h
        · split at h
          · simp at h
          · rename_i hn
            simp only [Option.some.injEq, Prod.mk.injEq] at h; obtain ⟨rfl, rfl⟩ := h; exact ⟨by omega, by simp; omega⟩
        · simp at h

end Go.Proofs.YtcjfgbcdlcdeaaaDoor
/- Plain laws of names, decimals and kinds: what is read is what is told. No program in sight. -/
namespace Go.Proofs.YtcjfgbcdlcdeaaaDoor

def isLow (c : UInt8) : Bool := decide (97 ≤ c.toNat) && decide (c.toNat ≤ 122)
def isDig (c : UInt8) : Bool := decide (48 ≤ c.toNat) && decide (c.toNat ≤ 57)
/-- A name: one to three letters. -/
def nameOk (s : List UInt8) : Bool := decide (1 ≤ s.length) && decide (s.length ≤ 3) && s.all isLow

theorem isDig_iff {c : UInt8} : isDig c = true ↔ 48 ≤ c.toNat ∧ c.toNat ≤ 57 := by simp [isDig]
theorem isLow_iff {c : UInt8} : isLow c = true ↔ 97 ≤ c.toNat ∧ c.toNat ≤ 122 := by simp [isLow]
theorem nameOk_iff {s : List UInt8} : nameOk s = true ↔ 1 ≤ s.length ∧ s.length ≤ 3 ∧ ∀ c ∈ s, isLow c = true := by
  simp [nameOk, and_assoc]

/-! ### decimals -/
/-- A number in decimals. -/
def decB (n : Nat) : List UInt8 := if h : n < 10 then [byteOf (48 + n)] else decB (n / 10) ++ [byteOf (48 + n % 10)]
termination_by n
decreasing_by omega
theorem decB_small {n : Nat} (h : n < 10) : decB n = [byteOf (48 + n)] := by rw [decB, dif_pos h]
theorem decB_step {n : Nat} (h : ¬ n < 10) : decB n = decB (n / 10) ++ [byteOf (48 + n % 10)] := by rw [decB, dif_neg h]

/-- What figures tell. -/
def valB (s : List UInt8) : Nat := s.foldl (fun n c => 10 * n + (c.toNat - 48)) 0
theorem valB_snoc (s : List UInt8) (c : UInt8) : valB (s ++ [c]) = 10 * valB s + (c.toNat - 48) := by simp [valB, List.foldl_append]
theorem valB_nil : valB [] = 0 := rfl

/-- The number that a text tells in decimals: at most six figures, no needless zero. -/
def decL (s : List UInt8) : Option Nat :=
  if 1 ≤ s.length ∧ s.length ≤ 6 ∧ s.all isDig = true ∧ (s.head? ≠ some 48 ∨ s.length = 1) then some (valB s) else none

theorem snoc_cases {α : Type} (s : List α) : s = [] ∨ ∃ t c, s = t ++ [c] := by
  rcases s.eq_nil_or_concat with h | ⟨t, c, h⟩
  · exact .inl h
  · exact .inr ⟨t, c, by simpa using h⟩

theorem valB_lt : ∀ (k : Nat) (s : List UInt8), s.length = k → s.all isDig = true → valB s < 10 ^ k
  | 0, s, h, _ => by
    obtain rfl := List.eq_nil_of_length_eq_zero h
    simp [valB]
  | k + 1, s, h, ha => by
    rcases snoc_cases s with rfl | ⟨t, c, rfl⟩
    · simp at h
    · simp at h
      simp only [List.all_append, Bool.and_eq_true, List.all_cons, List.all_nil, Bool.and_true] at ha
      have ih := valB_lt k t h ha.1
      have hc := isDig_iff.1 ha.2
      rw [valB_snoc, Nat.pow_succ]
      omega

theorem valB_pos : ∀ (k : Nat) (s : List UInt8), s.length = k → s ≠ [] → s.all isDig = true → s.head? ≠ some 48 → 0 < valB s
  | 0, s, h, hn, _, _ => absurd (List.eq_nil_of_length_eq_zero h) hn
  | k + 1, s, h, hn, ha, hh => by
    rcases snoc_cases s with rfl | ⟨t, c, rfl⟩
    · exact absurd rfl hn
    · simp at h
      simp only [List.all_append, Bool.and_eq_true, List.all_cons, List.all_nil, Bool.and_true] at ha
      have hc := isDig_iff.1 ha.2
      rw [valB_snoc]
      by_cases ht : t = []
      · subst ht
        simp at hh
        have : c.toNat ≠ 48 := fun e => hh (UInt8.toNat_inj.1 e)
        omega
      · have hh' : t.head? ≠ some 48 := by
          cases t with
          | nil => exact absurd rfl ht
          | cons a t => simpa using hh
        have := valB_pos k t h ht ha.1 hh'
        omega

theorem decB_valB : ∀ (k : Nat) (s : List UInt8), s.length = k → s ≠ [] → s.all isDig = true → (s.head? ≠ some 48 ∨ s.length = 1) → decB (valB s) = s
  | 0, s, h, hn, _, _ => absurd (List.eq_nil_of_length_eq_zero h) hn
  | k + 1, s, h, hn, ha, hh => by
    rcases snoc_cases s with rfl | ⟨t, c, rfl⟩
    · exact absurd rfl hn
    · simp at h
      simp only [List.all_append, Bool.and_eq_true, List.all_cons, List.all_nil, Bool.and_true] at ha
      have hc := isDig_iff.1 ha.2
      have hc2 : byteOf (48 + (c.toNat - 48)) = c := by
        apply UInt8.toNat_inj.1
        rw [byteOf_toNat (by omega)]; omega
      rw [valB_snoc]
      by_cases ht : t = []
      · subst ht
        rw [valB_nil, decB_small (by omega)]
        simp [hc2]
      · have hl : 0 < t.length := List.length_pos_iff.2 ht
        have hh1 : t.head? ≠ some 48 := by
          cases t with
          | nil => exact absurd rfl ht
          | cons a t => rcases hh with hh | hh <;> simp at hh ⊢ <;> first | exact hh | omega
        have hp := valB_pos t.length t rfl ht ha.1 hh1
        have ih := decB_valB k t h ht ha.1 (.inl hh1)
        rw [decB_step (by omega)]
        have e1 : (10 * valB t + (c.toNat - 48)) / 10 = valB t := by omega
        have e2 : (10 * valB t + (c.toNat - 48)) % 10 = c.toNat - 48 := by omega
        rw [e1, e2, ih, hc2]

theorem decB_facts : ∀ (k n : Nat), n ≤ k → decB n ≠ [] ∧ (decB n).all isDig = true ∧ valB (decB n) = n ∧ ((decB n).head? ≠ some 48 ∨ n = 0) ∧ (n < 10 → (decB n).length = 1) ∧ (10 ≤ n → 2 ≤ (decB n).length)
  | 0, n, h => by
    obtain rfl : n = 0 := by omega
    rw [decB_small (by omega)]
    refine ⟨by simp, by decide, by decide, .inr rfl, fun _ => rfl, fun h => by omega⟩
  | k + 1, n, h => by
    by_cases hn : n < 10
    · rw [decB_small hn]
      have e : (byteOf (48 + n)).toNat = 48 + n := byteOf_toNat (by omega)
      refine ⟨by simp, by simp [isDig_iff, e]; omega, ?_, ?_, fun _ => rfl, fun h => by omega⟩
      · show 10 * 0 + ((byteOf (48 + n)).toNat - 48) = n
        omega
      · by_cases h0 : n = 0
        · exact .inr h0
        · refine .inl ?_
          intro hh
          simp at hh
          have := congrArg UInt8.toNat hh
          rw [e] at this
          have h48 : (48 : UInt8).toNat = 48 := rfl
          omega
    · obtain ⟨i1, i2, i3, i4, _, _⟩ := decB_facts k (n / 10) (by omega)
      have e : (byteOf (48 + n % 10)).toNat = 48 + n % 10 := byteOf_toNat (by omega)
      have hl : 0 < (decB (n / 10)).length := List.length_pos_iff.2 i1
      rw [decB_step hn]
      refine ⟨by simp, ?_, ?_, ?_, fun h => absurd h hn, fun _ => by simp; omega⟩
      · simp only [List.all_append, Bool.and_eq_true, List.all_cons, List.all_nil, Bool.and_true]
        exact ⟨i2, isDig_iff.2 (by omega)⟩
      · rw [valB_snoc, i3, e]; omega
      · refine .inl ?_
        have e1 : (decB (n / 10) ++ [byteOf (48 + n % 10)]).head? = (decB (n / 10)).head? := by
          cases hd : decB (n / 10) with
          | nil => exact absurd hd i1
          | cons a t => rfl
        rw [e1]
        rcases i4 with h | h
        · exact h
        · omega

theorem decB_ne (n : Nat) : decB n ≠ [] := (decB_facts n n (Nat.le_refl _)).1
theorem decB_dig (n : Nat) : (decB n).all isDig = true := (decB_facts n n (Nat.le_refl _)).2.1
theorem valB_decB (n : Nat) : valB (decB n) = n := (decB_facts n n (Nat.le_refl _)).2.2.1
theorem decB_head (n : Nat) : (decB n).head? ≠ some 48 ∨ (decB n).length = 1 := by
  obtain ⟨_, _, _, h4, h5, _⟩ := decB_facts n n (Nat.le_refl _)
  rcases h4 with h | h
  · exact .inl h
  · exact .inr (h5 (by omega))
theorem decB_inj {m n : Nat} (h : decB m = decB n) : m = n := by rw [← valB_decB m, h, valB_decB]

theorem decB_len : ∀ (k n : Nat), n < 10 ^ (k + 1) → (decB n).length ≤ k + 1
  | 0, n, h => by rw [decB_small (by simpa using h)]; simp
  | k + 1, n, h => by
    by_cases hn : n < 10
    · rw [decB_small hn]; simp
    · rw [decB_step hn]
      have := decB_len k (n / 10) (by rw [Nat.pow_succ] at h; omega)
      simp; omega

theorem decL_some {s : List UInt8} {n : Nat} : decL s = some n ↔ n ≤ 999999 ∧ s = decB n := by
  unfold decL
  constructor
  · intro h
    split at h
    · rename_i hc
      obtain ⟨h1, h2, h3, h4⟩ := hc
      injection h with h
      have hn : s ≠ [] := List.length_pos_iff.1 (by omega)
      have hv := valB_lt s.length s rfl h3
      have hle : 10 ^ s.length ≤ 10 ^ 6 := Nat.pow_le_pow_right (by omega) h2
      have e6 : 10 ^ 6 = 1000000 := rfl
      refine ⟨by omega, ?_⟩
      rw [← h]
      exact (decB_valB s.length s rfl hn h3 h4).symm
    · cases h
  · rintro ⟨h1, rfl⟩
    have hl := decB_len 5 n (by have e6 : 10 ^ (5 + 1) = 1000000 := rfl; omega)
    have hp : 0 < (decB n).length := List.length_pos_iff.2 (decB_ne n)
    rw [if_pos ⟨by omega, by omega, decB_dig n, decB_head n⟩, valB_decB]

/-! ### kinds -/
/-- A kind that has been read: its signs, and a letter, or the name of a type. -/
structure Kd where
  signs : List UInt8
  base : List UInt8
  name : List UInt8
deriving DecidableEq

def isSign (c : UInt8) : Bool := c == 91 || c == 63
/-- A kind without its signs, as text. -/
def coreB (k : Kd) : List UInt8 := if k.base = [64] then 64 :: (k.name ++ [59]) else k.base
def kdB (k : Kd) : List UInt8 := k.signs ++ coreB k
def Kd.nil : Kd := ⟨[], [], []⟩
/-- The kind behind the first sign. -/
def Kd.part (k : Kd) : Kd := { k with signs := k.signs.tail }
def Kd.core (k : Kd) : Kd := { k with signs := [] }

/-- The base of a kind is a letter, or the name of a type. -/
def baseOk (k : Kd) : Prop := (k.base = [64] ∧ nameOk k.name = true) ∨ ((k.base = [110] ∨ k.base = [116] ∨ k.base = [102]) ∧ k.name = [])
def kdOk (k : Kd) : Prop := k.signs.all isSign = true ∧ baseOk k ∧ (kdB k).length ≤ 12

theorem core_head {k : Kd} (h : baseOk k) : ∃ c t, coreB k = c :: t ∧ isSign c = false := by
  unfold coreB
  rcases h with ⟨h, _⟩ | ⟨h | h | h, _⟩
  · rw [if_pos h]; exact ⟨64, _, rfl, by decide⟩
  · rw [h, if_neg (by decide)]; exact ⟨110, [], rfl, by decide⟩
  · rw [h, if_neg (by decide)]; exact ⟨116, [], rfl, by decide⟩
  · rw [h, if_neg (by decide)]; exact ⟨102, [], rfl, by decide⟩

theorem takeWhile_app {p : UInt8 → Bool} : ∀ {a b : List UInt8}, a.all p = true → (∃ c t, b = c :: t ∧ p c = false) → (a ++ b).takeWhile p = a ∧ (a ++ b).dropWhile p = b
  | [], b, _, ⟨c, t, e, h⟩ => by subst e; simp [h]
  | x :: a, b, ha, hb => by
    simp only [List.all_cons, Bool.and_eq_true] at ha
    have ih := takeWhile_app ha.2 hb
    simp [ha.1, ih.1, ih.2]

theorem takeWhile_all {p : UInt8 → Bool} : ∀ (a : List UInt8), (a.takeWhile p).all p = true
  | [] => rfl
  | x :: a => by
    by_cases h : p x = true
    · simp [h]
    · simp [h]

/-- What a text tells as a kind. -/
def kindL (s : List UInt8) : Option Kd :=
  if 12 < s.length then none
  else if s.dropWhile isSign = [110] ∨ s.dropWhile isSign = [116] ∨ s.dropWhile isSign = [102] then some ⟨s.takeWhile isSign, s.dropWhile isSign, []⟩
  else if (s.dropWhile isSign).head? = some 64 ∧ (s.dropWhile isSign).getLast? = some 59 ∧ nameOk ((s.dropWhile isSign).drop 1).dropLast = true then some ⟨s.takeWhile isSign, [64], ((s.dropWhile isSign).drop 1).dropLast⟩
  else none

theorem ends_at {r : List UInt8} (h1 : r.head? = some 64) (h2 : r.getLast? = some 59) : r = 64 :: ((r.drop 1).dropLast ++ [59]) := by
  cases r with
  | nil => simp at h1
  | cons a t =>
    simp at h1
    subst h1
    rcases snoc_cases t with rfl | ⟨u, c, rfl⟩
    · simp at h2
    · have : c = 59 := by
        rw [show (64 : UInt8) :: (u ++ [c]) = (64 :: u) ++ [c] from rfl, List.getLast?_append] at h2
        simpa using h2
      subst this
      simp

theorem kindL_some {s : List UInt8} {k : Kd} : kindL s = some k ↔ kdOk k ∧ kdB k = s := by
  have htd : s.takeWhile isSign ++ s.dropWhile isSign = s := List.takeWhile_append_dropWhile
  constructor
  · intro h
    unfold kindL at h
    split at h
    · cases h
    · rename_i h12
      split at h
      · rename_i hb
        injection h with h
        subst h
        have hcore : coreB ⟨s.takeWhile isSign, s.dropWhile isSign, []⟩ = s.dropWhile isSign := by
          unfold coreB
          rw [if_neg]
          rcases hb with h | h | h <;> · show ¬ s.dropWhile isSign = _; rw [h]; decide
        have e : kdB ⟨s.takeWhile isSign, s.dropWhile isSign, []⟩ = s := by unfold kdB; rw [hcore]; exact htd
        exact ⟨⟨takeWhile_all s, .inr ⟨hb, rfl⟩, by rw [e]; omega⟩, e⟩
      · split at h
        · rename_i hb
          injection h with h
          subst h
          have e1 := ends_at hb.1 hb.2.1
          have e : kdB ⟨s.takeWhile isSign, [64], ((s.dropWhile isSign).drop 1).dropLast⟩ = s := by
            unfold kdB coreB
            rw [if_pos rfl]
            show s.takeWhile isSign ++ 64 :: (((s.dropWhile isSign).drop 1).dropLast ++ [59]) = s
            rw [← e1]; exact htd
          exact ⟨⟨takeWhile_all s, .inl ⟨rfl, hb.2.2⟩, by rw [e]; omega⟩, e⟩
        · cases h
  · rintro ⟨⟨h1, h2, h3⟩, rfl⟩
    obtain ⟨e1, e2⟩ := takeWhile_app h1 (core_head h2)
    unfold kindL
    rw [if_neg (by omega)]
    show (if (k.signs ++ coreB k).dropWhile isSign = [110] ∨ _ then _ else _) = _
    unfold kdB
    rw [e1, e2]
    obtain ⟨sg, b, nm⟩ := k
    rcases h2 with ⟨h, hn⟩ | ⟨h, hn⟩
    · simp only at h hn
      subst h
      unfold coreB
      simp only [if_pos]
      rw [if_neg (by simp), if_pos]
      · simp
      · refine ⟨rfl, ?_, by simpa using hn⟩
        rw [show (64 : UInt8) :: (nm ++ [59]) = (64 :: nm) ++ [59] from rfl, List.getLast?_append]; rfl
    · simp only at h hn
      subst hn
      have hc : coreB ⟨sg, b, []⟩ = b := by
        unfold coreB
        rw [if_neg]
        rcases h with h | h | h <;> · show ¬ b = _; rw [h]; decide
      rw [hc, if_pos h]

theorem kdB_inj {k m : Kd} (hk : kdOk k) (hm : kdOk m) (h : kdB k = kdB m) : k = m := by
  have h1 := kindL_some.2 ⟨hk, rfl⟩
  have h2 := kindL_some.2 ⟨hm, h.symm⟩
  rw [h1] at h2
  injection h2

theorem part_ok {k : Kd} (h : kdOk k) : kdOk k.part ∧ (k.signs ≠ [] → kdB k.part = (kdB k).tail ∧ (kdB k.part).length + 1 = (kdB k).length) := by
  obtain ⟨h1, h2, h3⟩ := h
  obtain ⟨sg, b, nm⟩ := k
  have hc : ∀ g, coreB ⟨g, b, nm⟩ = coreB ⟨sg, b, nm⟩ := fun g => rfl
  cases sg with
  | nil => exact ⟨⟨h1, h2, h3⟩, fun h => absurd rfl h⟩
  | cons c t =>
    simp only [List.all_cons, Bool.and_eq_true] at h1
    have e : kdB (Kd.part ⟨c :: t, b, nm⟩) = (kdB ⟨c :: t, b, nm⟩).tail := rfl
    have el : (kdB (Kd.part ⟨c :: t, b, nm⟩)).length + 1 = (kdB ⟨c :: t, b, nm⟩).length := rfl
    exact ⟨⟨h1.2, h2, by omega⟩, fun _ => ⟨e, el⟩⟩
end Go.Proofs.YtcjfgbcdlcdeaaaDoor
/- Names and kinds of the reference: l6In, l2Name, KindOk, l2Core, l2Ref. -/
namespace Go.Proofs.YtcjfgbcdlcdeaaaDoor
open Go.RowKit
set_option maxRecDepth 100000
set_option linter.unusedVariables false
attribute [local go_sem] ba_get ba_toList ba_extract take_drop_all ByteArray.mk_append_mk

theorem byte_ne {c d : UInt8} (h : c ≠ d) : ((c.toNat : Int) == (d.toNat : Int)) = false := by
  rw [beq_eq_false_iff_ne]; intro e; exact h (UInt8.toNat_inj.1 (by omega))
theorem byte_eq {c d : UInt8} (h : c = d) : ((c.toNat : Int) == (d.toNat : Int)) = true := by rw [h]; simp

theorem l6In_any (n a b : Int) (w : World) :
    Calls Tryd.prog 54 #[.int .i64 n, .int .i64 a, .int .i64 b] w fun e w' => e = .returned (.bool (decide (a ≤ n) && decide (n ≤ b))) ∧ w = w' := by
  go_enter Tryd.func54, Tryd.ntmps54
  by_cases h1 : a ≤ n
  · have t1 : decide (a ≤ n) = true := by simpa using h1
    rw [t1]
    go_wp2
    go_ret
    exact ⟨rfl, rfl⟩
  · have t1 : decide (a ≤ n) = false := by simpa using h1
    rw [t1]
    go_wp2
    go_ret
    exact ⟨rfl, rfl⟩

set_option maxHeartbeats 400000 in
theorem l2Name_any (s : List UInt8) (w : World) (hs : s.length ≤ 9223372036854775807) :
    Calls Tryd.prog 40 #[.string ⟨s.toArray⟩] w fun e w' => e = .returned (.bool (nameOk s)) ∧ w = w' := by
  go_enter Tryd.func40, Tryd.ntmps40
  go_wp2
  go_loop [3] (fun i => ∃ k : Nat, k ≤ s.length ∧ i = .int .i64 k ∧ Hid (∀ c ∈ s.take k, isLow c = true)) (fun i => s.length - (intOf i).toNat)
  case atStart => exact ⟨0, Nat.zero_le _, rfl, by intro c hc; simp at hc⟩
  case round =>
    obtain ⟨k, hk, rfl, hin⟩ := hrel
    by_cases hlt : k < s.length
    · have hc : (s[k]).toNat < 256 := (s[k]).toNat_lt
      have Hts := Lib.hid (take_snoc s k hlt)
      have Hm := Lib.hid (List.getElem_mem hlt)
      by_cases h1 : isLow s[k] = true
      · have h2 := isLow_iff.1 h1
        obtain ⟨h3, h4⟩ := h2
        have H1 := Lib.hid h1
        clear h1
        go_wp2
        go_round
        case rel =>
          refine ⟨k + 1, by omega, by go_num, ?_⟩
          intro c hc
          rw [Hts.out] at hc
          rcases List.mem_append.1 hc with hc | hc
          · exact hin.out c hc
          · simp at hc; subst hc; exact H1.out
        case measure => simp [intOf]; omega
      · have hno : nameOk s = false := by
          cases hh : nameOk s with
          | false => rfl
          | true => exact absurd ((nameOk_iff.1 hh).2.2 _ Hm.out) h1
        have Hno := Lib.hid hno
        have h2 : (s[k]).toNat < 97 ∨ 122 < (s[k]).toNat := by
          rcases Nat.lt_or_ge (s[k]).toNat 97 with h | h
          · exact .inl h
          · rcases Nat.lt_or_ge 122 (s[k]).toNat with h' | h'
            · exact .inr h'
            · exact absurd (isLow_iff.2 ⟨h, h'⟩) h1
        clear h1 hno
        rcases h2 with h2 | h2
        · go_wp2
          go_ret
          exact ⟨ret1 (vbool Hno.out.symm), rfl⟩
        · have h3 : 97 ≤ (s[k]).toNat := by omega
          go_wp2
          go_ret
          exact ⟨ret1 (vbool Hno.out.symm), rfl⟩
    · have hfin : (decide ((1 : Int) ≤ (s.length : Int)) && decide ((s.length : Int) ≤ 3)) = nameOk s := by
        have hall : s.all isLow = true := List.all_eq_true.2 (fun c hc => hin.out c (by rw [List.take_of_length_le (by omega)]; exact hc))
        unfold nameOk
        rw [hall, Bool.and_true]
        congr 1 <;> · rw [decide_eq_decide]; omega
      have Hfin := Lib.hid hfin
      clear hfin
      go_wp2_with fail
      refine (l6In_any _ _ _ _).mono ?_
      rintro e w' ⟨rfl, rfl⟩
      go_wp2_with fail
      go_ret
      exact ⟨ret1 (vbool Hfin.out), rfl⟩

/-- A kind by its first byte. -/
theorem kindL_sign (c : UInt8) (t : List UInt8) (hc : isSign c = true) : (kindL (c :: t)).isSome = (decide (t.length < 12) && (kindL t).isSome) := by
  unfold kindL
  simp only [List.dropWhile_cons, List.takeWhile_cons, hc, if_true]
  by_cases h : 12 < (c :: t).length
  · rw [if_pos h]
    simp at h
    have : ¬ t.length < 12 := by omega
    simp [this]
  · rw [if_neg h]
    simp at h
    have h2 : ¬ 12 < t.length := by omega
    have : t.length < 12 := by omega
    rw [if_neg h2]
    simp only [this, decide_true, Bool.true_and]
    by_cases h3 : t.dropWhile isSign = [110] ∨ t.dropWhile isSign = [116] ∨ t.dropWhile isSign = [102]
    · rw [if_pos h3, if_pos h3]; rfl
    · rw [if_neg h3, if_neg h3]
      by_cases h4 : (t.dropWhile isSign).head? = some 64 ∧ (t.dropWhile isSign).getLast? = some 59 ∧ nameOk ((t.dropWhile isSign).drop 1).dropLast = true
      · rw [if_pos h4, if_pos h4]; rfl
      · rw [if_neg h4, if_neg h4]
theorem kindL_at (t : List UInt8) : (kindL (64 :: t)).isSome = (decide (t.length < 12) && decide ((64 :: t).getLast? = some 59) && nameOk t.dropLast) := by
  unfold kindL
  have h64 : isSign 64 = false := by decide
  simp only [List.dropWhile_cons, List.takeWhile_cons, h64]
  by_cases h : 12 < (64 :: t).length
  · rw [if_pos h]
    simp at h
    have : ¬ t.length < 12 := by omega
    simp [this]
  · rw [if_neg h]
    simp at h
    have : t.length < 12 := by omega
    simp [this]
    split
    · rename_i hh; simp [hh]
    · rename_i hh
      simp only [Option.isSome_none]
      cases hn : nameOk t.dropLast with
      | false => simp
      | true => simp [hn] at hh; simp [hh]
theorem kindL_other (c : UInt8) (t : List UInt8) (h1 : isSign c = false) (h2 : c ≠ 64) : (kindL (c :: t)).isSome = (decide (c :: t = [110]) || decide (c :: t = [116]) || decide (c :: t = [102])) := by
  unfold kindL
  simp only [List.dropWhile_cons, List.takeWhile_cons, h1]
  by_cases h : 12 < (c :: t).length
  · rw [if_pos h]
    simp at h
    have e : t ≠ [] := by rintro rfl; simp at h
    simp [e]
  · rw [if_neg h]
    by_cases h3 : c :: t = [110] ∨ c :: t = [116] ∨ c :: t = [102]
    · simp only [Bool.false_eq_true, if_false]
      rw [if_pos h3]
      rcases h3 with h3 | h3 | h3 <;> simp [h3]
    · simp only [Bool.false_eq_true, if_false]
      rw [if_neg h3, if_neg (by simp [h2])]
      simp only [not_or] at h3
      simp [h3]

set_option maxHeartbeats 400000 in
theorem KindOk_any : ∀ (n : Nat) (s : List UInt8) (w : World), s.length ≤ n → s.length ≤ 9223372036854775807 →
    Calls Tryd.prog 33 #[.string ⟨s.toArray⟩] w fun e w' => e = .returned (.bool (kindL s).isSome) ∧ w = w' := by
  intro n
  induction n with
  | zero =>
    intro s w hn hs
    obtain rfl : s = [] := List.eq_nil_of_length_eq_zero (by omega)
    go_enter Tryd.func33, Tryd.ntmps33
    go_wp2_with fail
    go_ret
    exact ⟨rfl, rfl⟩
  | succ n ih =>
    intro s w hn hs
    have Ih := Lib.hid ih
    clear ih
    by_cases h12 : 12 < s.length
    · have Hf := Lib.hid (show (kindL s).isSome = false by unfold kindL; rw [if_pos h12]; rfl)
      go_enter Tryd.func33, Tryd.ntmps33
      go_wp2_with fail
      go_ret
      exact ⟨ret1 (vbool Hf.out.symm), rfl⟩
    · cases s with
      | nil =>
        go_enter Tryd.func33, Tryd.ntmps33
        go_wp2_with fail
        go_ret
        exact ⟨rfl, rfl⟩
      | cons c t =>
        have hlt : t.length < 12 := by simp at h12; omega
        have hn' : t.length ≤ n := by simp at hn; omega
        have hc := c.toNat_lt
        by_cases h91 : c = 91
        · have Hf := Lib.hid (show (kindL (c :: t)).isSome = (kindL t).isSome by rw [kindL_sign c t (by rw [h91]; decide)]; simp [hlt])
          have e1 : c.toNat = 91 := by rw [h91]; rfl
          have t1 : ((c.toNat : Int) == 91) = true := by simp [e1]
          clear h91 e1
          go_enter Tryd.func33, Tryd.ntmps33
          go_wp2_with fail
          refine (Ih.out t _ hn' (by omega)).mono ?_
          rintro e w' ⟨rfl, rfl⟩
          go_wp2_with fail
          go_ret
          exact ⟨ret1 (vbool Hf.out.symm), rfl⟩
        · have t1 : ((c.toNat : Int) == 91) = false := byte_ne h91
          by_cases h63 : c = 63
          · have Hf := Lib.hid (show (kindL (c :: t)).isSome = (kindL t).isSome by rw [kindL_sign c t (by rw [h63]; decide)]; simp [hlt])
            have e1 : c.toNat = 63 := by rw [h63]; rfl
            have t2 : ((c.toNat : Int) == 63) = true := by simp [e1]
            clear h63 h91 e1
            go_enter Tryd.func33, Tryd.ntmps33
            go_wp2_with fail
            refine (Ih.out t _ hn' (by omega)).mono ?_
            rintro e w' ⟨rfl, rfl⟩
            go_wp2_with fail
            go_ret
            exact ⟨ret1 (vbool Hf.out.symm), rfl⟩
          · have t2 : ((c.toNat : Int) == 63) = false := byte_ne h63
            by_cases h64 : c = 64
            · have e1 : c.toNat = 64 := by rw [h64]; rfl
              have t3 : ((c.toNat : Int) == 64) = true := by simp [e1]
              rcases snoc_cases t with rfl | ⟨u, d, rfl⟩
              · have Hf := Lib.hid (show (kindL [c]).isSome = false by rw [h64]; decide)
                have t4 : ((c.toNat : Int) == 59) = false := by simp [e1]
                clear h64 h63 h91 e1
                go_enter Tryd.func33, Tryd.ntmps33
                go_wp2_with fail
                go_ret
                exact ⟨ret1 (vbool Hf.out.symm), rfl⟩
              · have hk := kindL_at (u ++ [d])
                have hl : (c :: (u ++ [d])).getLast? = some d := by
                  rw [show c :: (u ++ [d]) = (c :: u) ++ [d] from rfl, List.getLast?_append]; rfl
                rw [← h64, hl, List.dropLast_concat] at hk
                have hd := d.toNat_lt
                simp at hlt
                have hgd : ∀ h, (c :: (u ++ [d]))[u.length + 1]'h = d := by
                  intro h; simp
                have hsl : (List.take u.length (u ++ [d])) = u := by simp
                by_cases h59 : d = 59
                · have e2 : d.toNat = 59 := by rw [h59]; rfl
                  have t4 : ((d.toNat : Int) == 59) = true := by simp [e2]
                  have Hf := Lib.hid (show (kindL (c :: (u ++ [d]))).isSome = nameOk u by rw [hk, h59]; simp; omega)
                  clear h64 h63 h91 e1 hk hl h59 e2
                  go_enter Tryd.func33, Tryd.ntmps33
                  go_wp2_with fail
                  refine (l2Name_any u _ (by omega)).mono ?_
                  rintro e w' ⟨rfl, rfl⟩
                  go_wp2_with fail
                  go_ret
                  exact ⟨ret1 (vbool Hf.out.symm), rfl⟩
                · have t4 : ((d.toNat : Int) == 59) = false := byte_ne h59
                  have Hf := Lib.hid (show (kindL (c :: (u ++ [d]))).isSome = false by rw [hk]; simp [h59])
                  clear h64 h63 h91 e1 hk hl h59
                  go_enter Tryd.func33, Tryd.ntmps33
                  go_wp2_with fail
                  go_ret
                  exact ⟨ret1 (vbool Hf.out.symm), rfl⟩
            · have t3 : ((c.toNat : Int) == 64) = false := byte_ne h64
              have hk := kindL_other c t (by simp [isSign, h91, h63]) h64
              have Hk := Lib.hid hk
              clear hk h64 h63 h91
              cases t with
              | cons x t =>
                have hl2 : t.length + 1 + 1 ≤ 12 := by simp at hlt; omega
                have Hf := Lib.hid (show (kindL (c :: x :: t)).isSome = false by rw [Hk.out]; simp)
                clear Hk
                go_enter Tryd.func33, Tryd.ntmps33
                go_wp2_with fail
                all_goals
                  go_ret
                  exact ⟨ret1 (vbool (by rw [Hf.out])), rfl⟩
              | nil =>
                by_cases g1 : c = 110
                · subst g1
                  go_enter Tryd.func33, Tryd.ntmps33
                  go_wp2_with fail
                  go_ret
                  exact ⟨rfl, rfl⟩
                · by_cases g2 : c = 116
                  · subst g2
                    go_enter Tryd.func33, Tryd.ntmps33
                    go_wp2_with fail
                    go_ret
                    exact ⟨rfl, rfl⟩
                  · by_cases g3 : c = 102
                    · subst g3
                      go_enter Tryd.func33, Tryd.ntmps33
                      go_wp2_with fail
                      go_ret
                      exact ⟨rfl, rfl⟩
                    · have Hf := Lib.hid (show (kindL [c]).isSome = false by rw [Hk.out]; simp [g1, g2, g3])
                      go_enter Tryd.func33, Tryd.ntmps33
                      go_wp2_with fail
                      go_ret
                      exact ⟨ret1 (vbool (by rw [Hf.out]; simp [g1, g2, g3])), rfl⟩

/-- The length of a string in a slot: a loop's measure. -/
def strLen : Value → Nat
  | .string b => b.size
  | _ => 0
theorem strLen_mk (l : List UInt8) : strLen (.string ⟨l.toArray⟩) = l.length := rfl

set_option maxHeartbeats 400000 in
/-- The part of a kind behind its signs. -/
theorem l2Core_any (k : Kd) (w : World) (hk : k.signs.all isSign = true) (hb : ∃ c t, coreB k = c :: t ∧ isSign c = false) (hs : (kdB k).length ≤ 9223372036854775807) :
    Calls Tryd.prog 35 #[.string ⟨(kdB k).toArray⟩] w fun e w' => e = .returned (.string ⟨(coreB k).toArray⟩) ∧ w = w' := by
  obtain ⟨d, u, hcu, hd⟩ := hb
  have hlen : (kdB k).length = k.signs.length + (u.length + 1) := by unfold kdB; rw [hcu]; simp
  unfold kdB
  rw [hcu]
  generalize k.signs = g at hk hlen
  clear hcu
  have hd1 : d ≠ 91 := by rintro rfl; revert hd; decide
  have hd2 : d ≠ 63 := by rintro rfl; revert hd; decide
  have d1 : ((d.toNat : Int) == 91) = false := byte_ne hd1
  have d2 : ((d.toNat : Int) == 63) = false := byte_ne hd2
  have hdl := d.toNat_lt
  clear hd hd1 hd2
  have hs2 : g.length + u.length + 1 ≤ 9223372036854775807 := by omega
  have Hk := Lib.hid (List.all_eq_true.1 hk)
  clear hs hlen hk
  go_enter Tryd.func35, Tryd.ntmps35
  go_wp2_with fail
  go_loop [0] (fun x => ∃ k : Nat, k ≤ g.length ∧ x = .string ⟨(g.drop k ++ d :: u).toArray⟩) (fun x => strLen x)
  case atStart => exact ⟨0, Nat.zero_le _, rfl⟩
  case round =>
    obtain ⟨k, hk, rfl⟩ := hrel
    by_cases hlt : k < g.length
    · have hdr : g.drop k = g[k] :: g.drop (k + 1) := List.drop_eq_getElem_cons hlt
      have hl3 : (g.drop (k + 1)).length ≤ g.length := by simp
      have hsg := Hk.out _ (List.getElem_mem hlt)
      have hc := (g[k]).toNat_lt
      rw [hdr]
      generalize g[k] = c at hsg hc
      have hsg2 : c = 91 ∨ c = 63 := by simpa [isSign] using hsg
      have Hd := Lib.hid hdr
      clear hsg hdr
      rcases hsg2 with h91 | h63
      · have t1 : ((c.toNat : Int) == 91) = true := byte_eq h91
        clear h91
        go_wp2_with fail
        go_round
        case rel => exact ⟨k + 1, by omega, vstr (List.take_of_length_le (by simp))⟩
        case measure => rw [strLen_mk, strLen_mk]; simp
      · have t1 : ((c.toNat : Int) == 91) = false := byte_ne (d := 91) (by rw [h63]; decide)
        have t2 : ((c.toNat : Int) == 63) = true := byte_eq h63
        clear h63
        go_wp2_with fail
        go_round
        case rel => exact ⟨k + 1, by omega, vstr (List.take_of_length_le (by simp))⟩
        case measure => rw [strLen_mk, strLen_mk]; simp
    · rw [List.drop_of_length_le (by omega), List.nil_append]
      go_wp2_with fail
      go_ret
      exact ⟨rfl, rfl⟩

/-- The name of a kind that begins with @. -/
theorem l2Ref_yes (nm : List UInt8) (w : World) (hn : nm.length ≤ 1000) :
    Calls Tryd.prog 34 #[.string ⟨(64 :: (nm ++ [59])).toArray⟩] w fun e w' => e = .returned (.tuple #[.string ⟨nm.toArray⟩, .bool true]) ∧ w = w' := by
  have h1 : (nm ++ [59]).take nm.length = nm := by simp
  go_enter Tryd.func34, Tryd.ntmps34
  go_wp2_with fail
  go_ret2
  exact ⟨rfl, rfl⟩
theorem l2Ref_no (c : UInt8) (t : List UInt8) (w : World) (hc : c ≠ 64) (hn : t.length ≤ 1000) :
    Calls Tryd.prog 34 #[.string ⟨(c :: t).toArray⟩] w fun e w' => e = .returned (.tuple #[.string ⟨#[]⟩, .bool false]) ∧ w = w' := by
  have t1 : ((c.toNat : Int) != 64) = true := by
    have := byte_ne hc
    rw [bne_iff_ne]; intro e
    have h64 : ((64 : UInt8).toNat : Int) = 64 := rfl
    rw [beq_eq_false_iff_ne, h64] at this
    exact this e
  clear hc
  go_enter Tryd.func34, Tryd.ntmps34
  go_wp2_with fail
  go_ret2
  exact ⟨rfl, rfl⟩
end Go.Proofs.YtcjfgbcdlcdeaaaDoor
/- Plain laws of cutting and joining, and of the fields of a schema. No program in sight. -/
namespace Go.Proofs.YtcjfgbcdlcdeaaaDoor

/-! ### cutting at a byte -/
/-- A text cut at each byte c. -/
def splitL (c : UInt8) : List UInt8 → List (List UInt8)
  | [] => [[]]
  | x :: s => if x = c then [] :: splitL c s else match splitL c s with
    | p :: ps => (x :: p) :: ps
    | [] => [[x]]
/-- Texts joined by a byte. -/
def joinL (c : UInt8) : List (List UInt8) → List UInt8
  | [] => []
  | [p] => p
  | p :: ps => p ++ c :: joinL c ps

theorem splitL_ne (c : UInt8) (s : List UInt8) : splitL c s ≠ [] := by
  cases s with
  | nil => simp [splitL]
  | cons x s =>
    simp only [splitL]
    split
    · simp
    · split <;> simp
theorem joinL_cons (c : UInt8) (p : List UInt8) {ps : List (List UInt8)} (h : ps ≠ []) : joinL c (p :: ps) = p ++ c :: joinL c ps := by
  cases ps with
  | nil => exact absurd rfl h
  | cons q ps => rfl
theorem joinL_split (c : UInt8) : ∀ s : List UInt8, joinL c (splitL c s) = s
  | [] => rfl
  | x :: s => by
    have ih := joinL_split c s
    have hn := splitL_ne c s
    simp only [splitL]
    split
    · rename_i h
      rw [joinL_cons c _ hn, ih, h]; rfl
    · cases hs : splitL c s with
      | nil => exact absurd hs hn
      | cons p ps =>
        rw [hs] at ih
        cases ps with
        | nil => simpa [joinL] using ih
        | cons q ps =>
          rw [joinL_cons c _ (by simp)] at ih ⊢
          simp [ih]
theorem splitL_no (c : UInt8) : ∀ s : List UInt8, ∀ p ∈ splitL c s, c ∉ p
  | [], p, hp => by simp [splitL] at hp; simp [hp]
  | x :: s, p, hp => by
    have ih := splitL_no c s
    simp only [splitL] at hp
    split at hp
    · rcases List.mem_cons.1 hp with rfl | hp
      · simp
      · exact ih p hp
    · rename_i hx
      cases hs : splitL c s with
      | nil => exact absurd hs (splitL_ne c s)
      | cons q qs =>
        rw [hs] at hp ih
        rcases List.mem_cons.1 hp with rfl | hp
        · have := ih q (by simp)
          simp; exact ⟨fun h => hx h.symm, this⟩
        · exact ih p (by simp [hp])
theorem splitL_plain (c : UInt8) : ∀ p : List UInt8, c ∉ p → splitL c p = [p]
  | [], _ => rfl
  | x :: p, h => by
    simp at h
    simp only [splitL]
    rw [if_neg (fun e => h.1 e.symm), splitL_plain c p h.2]
theorem splitL_app (c : UInt8) : ∀ (p s : List UInt8), c ∉ p → splitL c (p ++ c :: s) = p :: splitL c s
  | [], s, _ => by simp [splitL]
  | x :: p, s, h => by
    simp at h
    simp only [List.cons_append, splitL]
    rw [if_neg (fun e => h.1 e.symm), splitL_app c p s h.2]
theorem splitL_join (c : UInt8) : ∀ ps : List (List UInt8), ps ≠ [] → (∀ p ∈ ps, c ∉ p) → splitL c (joinL c ps) = ps
  | [], h, _ => absurd rfl h
  | [p], _, h => splitL_plain c p (h p (by simp))
  | p :: q :: ps, _, h => by
    rw [joinL_cons c p (by simp), splitL_app c p _ (h p (by simp)), splitL_join c (q :: ps) (by simp) (fun x hx => h x (by simp [hx]))]
theorem splitL_iff {c : UInt8} {s : List UInt8} {ps : List (List UInt8)} : splitL c s = ps ↔ ps ≠ [] ∧ (∀ p ∈ ps, c ∉ p) ∧ joinL c ps = s :=
  ⟨fun h => by subst h; exact ⟨splitL_ne c s, splitL_no c s, joinL_split c s⟩, fun ⟨h1, h2, h3⟩ => by rw [← h3]; exact splitL_join c ps h1 h2⟩
theorem splitL_len (c : UInt8) : ∀ s : List UInt8, (splitL c s).length ≤ s.length + 1
  | [] => by simp [splitL]
  | x :: s => by
    have ih := splitL_len c s
    simp only [splitL]
    split
    · simp; exact ih
    · cases hs : splitL c s with
      | nil => exact absurd hs (splitL_ne c s)
      | cons p ps => rw [hs] at ih; simp at ih ⊢; omega
theorem splitL_plen (c : UInt8) : ∀ s : List UInt8, ∀ p ∈ splitL c s, p.length ≤ s.length
  | [], p, h => by simp [splitL] at h; simp [h]
  | x :: s, p, h => by
    have ih := splitL_plen c s
    simp only [splitL] at h
    split at h
    · rcases List.mem_cons.1 h with rfl | h
      · simp
      · exact Nat.le_succ_of_le (ih p h)
    · cases hs : splitL c s with
      | nil => exact absurd hs (splitL_ne c s)
      | cons q qs =>
        rw [hs] at ih h
        rcases List.mem_cons.1 h with rfl | h
        · have := ih q (by simp); simp; exact this
        · have := ih p (by simp [h]); simp; omega

/-- A text cut once at a byte. -/
def cutL (c : UInt8) (s : List UInt8) : List UInt8 × List UInt8 × Bool :=
  if c ∈ s then (s.takeWhile (· != c), (s.dropWhile (· != c)).tail, true) else (s, [], false)
theorem cutL_no {c : UInt8} {s : List UInt8} (h : c ∉ s) : cutL c s = (s, [], false) := if_neg h
theorem cutL_app {c : UInt8} {p s : List UInt8} (h : c ∉ p) : cutL c (p ++ c :: s) = (p, s, true) := by
  unfold cutL
  rw [if_pos (by simp)]
  have h1 : p.all (fun x => x != c) = true := by
    rw [List.all_eq_true]; intro x hx
    simp; rintro rfl; exact h hx
  obtain ⟨e1, e2⟩ := takeWhile_app (p := fun x => x != c) h1 ⟨c, s, rfl, by simp⟩
  rw [e1, e2]; rfl
theorem cutL_yes {c : UInt8} : ∀ {s : List UInt8}, c ∈ s → ∃ p t, s = p ++ c :: t ∧ c ∉ p
  | x :: s, h => by
    by_cases hx : x = c
    · exact ⟨[], s, by simp [hx], by simp⟩
    · obtain ⟨p, t, e, hp⟩ := cutL_yes (s := s) (by rcases List.mem_cons.1 h with h | h; exact absurd h.symm hx; exact h)
      exact ⟨x :: p, t, by simp [e], by simp; exact ⟨fun e => hx e.symm, hp⟩⟩
theorem cutL_cases (c : UInt8) (s : List UInt8) : (c ∉ s ∧ cutL c s = (s, [], false)) ∨ ∃ p t, s = p ++ c :: t ∧ c ∉ p ∧ cutL c s = (p, t, true) := by
  by_cases h : c ∈ s
  · obtain ⟨p, t, e, hp⟩ := cutL_yes h
    exact .inr ⟨p, t, e, hp, by rw [e]; exact cutL_app hp⟩
  · exact .inl ⟨h, cutL_no h⟩

/-! ### standing values that are told -/
def isTxt (c : UInt8) : Bool := isLow c || isDig c || c == 32
/-- A text: at most twelve letters, figures and blanks. -/
def textOk (s : List UInt8) : Bool := decide (s.length ≤ 12) && s.all isTxt
/-- A text may be told as a standing value of a letter. -/
def standOk (b s : List UInt8) : Bool :=
  if b = [110] then (match decL s with | some n => decide (0 < n) | none => false)
  else if b = [116] then decide (2 < s.length) && decide (s.head? = some 39) && decide (s.getLast? = some 39) && textOk (s.drop 1).dropLast
  else if b = [102] then decide (s = [121, 101, 115]) else false

theorem quote_ends {r : List UInt8} (h : 2 < r.length) (h1 : r.head? = some 39) (h2 : r.getLast? = some 39) : r = 39 :: ((r.drop 1).dropLast ++ [39]) := by
  cases r with
  | nil => simp at h1
  | cons a t =>
    simp at h1
    subst h1
    rcases snoc_cases t with rfl | ⟨u, c, rfl⟩
    · simp at h
    · have : c = 39 := by
        rw [show (39 : UInt8) :: (u ++ [c]) = (39 :: u) ++ [c] from rfl, List.getLast?_append] at h2
        simpa using h2
      subst this
      simp

/-- The bytes of what is told hold no sign of the schema's own. -/
def plainCh (c : UInt8) : Prop := c ≠ 10 ∧ c ≠ 44 ∧ c ≠ 58 ∧ c ≠ 61
theorem plain_dig {c : UInt8} (h : isDig c = true) : plainCh c := by
  rw [isDig_iff] at h
  refine ⟨?_, ?_, ?_, ?_⟩ <;> (rintro rfl; revert h; decide)
theorem plain_low {c : UInt8} (h : isLow c = true) : plainCh c := by
  rw [isLow_iff] at h
  refine ⟨?_, ?_, ?_, ?_⟩ <;> (rintro rfl; revert h; decide)
theorem plain_txt {c : UInt8} (h : isTxt c = true) : plainCh c := by
  unfold isTxt at h
  simp only [Bool.or_eq_true] at h
  rcases h with (h | h) | h
  · exact plain_low h
  · exact plain_dig h
  · have : c = 32 := by simpa using h
    subst this; exact ⟨by decide, by decide, by decide, by decide⟩
theorem plain_sign {c : UInt8} (h : isSign c = true) : plainCh c := by
  unfold isSign at h
  simp only [Bool.or_eq_true, beq_iff_eq] at h
  rcases h with rfl | rfl <;> exact ⟨by decide, by decide, by decide, by decide⟩
theorem plain_decB (n : Nat) : ∀ c ∈ decB n, plainCh c := fun c hc => plain_dig (List.all_eq_true.1 (decB_dig n) c hc)
theorem plain_name {s : List UInt8} (h : nameOk s = true) : ∀ c ∈ s, plainCh c := fun c hc => plain_low ((nameOk_iff.1 h).2.2 c hc)
theorem plain_kind {k : Kd} (h : kdOk k) : ∀ c ∈ kdB k, plainCh c := by
  intro c hc
  obtain ⟨h1, h2, _⟩ := h
  unfold kdB coreB at hc
  rcases List.mem_append.1 hc with hc | hc
  · exact plain_sign (List.all_eq_true.1 h1 c hc)
  · rcases h2 with ⟨h, hn⟩ | ⟨h, _⟩
    · rw [if_pos h] at hc
      rcases List.mem_cons.1 hc with rfl | hc
      · exact ⟨by decide, by decide, by decide, by decide⟩
      · rcases List.mem_append.1 hc with hc | hc
        · exact plain_name hn c hc
        · simp at hc; subst hc; exact ⟨by decide, by decide, by decide, by decide⟩
    · rw [if_neg (by rcases h with h | h | h <;> · rw [h]; decide)] at hc
      rcases h with h | h | h <;> · rw [h] at hc; simp at hc; subst hc; exact ⟨by decide, by decide, by decide, by decide⟩
theorem plain_stand {b s : List UInt8} (h : standOk b s = true) : s ≠ [] ∧ ∀ c ∈ s, plainCh c := by
  unfold standOk at h
  split at h
  · cases hd : decL s with
    | none => rw [hd] at h; cases h
    | some n =>
      obtain ⟨_, e⟩ := decL_some.1 hd
      subst e
      exact ⟨decB_ne n, plain_decB n⟩
  · split at h
    · simp only [Bool.and_eq_true, decide_eq_true_eq] at h
      obtain ⟨⟨⟨h1, h2⟩, h3⟩, h4⟩ := h
      have e := quote_ends h1 h2 h3
      refine ⟨by intro hh; rw [hh] at h1; simp at h1, fun c hc => ?_⟩
      rw [e] at hc
      have q : plainCh 39 := ⟨by decide, by decide, by decide, by decide⟩
      rcases List.mem_cons.1 hc with rfl | hc
      · exact q
      · rcases List.mem_append.1 hc with hc | hc
        · unfold textOk at h4
          simp only [Bool.and_eq_true] at h4
          exact plain_txt (List.all_eq_true.1 h4.2 c hc)
        · simp at hc; subst hc; exact q
    · split at h
      · simp only [decide_eq_true_eq] at h
        subst h
        refine ⟨by simp, fun c hc => ?_⟩
        simp at hc
        rcases hc with rfl | rfl | rfl <;> exact ⟨by decide, by decide, by decide, by decide⟩
      · cases h
theorem standOk_base {b s : List UInt8} (h : standOk b s = true) : b = [110] ∨ b = [116] ∨ b = [102] := by
  unfold standOk at h
  split at h
  · exact .inl (by assumption)
  · split at h
    · exact .inr (.inl (by assumption))
    · split at h
      · exact .inr (.inr (by assumption))
      · cases h

/-! ### fields -/
/-- A field of a type: 'given' is the standing value that is told, or nothing. -/
structure Fd where
  tag : Nat
  name : List UInt8
  kind : Kd
  given : List UInt8
deriving DecidableEq

/-- What stands behind the name of a field. -/
def tailB (st : UInt8) (f : Fd) : List UInt8 := if st = 69 then [] else 58 :: (kdB f.kind ++ if f.given = [] then [] else 61 :: f.given)
def fdB (st : UInt8) (f : Fd) : List UInt8 := decB f.tag ++ 58 :: (f.name ++ tailB st f)
def fdOk (st : UInt8) (f : Fd) : Prop :=
  1 ≤ f.tag ∧ f.tag ≤ 200 ∧ nameOk f.name = true ∧ (st = 69 → f.kind = Kd.nil ∧ f.given = []) ∧
  (st ≠ 69 → kdOk f.kind ∧ (f.given ≠ [] → st = 82 ∧ f.kind.signs = [] ∧ standOk f.kind.base f.given = true))

theorem notin {s : List UInt8} (h : ∀ c ∈ s, plainCh c) : 10 ∉ s ∧ 44 ∉ s ∧ 58 ∉ s ∧ 61 ∉ s :=
  ⟨fun hc => (h _ hc).1 rfl, fun hc => (h _ hc).2.1 rfl, fun hc => (h _ hc).2.2.1 rfl, fun hc => (h _ hc).2.2.2 rfl⟩

/-- Two or three parts between colons. -/
def fdL2 (p : List (List UInt8)) : Option (Nat × List UInt8) :=
  match p with
  | [a, b] => (match decL a with | some n => if 1 ≤ n ∧ n ≤ 200 ∧ nameOk b = true then some (n, b) else none | none => none)
  | _ => none
def fdL3 (p : List (List UInt8)) : Option (Nat × List UInt8 × List UInt8) :=
  match p with
  | [a, b, c] => (match decL a with | some n => if 1 ≤ n ∧ n ≤ 200 ∧ nameOk b = true then some (n, b, c) else none | none => none)
  | _ => none

/-- What a text tells as a field of a type of a sort: as the program reads it. -/
def fieldI (st : UInt8) (s : List UInt8) : Option Fd :=
  if st = 69 then
    match fdL2 (splitL 58 (cutL 61 s).1) with
    | some (n, b) => if (cutL 61 s).2.2 = true then none else some ⟨n, b, Kd.nil, (cutL 61 s).2.1⟩
    | none => none
  else
    match fdL3 (splitL 58 (cutL 61 s).1) with
    | some (n, b, c) => (match kindL c with
      | some k => if (cutL 61 s).2.2 = true ∧ ¬ (st = 82 ∧ k.signs = [] ∧ standOk k.base (cutL 61 s).2.1 = true) then none else some ⟨n, b, k, (cutL 61 s).2.1⟩
      | none => none)
    | none => none
/-- .. as the reference reads it. -/
def fieldS (st : UInt8) (s : List UInt8) : Option Fd :=
  if st = 69 then
    match fdL2 (splitL 58 s) with
    | some (n, b) => some ⟨n, b, Kd.nil, []⟩
    | none => none
  else
    match fdL3 (splitL 58 s) with
    | some (n, b, c) => (match splitL 61 c with
      | [k] => (match kindL k with | some k => some ⟨n, b, k, []⟩ | none => none)
      | [k, v] => if st = 82 ∧ standOk k v = true then some ⟨n, b, ⟨[], k, []⟩, v⟩ else none
      | _ => none)
    | none => none

theorem fdL2_some {p : List (List UInt8)} {n : Nat} {b : List UInt8} : fdL2 p = some (n, b) ↔ p = [decB n, b] ∧ 1 ≤ n ∧ n ≤ 200 ∧ nameOk b = true := by
  unfold fdL2
  constructor
  · intro h
    split at h
    · rename_i a b'
      cases hd : decL a with
      | none => rw [hd] at h; cases h
      | some m =>
        rw [hd] at h
        simp only at h
        split at h
        · rename_i hc
          simp at h
          obtain ⟨rfl, rfl⟩ := h
          rw [(decL_some.1 hd).2]
          exact ⟨rfl, hc⟩
        · cases h
    · cases h
  · rintro ⟨rfl, h⟩
    have e := decL_some.2 ⟨(by omega : n ≤ 999999), (rfl : decB n = decB n)⟩
    simp only [e, if_pos h]
theorem fdL3_some {p : List (List UInt8)} {n : Nat} {b c : List UInt8} : fdL3 p = some (n, b, c) ↔ p = [decB n, b, c] ∧ 1 ≤ n ∧ n ≤ 200 ∧ nameOk b = true := by
  unfold fdL3
  constructor
  · intro h
    split at h
    · rename_i a b' c'
      cases hd : decL a with
      | none => rw [hd] at h; cases h
      | some m =>
        rw [hd] at h
        simp only at h
        split at h
        · rename_i hc
          simp at h
          obtain ⟨rfl, rfl, rfl⟩ := h
          rw [(decL_some.1 hd).2]
          exact ⟨rfl, hc⟩
        · cases h
    · cases h
  · rintro ⟨rfl, h⟩
    have e := decL_some.2 ⟨(by omega : n ≤ 999999), (rfl : decB n = decB n)⟩
    simp only [e, if_pos h]

theorem kind_letter {k : List UInt8} (h : k = [110] ∨ k = [116] ∨ k = [102]) : kdOk ⟨[], k, []⟩ ∧ kdB ⟨[], k, []⟩ = k := by
  rcases h with rfl | rfl | rfl <;> exact ⟨⟨rfl, .inr ⟨by simp, rfl⟩, by decide⟩, by decide⟩

/-- What the reference reads as a field is what is told as one. -/
theorem fieldS_some {st : UInt8} {s : List UInt8} {f : Fd} : fieldS st s = some f ↔ fdOk st f ∧ fdB st f = s := by
  obtain ⟨tg, nm, k, gv⟩ := f
  unfold fieldS
  by_cases hst : st = 69
  · rw [if_pos hst]
    constructor
    · intro h
      cases hp : fdL2 (splitL 58 s) with
      | none => rw [hp] at h; cases h
      | some x =>
        obtain ⟨n, b⟩ := x
        rw [hp] at h
        simp at h
        obtain ⟨rfl, rfl, rfl, rfl⟩ := h
        obtain ⟨e, h1, h2, h3⟩ := fdL2_some.1 hp
        obtain ⟨_, _, e2⟩ := splitL_iff.1 e
        exact ⟨⟨h1, h2, h3, fun _ => ⟨rfl, rfl⟩, fun h => absurd hst h⟩, by rw [← e2]; simp [fdB, tailB, hst, joinL]⟩
    · rintro ⟨⟨h1, h2, h3, h4, _⟩, rfl⟩
      obtain ⟨e1, e2⟩ := h4 hst
      simp only at h1 h2 h3 e1 e2
      subst e1; subst e2
      have hs : splitL 58 (fdB st ⟨tg, nm, Kd.nil, []⟩) = [decB tg, nm] := splitL_iff.2 ⟨by simp, by
        intro p hp
        simp at hp
        rcases hp with rfl | rfl
        · exact (notin (plain_decB tg)).2.2.1
        · exact (notin (plain_name h3)).2.2.1, by simp [fdB, tailB, hst, joinL]⟩
      rw [hs, fdL2_some.2 ⟨rfl, h1, h2, h3⟩]
  · rw [if_neg hst]
    constructor
    · intro h
      cases hp : fdL3 (splitL 58 s) with
      | none => rw [hp] at h; cases h
      | some x =>
        obtain ⟨n, b, c⟩ := x
        rw [hp] at h
        simp only at h
        obtain ⟨e, h1, h2, h3⟩ := fdL3_some.1 hp
        obtain ⟨_, _, e2⟩ := splitL_iff.1 e
        split at h
        · rename_i k' hk
          obtain ⟨_, _, e3⟩ := splitL_iff.1 hk
          simp [joinL] at e3
          subst e3
          cases hkl : kindL k' with
          | none => rw [hkl] at h; cases h
          | some kk =>
            rw [hkl] at h
            simp at h
            obtain ⟨rfl, rfl, rfl, rfl⟩ := h
            obtain ⟨hk1, hk2⟩ := kindL_some.1 hkl
            exact ⟨⟨h1, h2, h3, fun h => absurd h hst, fun _ => ⟨hk1, fun h => absurd rfl h⟩⟩, by rw [← e2]; simp [fdB, tailB, hst, joinL, hk2]⟩
        · rename_i k' v hk
          split at h
          · rename_i hc
            simp at h
            obtain ⟨rfl, rfl, rfl, rfl⟩ := h
            obtain ⟨_, _, e3⟩ := splitL_iff.1 hk
            obtain ⟨hn, _⟩ := plain_stand hc.2
            obtain ⟨o1, o2⟩ := kind_letter (standOk_base hc.2)
            refine ⟨⟨h1, h2, h3, fun h => absurd h hst, fun _ => ⟨o1, fun _ => ⟨hc.1, rfl, hc.2⟩⟩⟩, ?_⟩
            rw [← e2, ← e3]
            simp [fdB, tailB, hst, joinL, o2, hn]
          · cases h
        · cases h
    · rintro ⟨⟨h1, h2, h3, _, h4⟩, rfl⟩
      obtain ⟨hk, hg⟩ := h4 hst
      simp only at h1 h2 h3 hk hg
      by_cases hgv : gv = []
      · subst hgv
        have hs : splitL 58 (fdB st ⟨tg, nm, k, []⟩) = [decB tg, nm, kdB k] := splitL_iff.2 ⟨by simp, by
          intro p hp
          simp at hp
          rcases hp with rfl | rfl | rfl
          · exact (notin (plain_decB tg)).2.2.1
          · exact (notin (plain_name h3)).2.2.1
          · exact (notin (plain_kind hk)).2.2.1, by simp [fdB, tailB, hst, joinL]⟩
        rw [hs, fdL3_some.2 ⟨rfl, h1, h2, h3⟩]
        simp only
        rw [splitL_plain 61 (kdB k) (notin (plain_kind hk)).2.2.2]
        simp only
        rw [kindL_some.2 ⟨hk, rfl⟩]
      · obtain ⟨g1, g2, g3⟩ := hg hgv
        obtain ⟨_, hp⟩ := plain_stand g3
        have hb := standOk_base g3
        obtain ⟨o1, o2⟩ := kind_letter hb
        have ek : k = ⟨[], k.base, []⟩ := by
          obtain ⟨sg, b, nm'⟩ := k
          simp only at g2 hb
          subst g2
          obtain ⟨_, hbo, _⟩ := hk
          rcases hbo with ⟨h, _⟩ | ⟨_, h⟩
          · exfalso
            simp only at h
            rcases hb with hb | hb | hb <;> · rw [h] at hb; revert hb; decide
          · simp only at h; rw [h]
        have eB : kdB k = k.base := by rw [ek]; exact o2
        have nb : ∀ c ∈ kdB k, plainCh c := plain_kind hk
        have hs : splitL 58 (fdB st ⟨tg, nm, k, gv⟩) = [decB tg, nm, kdB k ++ 61 :: gv] := splitL_iff.2 ⟨by simp, by
          intro p hp'
          simp at hp'
          rcases hp' with rfl | rfl | rfl
          · exact (notin (plain_decB tg)).2.2.1
          · exact (notin (plain_name h3)).2.2.1
          · intro hc
            rcases List.mem_append.1 hc with hc | hc
            · exact (notin nb).2.2.1 hc
            · rcases List.mem_cons.1 hc with hc | hc
              · revert hc; decide
              · exact (notin hp).2.2.1 hc, by simp [fdB, tailB, hst, joinL, hgv]⟩
        rw [hs, fdL3_some.2 ⟨rfl, h1, h2, h3⟩]
        simp only
        rw [splitL_app 61 (kdB k) gv (notin nb).2.2.2, splitL_plain 61 gv (notin hp).2.2.2]
        simp only
        rw [eB, if_pos ⟨g1, g3⟩, ← ek]

/-- What the program reads as a field is what is told as one. -/
theorem fieldI_some {st : UInt8} {s : List UInt8} {f : Fd} : fieldI st s = some f ↔ fdOk st f ∧ fdB st f = s := by
  obtain ⟨tg, nm, k, gv⟩ := f
  constructor
  · intro h
    unfold fieldI at h
    by_cases hst : st = 69
    · rw [if_pos hst] at h
      cases hp : fdL2 (splitL 58 (cutL 61 s).1) with
      | none => rw [hp] at h; cases h
      | some x =>
        obtain ⟨n, b⟩ := x
        rw [hp] at h
        simp only at h
        obtain ⟨e, h1, h2, h3⟩ := fdL2_some.1 hp
        obtain ⟨_, _, e2⟩ := splitL_iff.1 e
        rcases cutL_cases 61 s with ⟨hn, hc⟩ | ⟨p, t, _, _, hc⟩
        · rw [hc] at h e2
          simp at h
          obtain ⟨rfl, rfl, rfl, rfl⟩ := h
          exact ⟨⟨h1, h2, h3, fun _ => ⟨rfl, rfl⟩, fun h => absurd hst h⟩, by simp only at e2; rw [← e2]; simp [fdB, tailB, hst, joinL]⟩
        · rw [hc] at h
          simp at h
    · rw [if_neg hst] at h
      cases hp : fdL3 (splitL 58 (cutL 61 s).1) with
      | none => rw [hp] at h; cases h
      | some x =>
        obtain ⟨n, b, c⟩ := x
        rw [hp] at h
        simp only at h
        obtain ⟨e, h1, h2, h3⟩ := fdL3_some.1 hp
        obtain ⟨_, _, e2⟩ := splitL_iff.1 e
        cases hkl : kindL c with
        | none => rw [hkl] at h; cases h
        | some kk =>
          obtain ⟨hk1, hk2⟩ := kindL_some.1 hkl
          rw [hkl] at h
          simp only at h
          rcases cutL_cases 61 s with ⟨hn, hc⟩ | ⟨p, t, ec, _, hc⟩
          · rw [hc] at h e2
            simp at h
            obtain ⟨rfl, rfl, rfl, rfl⟩ := h
            exact ⟨⟨h1, h2, h3, fun h => absurd h hst, fun _ => ⟨hk1, fun h => absurd rfl h⟩⟩, by simp only at e2; rw [← e2]; simp [fdB, tailB, hst, joinL, hk2]⟩
          · rw [hc] at h e2
            simp only at h e2
            split at h
            · cases h
            · rename_i hcc
              have hcc' : st = 82 ∧ kk.signs = [] ∧ standOk kk.base t = true := Decidable.byContradiction fun hh => hcc ⟨trivial, hh⟩
              simp at h
              obtain ⟨rfl, rfl, rfl, rfl⟩ := h
              obtain ⟨hn, _⟩ := plain_stand hcc'.2.2
              exact ⟨⟨h1, h2, h3, fun h => absurd h hst, fun _ => ⟨hk1, fun _ => hcc'⟩⟩, by rw [ec, ← e2]; simp [fdB, tailB, hst, joinL, hk2, hn]⟩
  · intro h
    have hS := fieldS_some.2 h
    obtain ⟨⟨h1, h2, h3, h4, h5⟩, rfl⟩ := h
    simp only at h1 h2 h3 h4 h5
    unfold fieldI
    by_cases hst : st = 69
    · obtain ⟨e1, e2⟩ := h4 hst
      subst e1; subst e2
      have hno : 61 ∉ fdB st ⟨tg, nm, Kd.nil, []⟩ := by
        simp [fdB, tailB, hst]
        exact ⟨(notin (plain_decB tg)).2.2.2, (notin (plain_name h3)).2.2.2⟩
      rw [if_pos hst, cutL_no hno]
      simp only
      have hs : splitL 58 (fdB st ⟨tg, nm, Kd.nil, []⟩) = [decB tg, nm] := splitL_iff.2 ⟨by simp, by
        intro p hp
        simp at hp
        rcases hp with rfl | rfl
        · exact (notin (plain_decB tg)).2.2.1
        · exact (notin (plain_name h3)).2.2.1, by simp [fdB, tailB, hst, joinL]⟩
      rw [hs, fdL2_some.2 ⟨rfl, h1, h2, h3⟩]
      simp
    · obtain ⟨hk, hg⟩ := h5 hst
      have nb : ∀ c ∈ kdB k, plainCh c := plain_kind hk
      have hno : 61 ∉ decB tg ++ 58 :: (nm ++ 58 :: kdB k) := by
        simp
        exact ⟨(notin (plain_decB tg)).2.2.2, (notin (plain_name h3)).2.2.2, (notin nb).2.2.2⟩
      have hs : splitL 58 (decB tg ++ 58 :: (nm ++ 58 :: kdB k)) = [decB tg, nm, kdB k] := splitL_iff.2 ⟨by simp, by
        intro p hp
        simp at hp
        rcases hp with rfl | rfl | rfl
        · exact (notin (plain_decB tg)).2.2.1
        · exact (notin (plain_name h3)).2.2.1
        · exact (notin nb).2.2.1, by simp [joinL]⟩
      rw [if_neg hst]
      by_cases hgv : gv = []
      · subst hgv
        have e : fdB st ⟨tg, nm, k, []⟩ = decB tg ++ 58 :: (nm ++ 58 :: kdB k) := by simp [fdB, tailB, hst]
        rw [e, cutL_no hno]
        simp only
        rw [hs, fdL3_some.2 ⟨rfl, h1, h2, h3⟩]
        simp only
        rw [kindL_some.2 ⟨hk, rfl⟩]
        simp
      · have e : fdB st ⟨tg, nm, k, gv⟩ = (decB tg ++ 58 :: (nm ++ 58 :: kdB k)) ++ 61 :: gv := by simp [fdB, tailB, hst, hgv]
        rw [e, cutL_app hno]
        simp only
        rw [hs, fdL3_some.2 ⟨rfl, h1, h2, h3⟩]
        simp only
        rw [kindL_some.2 ⟨hk, rfl⟩]
        simp only
        rw [if_neg (fun hh => hh.2 (hg hgv))]

theorem fieldI_eq (st : UInt8) (s : List UInt8) : fieldI st s = fieldS st s := by
  cases h : fieldS st s with
  | some f => exact fieldI_some.2 (fieldS_some.1 h)
  | none =>
    cases h2 : fieldI st s with
    | none => rfl
    | some f => rw [fieldS_some.2 (fieldI_some.1 h2)] at h; cases h

theorem fdB_plain {st : UInt8} {f : Fd} (h : fdOk st f) : 10 ∉ fdB st f ∧ 44 ∉ fdB st f ∧ fdB st f ≠ [] := by
  obtain ⟨h1, h2, h3, h4, h5⟩ := h
  have hd := decB_ne f.tag
  refine ⟨?_, ?_, by unfold fdB; simp⟩
  all_goals
    unfold fdB tailB
    simp only [List.mem_append, List.mem_cons, not_or]
    refine ⟨?_, by decide, ?_, ?_⟩
    · first | exact (notin (plain_decB f.tag)).1 | exact (notin (plain_decB f.tag)).2.1
    · first | exact (notin (plain_name h3)).1 | exact (notin (plain_name h3)).2.1
    · by_cases hst : st = 69
      · rw [if_pos hst]; simp
      · rw [if_neg hst]
        obtain ⟨hk, hg⟩ := h5 hst
        simp only [List.mem_append, List.mem_cons, not_or]
        refine ⟨by decide, ?_, ?_⟩
        · first | exact (notin (plain_kind hk)).1 | exact (notin (plain_kind hk)).2.1
        · by_cases hgv : f.given = []
          · rw [if_pos hgv]; simp
          · rw [if_neg hgv]
            have hp := (plain_stand (hg hgv).2.2).2
            simp only [List.mem_cons, not_or]
            refine ⟨by decide, ?_⟩
            first | exact (notin hp).1 | exact (notin hp).2.1
theorem fdB_inj {st : UInt8} {f g : Fd} (hf : fdOk st f) (hg : fdOk st g) (h : fdB st f = fdB st g) : f = g := by
  have h1 := fieldS_some.2 ⟨hf, rfl⟩
  have h2 := fieldS_some.2 ⟨hg, h.symm⟩
  rw [h1] at h2
  injection h2
end Go.Proofs.YtcjfgbcdlcdeaaaDoor
/- Numbers and texts of the reference: l6Dec, l3Num, l3Text, l3Stand, l3Plain. -/
namespace Go.Proofs.YtcjfgbcdlcdeaaaDoor
open Go.RowKit
set_option maxRecDepth 100000
set_option linter.unusedVariables false
attribute [local go_sem] ba_get ba_toList ba_extract take_drop_all ByteArray.mk_append_mk

set_option maxHeartbeats 400000 in
theorem l6Dec_one (n : Nat) (w : World) (hn : n < 10) :
    Calls Tryd.prog 27 #[.int .i64 n] w fun e w' => e = .returned (.string ⟨(decB n).toArray⟩) ∧ Below w.heap.size w w' := by
  have Hfin := Lib.hid (decB_small hn)
  have hcv := fun W => Tryd.conv1 W w.heap.size 1 (byteOf (48 + n))
  rw [byteOf_toNat (by omega)] at hcv
  go_enter Tryd.func27, Tryd.ntmps27
  go_wp2_with fail
  go_ret
  exact ⟨by rw [Hfin.out]; rfl, (Below.refl _ _).alloc (Nat.le_refl _) _⟩

set_option maxHeartbeats 400000 in
theorem l6Dec_more (n : Nat) (h10 : ¬ n < 10) (hn : n ≤ 1000000000) (ih : ∀ W, Calls Tryd.prog 27 #[.int .i64 ((n / 10 : Nat) : Int)] W fun e w' => e = .returned (.string ⟨(decB (n / 10)).toArray⟩) ∧ Below W.heap.size W w') (w : World) :
    Calls Tryd.prog 27 #[.int .i64 n] w fun e w' => e = .returned (.string ⟨(decB n).toArray⟩) ∧ Below w.heap.size w w' := by
  have Hfin := Lib.hid (decB_step h10)
  have ih' := Lib.hid ih
  have hl := decB_len 8 (n / 10) (by have e : 10 ^ (8 + 1) = 1000000000 := rfl; omega)
  clear ih
  have hcv := fun W g => Tryd.conv1 W g 1 (byteOf (48 + n % 10))
  have h1 : IntKind.u8.wrap (IntKind.i64.wrap (48 + (n : Int).tmod 10)) = ((byteOf (48 + n % 10)).toNat : Int) := by
    rw [byteOf_toNat (by omega), Int.tmod_eq_emod_of_nonneg (by omega), IntWalk.i64_in _ (by omega), IntWalk.u8_in _ (by omega)]; omega
  have h2 : IntKind.i64.wrap ((n : Int) / 10) = ((n / 10 : Nat) : Int) := by rw [IntWalk.i64_in _ (by omega)]; omega
  go_enter Tryd.func27, Tryd.ntmps27
  go_wp2_with fail
  go_region_with (go_at_call 27; refine (ih'.out _).mono ?_; rintro e w' ⟨rfl, hb⟩; obtain ⟨hc, hf, hz⟩ := bcell hb)
  all_goals
    go_wp2
    go_ret
    refine ⟨by rw [Hfin.out]; rfl, ?_⟩
    have hsz := hb.size
    repeat (first | exact Below.refl _ _ | refine Below.drew ?_ | refine Below.alloc ?_ (by simp at hsz ⊢; first | omega | done) _ | refine Below.trans ?_ (hb.mono (by simp)))

theorem l6Dec_any : ∀ (k n : Nat) (w : World), n ≤ k → n ≤ 1000000000 →
    Calls Tryd.prog 27 #[.int .i64 n] w fun e w' => e = .returned (.string ⟨(decB n).toArray⟩) ∧ Below w.heap.size w w' := by
  intro k
  induction k with
  | zero => intro n w hn h; exact l6Dec_one n w (by omega)
  | succ k ih =>
    intro n w hn h
    by_cases h10 : n < 10
    · exact l6Dec_one n w h10
    · exact l6Dec_more n h10 h (fun W => ih (n / 10) W (by omega) (by omega)) w
end Go.Proofs.YtcjfgbcdlcdeaaaDoor
/- Plain laws: runs of signs in a text, read from the left; a text a byte of which was turned. No program in sight. -/
namespace Go.Proofs.YtcjfgbcdlcdeaaaDoor
set_option linter.unusedVariables false

/-! ### runs of signs, read from the left: the run behind which one byte stands, and the run now -/
def stepM (st : Nat × Nat) (c : UInt8) : Option (Nat × Nat) :=
  if isSign c = true then some (st.1, st.2 + 1) else if c = 64 ∧ 8 < st.1 + st.2 then none else some (st.2, 0)
def mach : Nat × Nat → List UInt8 → Option (Nat × Nat)
  | st, [] => some st
  | st, c :: r => match stepM st c with
    | none => none
    | some q => mach q r
theorem mach_app : ∀ (a b : List UInt8) (st : Nat × Nat), mach st (a ++ b) = match mach st a with | none => none | some q => mach q b
  | [], b, st => rfl
  | c :: a, b, st => by
    rw [List.cons_append, mach, mach]
    cases h : stepM st c with
    | none => rfl
    | some q => exact mach_app a b q
theorem mach_signs : ∀ (g : List UInt8) (st : Nat × Nat), g.all isSign = true → mach st g = some (st.1, st.2 + g.length)
  | [], st, _ => rfl
  | c :: g, st, h => by
    simp only [List.all_cons, Bool.and_eq_true] at h
    rw [mach, stepM, if_pos h.1]
    simp only
    rw [mach_signs g _ h.2]
    simp; omega
theorem mach_two {p : List UInt8} {x : UInt8} {g1 g2 q : List UInt8} (h1 : g1.all isSign = true) (h2 : g2.all isSign = true) {st : Nat × Nat} (h : mach (0, 0) (p ++ (g1 ++ x :: (g2 ++ 64 :: q))) = some st) : g1.length + g2.length ≤ 8 := by
  rw [mach_app] at h
  cases hp : mach (0, 0) p with
  | none => rw [hp] at h; cases h
  | some s0 =>
    rw [hp] at h
    simp only at h
    rw [mach_app, mach_signs g1 _ h1] at h
    simp only [mach] at h
    by_cases hx : isSign x = true
    · rw [stepM, if_pos hx] at h
      simp only at h
      rw [mach_app, mach_signs g2 _ h2] at h
      simp only [mach] at h
      rw [stepM, if_neg (by decide)] at h
      split at h
      · cases h
      · rename_i h'
        split at h'
        · cases h'
        · rename_i hc; simp at hc; omega
    · rw [stepM, if_neg hx] at h
      split at h
      · cases h
      · rename_i h'
        split at h'
        · cases h'
        · injection h' with h'
          subst h'
          rw [mach_app, mach_signs g2 _ h2] at h
          simp only [mach] at h
          rw [stepM, if_neg (by decide)] at h
          split at h
          · cases h
          · rename_i h'
            split at h'
            · cases h'
            · rename_i hc; simp at hc; omega
theorem mach_one {p g q : List UInt8} (h1 : g.all isSign = true) {st : Nat × Nat} (h : mach (0, 0) (p ++ (g ++ 64 :: q)) = some st) : g.length ≤ 8 := by
  rw [mach_app] at h
  cases hp : mach (0, 0) p with
  | none => rw [hp] at h; cases h
  | some s0 =>
    rw [hp] at h
    simp only at h
    rw [mach_app, mach_signs g _ h1] at h
    simp only [mach] at h
    rw [stepM, if_neg (by decide)] at h
    split at h
    · cases h
    · rename_i h'
      split at h'
      · cases h'
      · rename_i hc; simp at hc; omega

/-- No long run of signs ahead of a name. -/
def NoRun (s : List UInt8) : Prop := ∀ p g q, s = p ++ (g ++ 64 :: q) → g.all isSign = true → g.length ≤ 8
theorem NoRun.of_mach {s : List UInt8} {st : Nat × Nat} (h : mach (0, 0) s = some st) : NoRun s := fun p g q e hg => by subst e; exact mach_one hg h
/-- Two ways to cut a text. -/
theorem cut_two : ∀ {a b c d : List UInt8}, a ++ b = c ++ d → (∃ m, c = a ++ m ∧ b = m ++ d) ∨ (∃ m, a = c ++ m ∧ d = m ++ b)
  | [], b, c, d, h => .inl ⟨c, rfl, h⟩
  | x :: a, b, [], d, h => .inr ⟨x :: a, rfl, h.symm⟩
  | x :: a, b, y :: c, d, h => by
    rw [List.cons_append, List.cons_append] at h
    injection h with h1 h2
    subst h1
    rcases cut_two h2 with ⟨m, e1, e2⟩ | ⟨m, e1, e2⟩
    · exact .inl ⟨m, by rw [e1]; rfl, e2⟩
    · exact .inr ⟨m, by rw [e1]; rfl, e2⟩
theorem all_app {p : UInt8 → Bool} {a b : List UInt8} (h : (a ++ b).all p = true) : a.all p = true ∧ b.all p = true := by
  rw [List.all_append, Bool.and_eq_true] at h; exact h
/-- A byte left out, or turned into one that is no sign. -/
theorem NoRun.turned {a b : List UInt8} {x : UInt8} {st : Nat × Nat} (h : mach (0, 0) (a ++ x :: b) = some st) (i : List UInt8) (hi : i = [] ∨ ∃ c, i = [c] ∧ isSign c = false ∧ c ≠ 64) : NoRun (a ++ (i ++ b)) := by
  intro p g q e hg
  rcases cut_two e with ⟨m, e1, e2⟩ | ⟨m, e1, e2⟩
  · -- p = a ++ m: the run lies in i ++ b behind m
    rcases hi with rfl | ⟨c, rfl, _, _⟩
    · rw [List.nil_append] at e2
      subst e2
      exact mach_one (p := a ++ x :: m) hg (by simpa using h)
    · cases m with
      | nil =>
        rw [List.nil_append, List.singleton_append] at e2
        cases g with
        | nil => simp
        | cons y g =>
          rw [List.cons_append] at e2
          injection e2 with e3 e4
          subst e3
          simp only [List.all_cons, Bool.and_eq_true] at hg
          rename_i hc _
          rw [hg.1] at hc; cases hc
      | cons y m =>
        rw [List.singleton_append, List.cons_append] at e2
        injection e2 with e3 e4
        subst e4
        exact mach_one (p := a ++ x :: m) hg (by simpa using h)
  · -- a = p ++ m, g ++ 64 :: q = m ++ (i ++ b)
    subst e1
    rcases cut_two e2 with ⟨n, f1, f2⟩ | ⟨n, f1, f2⟩
    · -- m = g ++ n: 64 :: q = n ++ (i ++ b)
      subst f1
      cases n with
      | nil =>
        rw [List.nil_append] at f2
        rcases hi with rfl | ⟨c, rfl, _, hc⟩
        · rw [List.nil_append] at f2
          subst f2
          have := mach_two (p := p) (x := x) (g1 := g) (g2 := []) (q := q) hg rfl (by simpa using h)
          simpa using this
        · rw [List.singleton_append] at f2
          injection f2 with f3 _
          exact absurd f3.symm hc
      | cons y n =>
        rw [List.cons_append] at f2
        injection f2 with f3 f4
        subst f3
        exact mach_one (p := p) (g := g) (q := n ++ x :: b) hg (by simpa using h)
    · -- g = m ++ n: i ++ b = n ++ 64 :: q
      subst f1
      obtain ⟨hm, hn⟩ := all_app hg
      rcases hi with rfl | ⟨c, rfl, hc, hc2⟩
      · rw [List.nil_append] at f2
        subst f2
        have := mach_two (p := p) (x := x) (g1 := m) (g2 := n) (q := q) hm hn (by simpa using h)
        rw [List.length_append]; exact this
      · cases n with
        | nil =>
          rw [List.nil_append, List.singleton_append] at f2
          injection f2 with f3 _
          exact absurd f3 hc2
        | cons y n =>
          rw [List.singleton_append, List.cons_append] at f2
          injection f2 with f3 _
          subst f3
          simp only [List.all_cons, Bool.and_eq_true] at hn
          rw [hn.1] at hc; cases hc
end Go.Proofs.YtcjfgbcdlcdeaaaDoor
/- Drawn kinds and fields of types: what is drawn, and where the reader stands then. -/
namespace Go.Proofs.YtcjfgbcdlcdeaaaDoor
open Go.RowKit
set_option maxRecDepth 100000
set_option linter.unusedVariables false
set_option linter.unusedSimpArgs false
attribute [local go_sem] ba_get ba_toList ba_extract take_drop_all ByteArray.mk_append_mk

theorem dgrown_trans {a b c : World} {row : Option Nat} (h : a.grownBy b row) (k : b.grownBy c row) : a.grownBy c row :=
  ⟨k.os.trans h.os, k.tape.trans h.tape, k.output.trans h.output, Nat.le_trans h.size k.size, fun i hi hne => (k.block i (Nat.lt_of_lt_of_le hi h.size) hne).trans (h.block i hi hne)⟩
theorem dgrown_below {a w : World} (h : Below a.heap.size a w) (row : Option Nat) : a.grownBy w row := ⟨h.os, h.tape, h.output, h.size, fun i hi _ => h.block i hi⟩
theorem dgrown_drew {a b : World} {row : Option Nat} (h : a.grownBy b row) : a.grownBy b.drew row := ⟨h.os, h.tape, h.output, h.size, h.block⟩
theorem Rdr.ddrew {w : World} {g p : Nat} (h : Rdr w g p) : Rdr w.drew g p := h
theorem Rdr.dalloc {w : World} {g p : Nat} (h : Rdr w g p) (o : Obj) : Rdr (w.alloc o) g p := h.below ((Below.refl _ _).alloc (Nat.le_refl _) o)

/-- A row of texts in a block of its own. -/
def TRow (W : World) (b : Nat) (ls : List (List UInt8)) : Prop := W.heap[b]? = some (.cells (scells ls).toArray 9 (0, 0))
theorem TRow.new (W : World) (ls : List (List UInt8)) : TRow (W.alloc (.cells (scells ls).toArray 9)) W.heap.size ls := heap_alloc_new W _
theorem TRow.lt {W : World} {b : Nat} {ls : List (List UInt8)} (h : TRow W b ls) : b < W.heap.size := by
  rcases Nat.lt_or_ge b W.heap.size with h1 | h1
  · exact h1
  · unfold TRow at h; rw [Array.getElem?_eq_none h1] at h; cases h
theorem TRow.grown {W W' : World} {b r : Nat} {ls : List (List UInt8)} (h : TRow W b ls) (hg : W.grownBy W' (some r)) (hne : b ≠ r) : TRow W' b ls :=
  (hg.block b h.lt (fun e => hne (Option.some.inj e))).trans h
theorem TRow.cell {W : World} {b j : Nat} {ls : List (List UInt8)} (h : TRow W b ls) (hj : j < ls.length) : ∃ s, s ∈ ls ∧ W.cell? ⟨b, j, none⟩ = some (.string ⟨s.toArray⟩) :=
  ⟨ls[j], List.getElem_mem hj, by unfold TRow at h; simp [World.cell?, h, scells, hj]⟩

/-- What a drawing leaves. -/
def DrPost (Q : List UInt8 → Prop) (w : World) (g p m : Nat) (e : Ending) (w' : World) : Prop :=
  ∃ (l : List UInt8) (q : Nat), e = .returned (.string ⟨l.toArray⟩) ∧ Q l ∧ q ≤ p + m ∧ Rdr w' g q ∧ w.grownBy w' (some g)

def baseTs : List (List UInt8) := [[110], [116], [102], [110], [116], [64, 97, 59], [64, 98, 59], [64, 99, 59]]
def weirdTs : List (List UInt8) := [[], [120], [64, 59], [64, 65, 59], [91], [63, 63, 63, 63, 63, 63, 63, 63, 63, 63, 63, 63, 63, 63, 110], [64, 97], [110, 110]]
/-- A kind that is drawn. -/
def DK (l : List UInt8) : Prop := (∃ sg b, l = sg ++ b ∧ sg.length ≤ 2 ∧ sg.all isSign = true ∧ b ∈ baseTs) ∨ l ∈ weirdTs
theorem DK.len {l : List UInt8} (h : DK l) : l.length ≤ 15 := by
  rcases h with ⟨sg, b, rfl, h1, _, h3⟩ | h
  · have : ∀ b ∈ baseTs, b.length ≤ 3 := by decide
    have := this b h3
    rw [List.length_append]; omega
  · have : ∀ b ∈ weirdTs, b.length ≤ 15 := by decide
    exact this l h

set_option maxHeartbeats 1000000 in
theorem l91Kind_any (g p : Nat) (w : World) (h : Rdr w g p) (hp : p ≤ 100000000) :
    Calls Tryd.prog 16 #[.pointer (some ⟨g, 0, none⟩)] w (DrPost DK w g p 7) := by
  have hgl := h.lt
  have HR := Lib.hid h
  clear h
  go_enter Tryd.func16, Tryd.ntmps16
  go_wp2_with fail
  refine (pick_any g p 8 _ (HR.out.dalloc _) (by omega) (by omega) (by omega)).mono ?_
  rintro e w1 ⟨x, rfl, hx1, _, hR1, hg1⟩
  have hx : x < baseTs.length := by show x < 8; omega
  obtain ⟨b, hbm, hcell⟩ := ((TRow.new w baseTs).grown hg1 (by omega)).cell hx
  have hbl : b.length ≤ 3 := (show ∀ b ∈ baseTs, b.length ≤ 3 by decide) b hbm
  have i1 : (0 : Int) ≤ (x : Int) := by omega
  have i2 : (x : Int) < 8 := by omega
  have HR1 := Lib.hid hR1
  have Hg1 := Lib.hid (dgrown_trans (World.grownBy_alloc w _ (some g)) hg1)
  have Hbm := Lib.hid hbm
  clear hR1 hg1 hbm HR hx hx1
  go_wp2_with fail
  refine (pick_any g (p + 1) 4 _ HR1.out (by omega) (by omega) (by omega)).mono ?_
  rintro e w2 ⟨y, rfl, hy1, _, hR2, hg2⟩
  have hy : y ≤ 3 := by omega
  have HR2 := Lib.hid hR2
  have Hg2 := Lib.hid (dgrown_trans Hg1.out hg2)
  clear hR2 hg2 HR1 Hg1 hy1 hcell
  go_wp2_with fail
  go_loopw [3, 4] (fun s k wr => ∃ (sg : List UInt8) (x q : Nat), s = .string ⟨(sg ++ b).toArray⟩ ∧ k = .int .i64 x ∧ sg.length + x ≤ 3 ∧ (x = 0 → sg = []) ∧ Hid (sg.all isSign = true) ∧ q + x ≤ p + 5 ∧ g < wr.heap.size ∧ Hid (Rdr wr g q) ∧ Hid (w.grownBy wr (some g))) (fun _ k _ => (intOf k).toNat)
  case atStart => exact ⟨[], y, p + 2, by simp, rfl, by simp; omega, fun _ => rfl, rfl, by omega, HR2.out.lt, HR2.out, Hg2.out⟩
  case round =>
    obtain ⟨sg, x, q, rfl, rfl, hlen, h0, hsg, hq, hgw, hR, hg⟩ := hrel
    by_cases hx : 1 < x
    · have hxi : (1 : Int) < (x : Int) := by omega
      go_wp2_with fail
      refine (pick_any g q 3 _ (hR.out.dalloc _) (by omega) (by omega) (by omega)).mono ?_
      rintro e w3 ⟨z, rfl, hz1, _, hR3, hg3⟩
      have hz : z < ([[91], [63], [91]] : List (List UInt8)).length := by show z < 3; omega
      obtain ⟨s3, hsm, hcell⟩ := ((TRow.new wr [[91], [63], [91]]).grown hg3 (by omega)).cell hz
      obtain ⟨c, rfl, hc⟩ : ∃ c, s3 = [c] ∧ isSign c = true := by
        simp at hsm
        rcases hsm with rfl | rfl | rfl
        · exact ⟨91, rfl, by decide⟩
        · exact ⟨63, rfl, by decide⟩
        · exact ⟨91, rfl, by decide⟩
      have j1 : (0 : Int) ≤ (z : Int) := by omega
      have j2 : (z : Int) < 3 := by omega
      have HR3 := Lib.hid hR3
      have hg3l := hR3.lt
      have Hg3 := Lib.hid (dgrown_trans hg.out (dgrown_trans (World.grownBy_alloc wr _ (some g)) hg3))
      have Hc := Lib.hid hc
      have Hsg := Lib.hid hsg.out
      clear hR3 hg3 hsm hc
      go_wp2_with fail
      go_roundw
      case rel => exact ⟨c :: sg, x - 1, q + 1, by simp, by go_num, by simp; omega, fun h => by omega, by show List.all _ _ = _; rw [List.all_cons, Hc.out, Hsg.out]; rfl, by omega, hg3l, HR3.out, Hg3.out⟩
      case measure => simp [intOf]; omega
    · have hxi : ¬ (1 : Int) < (x : Int) := by omega
      have Hsl := Lib.hid (show sg.length ≤ 2 by
        by_cases hx0 : x = 0
        · rw [h0 hx0]; simp
        · omega)
      have HRa := Lib.hid hR.out
      have Hga := Lib.hid hg.out
      have Hsg := Lib.hid hsg.out
      go_wp2_with fail
      refine (pick_any g q 30 _ HRa.out (by omega) (by omega) (by omega)).mono ?_
      rintro e w3 ⟨z, rfl, hz1, _, hR3, hg3⟩
      have HR3 := Lib.hid hR3
      have Hg3 := Lib.hid (dgrown_trans Hga.out hg3)
      have hg3l := hR3.lt
      clear hR3 hg3 HRa Hga
      by_cases hz0 : z = 0
      · subst hz0
        go_wp2_with fail
        refine (pick_any g (q + 1) 8 _ (HR3.out.dalloc _) (by omega) (by omega) (by omega)).mono ?_
        rintro e w4 ⟨u, rfl, hu1, _, hR4, hg4⟩
        have hu : u < weirdTs.length := by show u < 8; omega
        obtain ⟨s4, hsm, hcell⟩ := ((TRow.new w3 weirdTs).grown hg4 (by omega)).cell hu
        have k1 : (0 : Int) ≤ (u : Int) := by omega
        have k2 : (u : Int) < 8 := by omega
        have HR4 := Lib.hid hR4
        have Hg4 := Lib.hid (dgrown_trans Hg3.out (dgrown_trans (World.grownBy_alloc w3 _ (some g)) hg4))
        have Hsm := Lib.hid hsm
        clear hR4 hg4 hsm
        go_wp2_with fail
        go_ret
        exact ⟨s4, q + 1 + 1, rfl, .inr Hsm.out, by omega, HR4.out, Hg4.out⟩
      · have hz2 : ((z : Int) == 0) = false := by simp; omega
        go_wp2_with fail
        go_ret
        exact ⟨sg ++ b, q + 1, rfl, .inl ⟨sg, b, rfl, Hsl.out, Hsg.out, Hbm.out⟩, by omega, HR3.out, Hg3.out⟩
end Go.Proofs.YtcjfgbcdlcdeaaaDoor
