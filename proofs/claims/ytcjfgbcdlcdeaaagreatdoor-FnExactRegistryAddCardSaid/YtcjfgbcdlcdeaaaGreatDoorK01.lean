/- Texts joined: Lib, Args, Lib2, NumL, SL1, SL2, SL3, SL4, SMem, OwnK, FMap. Conditions: as each theorem names them. -/
import Derived.Test.YtcjfgbcdlcdeaaaGreatDoorProg
import Derived.WalkKit
import Derived.WalkSmall
import Derived.WalkSpells
import Derived.WalkLawsBesides
import Derived.Below
import Derived.Lib.Hide
import Derived.Lib.BufferRead
import Derived.Laws.BytesArg
import Derived.Test.YtcjfgbcdlcdeaaaGreatDoorRows
import Derived.ProofKit
import Derived.OpenShut
import Derived.ShutString
import Derived.ChangeOld
import Derived.SliceStrings
import Derived.Deep.QuietTactic
import Derived.BigQuiet
import Derived.Handy
import Init
import Derived.Maps.OwnSet
import Derived.Maps.OwnOps
import Derived.StringKeys
/- Small laws for the walks of this seat: strings as lists of bytes, slices of the call's own that grow by one element, bytes read back as a string. Conditions: none beside those that each theorem names. -/
namespace Go.Proofs.YtcjfgbcdlcdeaaaGreatDoor
open Go.RowKit

theorem ba_get (l : List UInt8) (k : Nat) (h : k < (ByteArray.mk l.toArray).size) : (ByteArray.mk l.toArray)[k] = l[k]'h := rfl

theorem ba_toList (l : List UInt8) : (ByteArray.mk l.toArray).toList = l := by
  have : (ByteArray.mk l.toArray).toList = (ByteArray.mk l.toArray).data.toList := ByteArray.toList_eq _
  rw [this]
theorem ba_extract (l : List UInt8) (a b : Nat) : (ByteArray.mk l.toArray).extract a b = ⟨((l.drop a).take (b - a)).toArray⟩ := by
  apply ByteArray.ext
  simp [ByteArray.data_extract]
theorem take_drop_all (l : List UInt8) (a : Nat) : (l.drop a).take (l.length - a) = l.drop a := List.take_of_length_le (by simp)

theorem results_four {fn : Func} {t u v x : Tmp} (h : fn.results = #[.tmp t, .tmp u, .tmp v, .tmp x]) (tmps : Array Value) (P : Program) (w : World) :
    (results fn tmps).run P w = .ok (.tuple #[tmps.getD t undef, tmps.getD u undef, tmps.getD v undef, tmps.getD x undef]) w := by simp [results, h]

theorem ret_int {k : IntKind} {a b : Int} (h : a = b) : Ending.returned (.int k a) = .returned (.int k b) := by rw [h]

theorem take_snoc {α : Type} (l : List α) (k : Nat) (h : k < l.length) : l.take (k + 1) = l.take k ++ [l[k]] := by
  rw [List.take_succ_eq_append_getElem h]

/-- The cells of a row of bytes. -/
def bcells (l : List UInt8) : List Value := l.map fun c => .int .u8 (c.toNat : Int)
/-- The cells of a row of strings. -/
def scells (ls : List (List UInt8)) : List Value := ls.map fun l => .string ⟨l.toArray⟩

theorem bcells_length (l : List UInt8) : (bcells l).length = l.length := by simp [bcells]
theorem scells_length (l : List (List UInt8)) : (scells l).length = l.length := by simp [scells]
theorem bcells_snoc (l : List UInt8) (c : UInt8) : bcells (l ++ [c]) = bcells l ++ [.int .u8 (c.toNat : Int)] := by simp [bcells]
theorem scells_snoc (l : List (List UInt8)) (c : List UInt8) : scells (l ++ [c]) = scells l ++ [.string ⟨c.toArray⟩] := by simp [scells]

/-- A slice value that reads as the cells xs; nil and empty ones are let in. -/
def RowAt (w : World) (A : Option Addr) (n : Nat) (xs : List Value) : Prop :=
  xs.length = n ∧ n ≤ maxLen ∧ (0 < n → ∃ b off, A = some ⟨b, off, none⟩ ∧ b < w.heap.size ∧ ∀ j u, xs[j]? = some u → w.cell? ⟨b, off + j, none⟩ = some u)

theorem RowAt.below {w w' : World} {A : Option Addr} {n : Nat} {xs : List Value} (h : RowAt w A n xs) (hb : Below w.heap.size w w') : RowAt w' A n xs := by
  refine ⟨h.1, h.2.1, fun hn => ?_⟩
  obtain ⟨b, off, e, hlt, hc⟩ := h.2.2 hn
  exact ⟨b, off, e, Nat.lt_of_lt_of_le hlt hb.size, fun j u hu => (hb.cell (p := ⟨b, off + j, none⟩) hlt).trans (hc j u hu)⟩
theorem RowAt.drew {w : World} {A : Option Addr} {n : Nat} {xs : List Value} (h : RowAt w A n xs) : RowAt w.drew A n xs := h
theorem RowAt.alloc {w : World} {A : Option Addr} {n : Nat} {xs : List Value} (h : RowAt w A n xs) (o : Obj) : RowAt (w.alloc o) A n xs := h.below ((Below.refl _ _).alloc (Nat.le_refl _) o)
theorem RowAt.at_ {w : World} {A : Option Addr} {n : Nat} {xs : List Value} (h : RowAt w A n xs) {k : Nat} (hk : k < n) :
    ∃ b off, A = some ⟨b, off, none⟩ ∧ b < w.heap.size ∧ w.cell? ⟨b, off + k, none⟩ = some (xs[k]'(by have := h.1; omega)) := by
  obtain ⟨b, off, e, hlt, hc⟩ := h.2.2 (by omega)
  exact ⟨b, off, e, hlt, hc k _ (List.getElem?_eq_getElem _)⟩
theorem RowAt.own {w : World} {base : Nat} {e : TypeId} {v : Value} {n : Nat} {xs : List Value} (h : w.ownsRow base e 1 v n xs) : ∃ A c, v = .slice A n c ∧ RowAt w A n xs := by
  have h1 := h.1
  rcases h.2 with ⟨rfl, rfl⟩ | ⟨g, cap, cur, rfl, hb, hh, hnc, hcm, hcs, htk⟩
  · exact ⟨none, 0, rfl, by omega, Nat.zero_le _, fun h => absurd h (by omega)⟩
  · refine ⟨some ⟨g, 0, none⟩, cap, rfl, by omega, by omega, fun hn => ⟨g, 0, rfl, (h.lt g rfl).2, fun j u hu => ?_⟩⟩
    have := h.cells (g := g) rfl j u hu
    have e1 : (⟨g, 0, none⟩ : Addr).add j = ⟨g, 0 + j, none⟩ := by unfold Addr.add; split <;> simp_all
    rwa [e1] at this

/-- A row of the call's own is as it was behind a contract that ends in Below. -/
theorem ownsRow_below {w w1 : World} {base : Nat} {e : TypeId} {size : Nat} {v : Value} {n : Nat} {xs : List Value} (h : w.ownsRow base e size v n xs) (hb : Below w.heap.size w w1) : w1.ownsRow base e size v n xs :=
  h.kept (row := none) ⟨hb.os, hb.tape, hb.output, hb.size, fun k hk _ => hb.block k hk⟩ (by
    cases v with
    | slice A a b => cases A with
      | none => exact .inl rfl
      | some x => exact .inr (by simp [Value.ownBlock])
    | _ => exact .inl rfl)

section
variable {P : Program}

/-- 'append(v, u)': the one new element lies in a block that was just made. -/
theorem wpList_app1 (w : World) {ops : Array Oper} {rest : List Oper} {o : Oper} {a : Act} {Q : Exit → Act → World → Prop} (hgd : o.guard = none) (s x : Operand) (t : TypeId)
    (ho : o.op = .call { callee := .builtin .append, args := #[s, x], argTypes := #[t, t] })
    (base : Nat) (e : TypeId) (z : Value) (bytes : Nat) (ht : P.underlying t = some (.slice e)) (hinfo : (P.info? e).map (fun i => (i.zero, i.size, i.bytes)) = some (some z, 1, bytes))
    (hzs : z.cells.size = 1) (W : World) (u : Value) (hw : w = W.alloc (.cells #[u] e)) (hu : u.oneCell' = true) (v : Value) (n : Nat) (xs : List Value) (hs : a.eval s = v) (hx : a.eval x = .slice (some ⟨W.heap.size, 0, none⟩) 1 1)
    (hown : W.ownsRow base e 1 v n xs)
    (h63 : n + 1 ≤ maxLen) (hbytes : (n + 1) * bytes ≤ 140737488355328) (hbase : base ≤ W.heap.size)
    (h : ∀ v' w', w'.ownsRow base e 1 v' (n + 1) (xs ++ [u]) → Below base W w' → wpList P ops Q rest (a.put o.dst v') w') : wpList P ops Q (o :: rest) a w := by
  subst hw
  obtain ⟨i0, hi, hz0, hz1, hz2⟩ := info_parts hinfo
  refine wpList_append_own _ hgd s x t ho base e i0 z 1 bytes ht hi hz0 hz1 hz2 hzs (by decide) v n xs hs (hown.alloc _) ⟨W.heap.size, 0, none⟩ 1 1 [u] hx rfl ?_ ?_ h63 hbytes ?_ ?_
  · intro j y hj
    match j, hj with
    | 0, hj => simp at hj; subst hj; simp [Addr.add, World.cell?_alloc_new]
  · intro y hy; simp at hy; subst hy; exact hu
  · have : (W.alloc (.cells #[u] e)).heap.size = W.heap.size + 1 := by simp
    omega
  · intro v' w' h1 h2 _
    exact h v' w' h1 (((Below.refl base W).alloc hbase _).grown h2 (by simp; omega) (fun k hk => (hown.lt k hk).1))

/-- 'string(v)' of a row of bytes of the call's own. -/
theorem conv_own (w : World) (src e dst : TypeId) (hs : P.underlying src = some (.slice e)) (he : P.underlying e = some (.int .u8)) (hd : P.underlying dst = some .string)
    (base : Nat) (v : Value) (l : List UInt8) (n : Nat) (hn : n = l.length) (hown : w.ownsRow base e 1 v n (bcells l)) : (convert src dst v).run P w = .ok (.string ⟨l.toArray⟩) w := by
  subst hn
  rcases hown.2 with ⟨rfl, h0⟩ | ⟨g, cap, cur, rfl, _, hh, hnc, hcm, hcs, htk⟩
  · obtain rfl : l = [] := List.eq_nil_of_length_eq_zero h0
    exact Lib.run_convert_nil_bytes w src dst e 0 hs he hd
  · have hc := hown.cells (g := g) rfl
    have h := run_convert_bytes_arg (P := P) w src e hs he g 0 l.length cap (l.map fun c => (c.toNat : Int)) (by simp) (fun i hi => by
      have := hc i (.int .u8 (l[i].toNat : Int)) (by simp [bcells, hi])
      have e1 : (⟨g, 0, none⟩ : Addr).add i = ⟨g, 0 + i, none⟩ := by unfold Addr.add; split <;> simp_all
      rw [e1] at this
      rw [this]; simp [List.getD, hi]) dst hd
    rw [h]
    have : strOfNums (l.map fun c => (c.toNat : Int)) = ⟨l.toArray⟩ := by
      simp [strOfNums, Function.comp_def]
    rw [this]

/-- 'string([]byte{c})': the one byte lies in a block of the call's own. -/
theorem conv_one (W : World) (src e dst : TypeId) (hs : P.underlying src = some (.slice e)) (he : P.underlying e = some (.int .u8)) (hd : P.underlying dst = some .string)
    (g c : Nat) (b : UInt8) (hc : W.cell? ⟨g, 0, none⟩ = some (.int .u8 (b.toNat : Int))) : (convert src dst (.slice (some ⟨g, 0, none⟩) 1 c)).run P W = .ok (.string ⟨[b].toArray⟩) W := by
  have h := run_convert_bytes_arg (P := P) W src e hs he g 0 1 c [(b.toNat : Int)] rfl (fun i hi => by
    obtain rfl : i = 0 := by omega
    simpa using hc) dst hd
  rw [h]; simp [strOfNums]
end

theorem Tryz.conv1 (W : World) (g c : Nat) (b : UInt8) (hc : W.cell? ⟨g, 0, none⟩ = some (.int .u8 (b.toNat : Int))) :
    (convert 40 9 (.slice (some ⟨g, 0, none⟩) 1 c)).run Tryz.prog W = .ok (.string ⟨[b].toArray⟩) W :=
  conv_one W 40 5 9 Tryz.underlying40 Tryz.underlying5 Tryz.underlying9 g c b hc

/-- What a contract that ends in Below gives to a walk: old cells and marks read as before, old blocks are still there. -/
theorem bcell {W w1 : World} (hb : Below W.heap.size W w1) : (∀ b o, b < W.heap.size → w1.cell? ⟨b, o, none⟩ = W.cell? ⟨b, o, none⟩) ∧ (∀ b o, b < W.heap.size → w1.frozen? ⟨b, o, none⟩ = W.frozen? ⟨b, o, none⟩) ∧ (∀ b, b < W.heap.size → b < w1.heap.size) :=
  ⟨fun b o h => hb.cell (p := ⟨b, o, none⟩) h, fun b o h => hb.frozen (p := ⟨b, o, none⟩) h, fun _ h => Nat.lt_of_lt_of_le h hb.size⟩

theorem Tryz.infoU8 : (Tryz.prog.info? 5).map (fun i => (i.zero, i.size, i.bytes)) = some (some (.int .u8 0), 1, 1) := by kernel_rfl
theorem Tryz.infoStr : (Tryz.prog.info? 9).map (fun i => (i.zero, i.size, i.bytes)) = some (some (.string ⟨#[]⟩), 1, 16) := by kernel_rfl

end Go.Proofs.YtcjfgbcdlcdeaaaGreatDoor
/- How arguments that came in are opened: strings, slices of bytes and of strings, integers, as lists. -/
namespace Go.Proofs.YtcjfgbcdlcdeaaaGreatDoor
set_option linter.unusedVariables false
set_option maxRecDepth 100000
open Go.ChangeShapes Go.WideShapes Go.ChangeAt Go.RowKit
open Go.ChangeMaps (open_string shut_string)

theorem getD_of_lt {α : Type} (l : List α) (d : α) {j : Nat} (h : j < l.length) : l.getD j d = l[j] := by simp [List.getD, h]

theorem own : ownKnob Tryz.prog.godebug = none := by kernel_rfl
theorem laidOut : laidOutB Tryz.prog = true := by kernel_rfl

section
variable {H : Type} {enc : TypeId × Value → H} {W : World} {base : Nat} {v : Value} {d : DataW H} {ps : List MemPlace}

theorem arg_string (hv : Value.okWide Tryz.prog W .any base 9 v) (h : DataW.Trod enc Tryz.prog W 0 (fun _ => true) true 9 v d ps) :
    ∃ l : List UInt8, v = .string ⟨l.toArray⟩ ∧ l.length ≤ maxLen := by
  obtain ⟨s, rfl, _, _, hs⟩ := open_string Tryz.underlying9 hv h
  exact ⟨s.data.toList, by simp, by simpa using hs⟩

theorem arg_int (hv : Value.okWide Tryz.prog W .any base 3 v) (h : DataW.Trod enc Tryz.prog W 0 (fun _ => true) true 3 v d ps) :
    ∃ x : Int, v = .int .i64 x ∧ -9223372036854775808 ≤ x ∧ x ≤ 9223372036854775807 := by
  obtain ⟨x, rfl, _, _, w⟩ := open_int Tryz.underlying3 hv h
  have hw := w
  simp [Lit.wf, IntKind.min, IntKind.max, IntKind.signed, IntKind.bits] at hw
  exact ⟨x, rfl, by omega, by omega⟩

theorem arg_bytes (hv : Value.okWide Tryz.prog W .any base 40 v) (h : DataW.Trod enc Tryz.prog W 0 (fun _ => true) true 40 v d ps) (hlt : ∀ x ∈ ps, x.block < W.heap.size) :
    ∃ A n c, ∃ l : List UInt8, v = .slice A n c ∧ RowAt W A n (bcells l) ∧ n ≤ c ∧ c ≤ maxLen := by
  obtain ⟨A, n, c, rfl⟩ := okWide_slice Tryz.underlying40 hv
  obtain ⟨fuel, hf⟩ := h
  rcases open_ints Tryz.underlying40 Tryz.underlying5 (by kernel_rfl) hf with ⟨hcs, _⟩ | ⟨x, n', c', zs, hcs, _, hl, hm, hz, _, hcell, hwz⟩
  · simp [Value.cells] at hcs
    obtain ⟨rfl, rfl, rfl⟩ := hcs
    exact ⟨none, 0, 0, [], rfl, ⟨rfl, Nat.zero_le _, fun h => absurd h (by omega)⟩, Nat.le_refl _, Nat.zero_le _⟩
  · simp [Value.cells] at hcs
    obtain ⟨rfl, rfl, rfl⟩ := hcs
    simp at hz
    refine ⟨some x, n, c, (zs.take n).map fun z => UInt8.ofNat z.toNat, rfl, ⟨by simp [bcells]; omega, Nat.le_trans hl hm, fun hn => ?_⟩, hl, hm⟩
    have h0 := hcell 0 (by omega)
    obtain ⟨b, off, spot⟩ := x
    have hspot : spot = none := by simpa [Addr.add] using World.cell?_spot h0
    subst hspot
    refine ⟨b, off, rfl, ?_, fun j u hu => ?_⟩
    · have := World.block_lt_of_cell? W _ h0
      simpa [Addr.add] using this
    · have hj : j < n := by
        have := (List.getElem?_eq_some_iff.1 hu).1
        simp [bcells] at this; omega
      have h1 := hcell j (by omega)
      have e1 : (⟨b, off, none⟩ : Addr).add j = ⟨b, off + j, none⟩ := by unfold Addr.add; split <;> simp_all
      rw [e1] at h1
      rw [h1]
      have hw := hwz (zs.getD j 0) (by rw [getD_of_lt _ _ (by omega)]; exact List.getElem_mem _)
      have hb2 : 0 ≤ zs.getD j 0 ∧ zs.getD j 0 ≤ 255 := by
        simp [Lit.wf, IntKind.min, IntKind.max, IntKind.signed, IntKind.bits] at hw
        simpa using hw
      simp only [bcells, List.getElem?_map, List.getElem?_take] at hu
      rw [if_pos hj, List.getElem?_eq_getElem (by omega : j < zs.length)] at hu
      simp at hu
      rw [← hu]
      rw [getD_of_lt _ _ (by omega : j < zs.length)] at hb2 ⊢
      congr 2
      omega

theorem arg_strings (hv : Value.okWide Tryz.prog W .any base 58 v) (h : DataW.Trod enc Tryz.prog W 0 (fun _ => true) true 58 v d ps) (hlt : ∀ x ∈ ps, x.block < W.heap.size) :
    ∃ A n c, ∃ l : List (List UInt8), v = .slice A n c ∧ RowAt W A n (scells l) ∧ ∀ s ∈ l, s.length ≤ maxLen := by
  obtain ⟨A, n, c, rfl⟩ := okWide_slice Tryz.underlying58 hv
  obtain ⟨fuel, hf⟩ := h
  rcases open_strings Tryz.underlying58 Tryz.underlying9 (by kernel_rfl) hf with ⟨hcs, _⟩ | ⟨x, n', c', ss, hcs, _, hl, hm, hz, _, hcell, hws⟩
  · simp [Value.cells] at hcs
    obtain ⟨rfl, rfl, rfl⟩ := hcs
    exact ⟨none, 0, 0, [], rfl, ⟨rfl, Nat.zero_le _, fun h => absurd h (by omega)⟩, fun s hs => by cases hs⟩
  · simp [Value.cells] at hcs
    obtain ⟨rfl, rfl, rfl⟩ := hcs
    simp at hz
    refine ⟨some x, n, c, (ss.take n).map fun s => s.data.toList, rfl, ⟨by simp [scells]; omega, Nat.le_trans hl hm, fun hn => ?_⟩, ?_⟩
    · have h0 := hcell 0 (by omega)
      obtain ⟨b, off, spot⟩ := x
      have hspot : spot = none := by simpa [Addr.add] using World.cell?_spot h0
      subst hspot
      refine ⟨b, off, rfl, ?_, fun j u hu => ?_⟩
      · have := World.block_lt_of_cell? W _ h0
        simpa [Addr.add] using this
      · have hj : j < n := by
          have := (List.getElem?_eq_some_iff.1 hu).1
          simp [scells] at this; omega
        have h1 := hcell j (by omega)
        have e1 : (⟨b, off, none⟩ : Addr).add j = ⟨b, off + j, none⟩ := by unfold Addr.add; split <;> simp_all
        rw [e1] at h1
        rw [h1]
        simp only [scells, List.getElem?_map, List.getElem?_take] at hu
        rw [if_pos hj, List.getElem?_eq_getElem (by omega : j < ss.length)] at hu
        simp at hu
        rw [← hu, getD_of_lt _ _ (by omega : j < ss.length)]
    · intro s hs
      obtain ⟨y, hy, rfl⟩ := List.mem_map.1 hs
      have := hws y (List.mem_of_mem_take hy)
      simpa using this
end
end Go.Proofs.YtcjfgbcdlcdeaaaGreatDoor
/- More small laws for the walks: results written limb by limb. -/
namespace Go.Proofs.YtcjfgbcdlcdeaaaGreatDoor
open Go.RowKit

theorem ret1 {a a' : Value} (h : a = a') : Ending.returned a = .returned a' := by rw [h]
theorem ret2 {a b a' b' : Value} (h1 : a = a') (h2 : b = b') : Ending.returned (.tuple #[a, b]) = .returned (.tuple #[a', b']) := by rw [h1, h2]
theorem ret3 {a b c a' b' c' : Value} (h1 : a = a') (h2 : b = b') (h3 : c = c') : Ending.returned (.tuple #[a, b, c]) = .returned (.tuple #[a', b', c']) := by rw [h1, h2, h3]
theorem ret4 {a b c d a' b' c' d' : Value} (h1 : a = a') (h2 : b = b') (h3 : c = c') (h4 : d = d') : Ending.returned (.tuple #[a, b, c, d]) = .returned (.tuple #[a', b', c', d']) := by rw [h1, h2, h3, h4]
theorem vint {k : IntKind} {x y : Int} (h : x = y) : Value.int k x = .int k y := by rw [h]
theorem vstr {x y : List UInt8} (h : x = y) : Value.string ⟨x.toArray⟩ = .string ⟨y.toArray⟩ := by rw [h]
theorem vbool {x y : Bool} (h : x = y) : Value.bool x = .bool y := by rw [h]

theorem below_drewN' {B : Nat} {a w : World} (h : Below B a w) (n : Nat) : Below B a (w.drewN n) := below_drewN h n
end Go.Proofs.YtcjfgbcdlcdeaaaGreatDoor
/- Plain laws of the numbers to the base 128: how a number below 2097152 is told as bytes. No program in sight. -/
namespace Go.Proofs.YtcjfgbcdlcdeaaaGreatDoor

def byteOf (n : Nat) : UInt8 := UInt8.ofNat n
theorem byteOf_toNat {n : Nat} (h : n < 256) : (byteOf n).toNat = n := by unfold byteOf; exact UInt8.toNat_ofNat_of_lt' h

/-- The bytes of a number below 2097152. -/
def numB (n : Nat) : List UInt8 :=
  if n < 128 then [byteOf n] else if n < 16384 then [byteOf (n % 128 + 128), byteOf (n / 128)] else [byteOf (n % 128 + 128), byteOf (n / 128 % 128 + 128), byteOf (n / 16384)]

theorem numB_small {n : Nat} (h : n < 128) : numB n = [byteOf n] := by unfold numB; rw [if_pos h]
theorem numB_step {n : Nat} (h : 128 ≤ n) (h2 : n < 2097152) : numB n = byteOf (n % 128 + 128) :: numB (n / 128) := by
  unfold numB
  by_cases h3 : n < 16384
  · rw [if_neg (by omega), if_pos h3, if_pos (by omega)]
  · rw [if_neg (by omega), if_neg h3, if_neg (by omega), if_pos (by omega)]
    have : n / 16384 = n / 128 / 128 := by omega
    rw [this]
theorem numB_length_pos (n : Nat) : 1 ≤ (numB n).length := by
  unfold numB
  split
  · simp
  · split <;> simp
theorem numB_length_le (n : Nat) : (numB n).length ≤ 3 := by
  unfold numB
  split
  · simp
  · split <;> simp
theorem numB_len1 {n : Nat} (h : n < 128) : (numB n).length = 1 := by rw [numB_small h]; rfl
theorem numB_len2 {n : Nat} (h : n < 16384) : (numB n).length ≤ 2 := by
  unfold numB
  split
  · simp
  · simp
theorem numB_ne (n : Nat) : numB n ≠ [] := by have := numB_length_pos n; intro h; rw [h] at this; simp at this

/-- The number at the beginning of bytes, and what is behind it. -/
def numGetL : List UInt8 → Option (Nat × List UInt8)
  | [] => none
  | a :: t =>
    if a.toNat < 128 then some (a.toNat, t)
    else match t with
      | [] => none
      | b :: u =>
        if b.toNat < 128 then (if b.toNat = 0 then none else some (a.toNat % 128 + b.toNat * 128, u))
        else match u with
          | [] => none
          | c :: v => if c.toNat < 128 then (if c.toNat = 0 ∨ 999999 < a.toNat % 128 + b.toNat % 128 * 128 + c.toNat * 16384 then none else some (a.toNat % 128 + b.toNat % 128 * 128 + c.toNat * 16384, v)) else none

theorem numGetL_len {s : List UInt8} {n : Nat} {r : List UInt8} (h : numGetL s = some (n, r)) : n ≤ 999999 ∧ r.length < s.length := by
  rcases s with _ | ⟨a, _ | ⟨b, _ | ⟨c, v⟩⟩⟩
  · simp [numGetL] at h
  · simp only [numGetL] at h
    split at h
    · simp at h; obtain ⟨rfl, rfl⟩ := h; exact ⟨by omega, by simp⟩
    · simp at h
  · simp only [numGetL] at h
    split at h
    · simp at h; obtain ⟨rfl, rfl⟩ := h; exact ⟨by omega, by simp⟩
    · split at h
      · split at h
        · simp at h
        · simp at h; obtain ⟨rfl, rfl⟩ := h; exact ⟨by omega, by simp⟩
      · simp at h
  · simp only [numGetL] at h
    split at h
    · simp at h; obtain ⟨rfl, rfl⟩ := h; exact ⟨by omega, by simp⟩
    · split at h
      · split at h
        · simp at h
        · simp at h; obtain ⟨rfl, rfl⟩ := h; exact ⟨by omega, by simp⟩
      · split at h
        · split at h
          · simp at h
          · rename_i hn
            simp only [Option.some.injEq, Prod.mk.injEq] at h; obtain ⟨rfl, rfl⟩ := h; exact ⟨by omega, by simp; omega⟩
        · simp at h

end Go.Proofs.YtcjfgbcdlcdeaaaGreatDoor
/- Plain laws of names, decimals and kinds: what is read is what is told. No program in sight. -/
namespace Go.Proofs.YtcjfgbcdlcdeaaaGreatDoor

def isLow (c : UInt8) : Bool := decide (97 ≤ c.toNat) && decide (c.toNat ≤ 122)
def isDig (c : UInt8) : Bool := decide (48 ≤ c.toNat) && decide (c.toNat ≤ 57)
/-- A name: one to three letters. -/
def nameOk (s : List UInt8) : Bool := decide (1 ≤ s.length) && decide (s.length ≤ 3) && s.all isLow

theorem isDig_iff {c : UInt8} : isDig c = true ↔ 48 ≤ c.toNat ∧ c.toNat ≤ 57 := by simp [isDig]
theorem isLow_iff {c : UInt8} : isLow c = true ↔ 97 ≤ c.toNat ∧ c.toNat ≤ 122 := by simp [isLow]
theorem nameOk_iff {s : List UInt8} : nameOk s = true ↔ 1 ≤ s.length ∧ s.length ≤ 3 ∧ ∀ c ∈ s, isLow c = true := by
  simp [nameOk, and_assoc]

/-! ### decimals -/
/-- A number in decimals. -/
def decB (n : Nat) : List UInt8 := if h : n < 10 then [byteOf (48 + n)] else decB (n / 10) ++ [byteOf (48 + n % 10)]
termination_by n
decreasing_by omega
theorem decB_small {n : Nat} (h : n < 10) : decB n = [byteOf (48 + n)] := by rw [decB, dif_pos h]
theorem decB_step {n : Nat} (h : ¬ n < 10) : decB n = decB (n / 10) ++ [byteOf (48 + n % 10)] := by rw [decB, dif_neg h]

/-- What figures tell. -/
def valB (s : List UInt8) : Nat := s.foldl (fun n c => 10 * n + (c.toNat - 48)) 0
theorem valB_snoc (s : List UInt8) (c : UInt8) : valB (s ++ [c]) = 10 * valB s + (c.toNat - 48) := by simp [valB, List.foldl_append]
theorem valB_nil : valB [] = 0 := rfl

/-- The number that a text tells in decimals: at most six figures, no needless zero. -/
def decL (s : List UInt8) : Option Nat :=
  if 1 ≤ s.length ∧ s.length ≤ 6 ∧ s.all isDig = true ∧ (s.head? ≠ some 48 ∨ s.length = 1) then some (valB s) else none

theorem snoc_cases {α : Type} (s : List α) : s = [] ∨ ∃ t c, s = t ++ [c] := by
  rcases s.eq_nil_or_concat with h | ⟨t, c, h⟩
  · exact .inl h
  · exact .inr ⟨t, c, by simpa using h⟩

theorem valB_lt : ∀ (k : Nat) (s : List UInt8), s.length = k → s.all isDig = true → valB s < 10 ^ k
  | 0, s, h, _ => by
    obtain rfl := List.eq_nil_of_length_eq_zero h
    simp [valB]
  | k + 1, s, h, ha => by
    rcases snoc_cases s with rfl | ⟨t, c, rfl⟩
    · simp at h
    · simp at h
      simp only [List.all_append, Bool.and_eq_true, List.all_cons, List.all_nil, Bool.and_true] at ha
      have ih := valB_lt k t h ha.1
      have hc := isDig_iff.1 ha.2
      rw [valB_snoc, Nat.pow_succ]
      omega

theorem valB_pos : ∀ (k : Nat) (s : List UInt8), s.length = k → s ≠ [] → s.all isDig = true → s.head? ≠ some 48 → 0 < valB s
  | 0, s, h, hn, _, _ => absurd (List.eq_nil_of_length_eq_zero h) hn
  | k + 1, s, h, hn, ha, hh => by
    rcases snoc_cases s with rfl | ⟨t, c, rfl⟩
    · exact absurd rfl hn
    · simp at h
      simp only [List.all_append, Bool.and_eq_true, List.all_cons, List.all_nil, Bool.and_true] at ha
      have hc := isDig_iff.1 ha.2
      rw [valB_snoc]
      by_cases ht : t = []
      · subst ht
        simp at hh
        have : c.toNat ≠ 48 := fun e => hh (UInt8.toNat_inj.1 e)
        omega
      · have hh' : t.head? ≠ some 48 := by
          cases t with
          | nil => exact absurd rfl ht
          | cons a t => simpa using hh
        have := valB_pos k t h ht ha.1 hh'
        omega

theorem decB_valB : ∀ (k : Nat) (s : List UInt8), s.length = k → s ≠ [] → s.all isDig = true → (s.head? ≠ some 48 ∨ s.length = 1) → decB (valB s) = s
  | 0, s, h, hn, _, _ => absurd (List.eq_nil_of_length_eq_zero h) hn
  | k + 1, s, h, hn, ha, hh => by
    rcases snoc_cases s with rfl | ⟨t, c, rfl⟩
    · exact absurd rfl hn
    · simp at h
      simp only [List.all_append, Bool.and_eq_true, List.all_cons, List.all_nil, Bool.and_true] at ha
      have hc := isDig_iff.1 ha.2
      have hc2 : byteOf (48 + (c.toNat - 48)) = c := by
        apply UInt8.toNat_inj.1
        rw [byteOf_toNat (by omega)]; omega
      rw [valB_snoc]
      by_cases ht : t = []
      · subst ht
        rw [valB_nil, decB_small (by omega)]
        simp [hc2]
      · have hl : 0 < t.length := List.length_pos_iff.2 ht
        have hh1 : t.head? ≠ some 48 := by
          cases t with
          | nil => exact absurd rfl ht
          | cons a t => rcases hh with hh | hh <;> simp at hh ⊢ <;> first | exact hh | omega
        have hp := valB_pos t.length t rfl ht ha.1 hh1
        have ih := decB_valB k t h ht ha.1 (.inl hh1)
        rw [decB_step (by omega)]
        have e1 : (10 * valB t + (c.toNat - 48)) / 10 = valB t := by omega
        have e2 : (10 * valB t + (c.toNat - 48)) % 10 = c.toNat - 48 := by omega
        rw [e1, e2, ih, hc2]

theorem decB_facts : ∀ (k n : Nat), n ≤ k → decB n ≠ [] ∧ (decB n).all isDig = true ∧ valB (decB n) = n ∧ ((decB n).head? ≠ some 48 ∨ n = 0) ∧ (n < 10 → (decB n).length = 1) ∧ (10 ≤ n → 2 ≤ (decB n).length)
  | 0, n, h => by
    obtain rfl : n = 0 := by omega
    rw [decB_small (by omega)]
    refine ⟨by simp, by decide, by decide, .inr rfl, fun _ => rfl, fun h => by omega⟩
  | k + 1, n, h => by
    by_cases hn : n < 10
    · rw [decB_small hn]
      have e : (byteOf (48 + n)).toNat = 48 + n := byteOf_toNat (by omega)
      refine ⟨by simp, by simp [isDig_iff, e]; omega, ?_, ?_, fun _ => rfl, fun h => by omega⟩
      · show 10 * 0 + ((byteOf (48 + n)).toNat - 48) = n
        omega
      · by_cases h0 : n = 0
        · exact .inr h0
        · refine .inl ?_
          intro hh
          simp at hh
          have := congrArg UInt8.toNat hh
          rw [e] at this
          have h48 : (48 : UInt8).toNat = 48 := rfl
          omega
    · obtain ⟨i1, i2, i3, i4, _, _⟩ := decB_facts k (n / 10) (by omega)
      have e : (byteOf (48 + n % 10)).toNat = 48 + n % 10 := byteOf_toNat (by omega)
      have hl : 0 < (decB (n / 10)).length := List.length_pos_iff.2 i1
      rw [decB_step hn]
      refine ⟨by simp, ?_, ?_, ?_, fun h => absurd h hn, fun _ => by simp; omega⟩
      · simp only [List.all_append, Bool.and_eq_true, List.all_cons, List.all_nil, Bool.and_true]
        exact ⟨i2, isDig_iff.2 (by omega)⟩
      · rw [valB_snoc, i3, e]; omega
      · refine .inl ?_
        have e1 : (decB (n / 10) ++ [byteOf (48 + n % 10)]).head? = (decB (n / 10)).head? := by
          cases hd : decB (n / 10) with
          | nil => exact absurd hd i1
          | cons a t => rfl
        rw [e1]
        rcases i4 with h | h
        · exact h
        · omega

theorem decB_ne (n : Nat) : decB n ≠ [] := (decB_facts n n (Nat.le_refl _)).1
theorem decB_dig (n : Nat) : (decB n).all isDig = true := (decB_facts n n (Nat.le_refl _)).2.1
theorem valB_decB (n : Nat) : valB (decB n) = n := (decB_facts n n (Nat.le_refl _)).2.2.1
theorem decB_head (n : Nat) : (decB n).head? ≠ some 48 ∨ (decB n).length = 1 := by
  obtain ⟨_, _, _, h4, h5, _⟩ := decB_facts n n (Nat.le_refl _)
  rcases h4 with h | h
  · exact .inl h
  · exact .inr (h5 (by omega))
theorem decB_inj {m n : Nat} (h : decB m = decB n) : m = n := by rw [← valB_decB m, h, valB_decB]

theorem decB_len : ∀ (k n : Nat), n < 10 ^ (k + 1) → (decB n).length ≤ k + 1
  | 0, n, h => by rw [decB_small (by simpa using h)]; simp
  | k + 1, n, h => by
    by_cases hn : n < 10
    · rw [decB_small hn]; simp
    · rw [decB_step hn]
      have := decB_len k (n / 10) (by rw [Nat.pow_succ] at h; omega)
      simp; omega

theorem decL_some {s : List UInt8} {n : Nat} : decL s = some n ↔ n ≤ 999999 ∧ s = decB n := by
  unfold decL
  constructor
  · intro h
    split at h
    · rename_i hc
      obtain ⟨h1, h2, h3, h4⟩ := hc
      injection h with h
      have hn : s ≠ [] := List.length_pos_iff.1 (by omega)
      have hv := valB_lt s.length s rfl h3
      have hle : 10 ^ s.length ≤ 10 ^ 6 := Nat.pow_le_pow_right (by omega) h2
      have e6 : 10 ^ 6 = 1000000 := rfl
      refine ⟨by omega, ?_⟩
      rw [← h]
      exact (decB_valB s.length s rfl hn h3 h4).symm
    · cases h
  · rintro ⟨h1, rfl⟩
    have hl := decB_len 5 n (by have e6 : 10 ^ (5 + 1) = 1000000 := rfl; omega)
    have hp : 0 < (decB n).length := List.length_pos_iff.2 (decB_ne n)
    rw [if_pos ⟨by omega, by omega, decB_dig n, decB_head n⟩, valB_decB]

/-! ### kinds -/
/-- A kind that has been read: its signs, and a letter, or the name of a type. -/
structure Kd where
  signs : List UInt8
  base : List UInt8
  name : List UInt8
deriving DecidableEq

def isSign (c : UInt8) : Bool := c == 91 || c == 63
/-- A kind without its signs, as text. -/
def coreB (k : Kd) : List UInt8 := if k.base = [64] then 64 :: (k.name ++ [59]) else k.base
def kdB (k : Kd) : List UInt8 := k.signs ++ coreB k
def Kd.nil : Kd := ⟨[], [], []⟩
/-- The kind behind the first sign. -/
def Kd.part (k : Kd) : Kd := { k with signs := k.signs.tail }
def Kd.core (k : Kd) : Kd := { k with signs := [] }

/-- The base of a kind is a letter, or the name of a type. -/
def baseOk (k : Kd) : Prop := (k.base = [64] ∧ nameOk k.name = true) ∨ ((k.base = [110] ∨ k.base = [116] ∨ k.base = [102]) ∧ k.name = [])
def kdOk (k : Kd) : Prop := k.signs.all isSign = true ∧ baseOk k ∧ (kdB k).length ≤ 12

theorem core_head {k : Kd} (h : baseOk k) : ∃ c t, coreB k = c :: t ∧ isSign c = false := by
  unfold coreB
  rcases h with ⟨h, _⟩ | ⟨h | h | h, _⟩
  · rw [if_pos h]; exact ⟨64, _, rfl, by decide⟩
  · rw [h, if_neg (by decide)]; exact ⟨110, [], rfl, by decide⟩
  · rw [h, if_neg (by decide)]; exact ⟨116, [], rfl, by decide⟩
  · rw [h, if_neg (by decide)]; exact ⟨102, [], rfl, by decide⟩

theorem takeWhile_app {p : UInt8 → Bool} : ∀ {a b : List UInt8}, a.all p = true → (∃ c t, b = c :: t ∧ p c = false) → (a ++ b).takeWhile p = a ∧ (a ++ b).dropWhile p = b
  | [], b, _, ⟨c, t, e, h⟩ => by subst e; simp [h]
  | x :: a, b, ha, hb => by
    simp only [List.all_cons, Bool.and_eq_true] at ha
    have ih := takeWhile_app ha.2 hb
    simp [ha.1, ih.1, ih.2]

theorem takeWhile_all {p : UInt8 → Bool} : ∀ (a : List UInt8), (a.takeWhile p).all p = true
  | [] => rfl
  | x :: a => by
    by_cases h : p x = true
    · simp [h]
    · simp [h]

/-- What a text tells as a kind. -/
def kindL (s : List UInt8) : Option Kd :=
  if 12 < s.length then none
  else if s.dropWhile isSign = [110] ∨ s.dropWhile isSign = [116] ∨ s.dropWhile isSign = [102] then some ⟨s.takeWhile isSign, s.dropWhile isSign, []⟩
  else if (s.dropWhile isSign).head? = some 64 ∧ (s.dropWhile isSign).getLast? = some 59 ∧ nameOk ((s.dropWhile isSign).drop 1).dropLast = true then some ⟨s.takeWhile isSign, [64], ((s.dropWhile isSign).drop 1).dropLast⟩
  else none

theorem ends_at {r : List UInt8} (h1 : r.head? = some 64) (h2 : r.getLast? = some 59) : r = 64 :: ((r.drop 1).dropLast ++ [59]) := by
  cases r with
  | nil => simp at h1
  | cons a t =>
    simp at h1
    subst h1
    rcases snoc_cases t with rfl | ⟨u, c, rfl⟩
    · simp at h2
    · have : c = 59 := by
        rw [show (64 : UInt8) :: (u ++ [c]) = (64 :: u) ++ [c] from rfl, List.getLast?_append] at h2
        simpa using h2
      subst this
      simp

theorem kindL_some {s : List UInt8} {k : Kd} : kindL s = some k ↔ kdOk k ∧ kdB k = s := by
  have htd : s.takeWhile isSign ++ s.dropWhile isSign = s := List.takeWhile_append_dropWhile
  constructor
  · intro h
    unfold kindL at h
    split at h
    · cases h
    · rename_i h12
      split at h
      · rename_i hb
        injection h with h
        subst h
        have hcore : coreB ⟨s.takeWhile isSign, s.dropWhile isSign, []⟩ = s.dropWhile isSign := by
          unfold coreB
          rw [if_neg]
          rcases hb with h | h | h <;> · show ¬ s.dropWhile isSign = _; rw [h]; decide
        have e : kdB ⟨s.takeWhile isSign, s.dropWhile isSign, []⟩ = s := by unfold kdB; rw [hcore]; exact htd
        exact ⟨⟨takeWhile_all s, .inr ⟨hb, rfl⟩, by rw [e]; omega⟩, e⟩
      · split at h
        · rename_i hb
          injection h with h
          subst h
          have e1 := ends_at hb.1 hb.2.1
          have e : kdB ⟨s.takeWhile isSign, [64], ((s.dropWhile isSign).drop 1).dropLast⟩ = s := by
            unfold kdB coreB
            rw [if_pos rfl]
            show s.takeWhile isSign ++ 64 :: (((s.dropWhile isSign).drop 1).dropLast ++ [59]) = s
            rw [← e1]; exact htd
          exact ⟨⟨takeWhile_all s, .inl ⟨rfl, hb.2.2⟩, by rw [e]; omega⟩, e⟩
        · cases h
  · rintro ⟨⟨h1, h2, h3⟩, rfl⟩
    obtain ⟨e1, e2⟩ := takeWhile_app h1 (core_head h2)
    unfold kindL
    rw [if_neg (by omega)]
    show (if (k.signs ++ coreB k).dropWhile isSign = [110] ∨ _ then _ else _) = _
    unfold kdB
    rw [e1, e2]
    obtain ⟨sg, b, nm⟩ := k
    rcases h2 with ⟨h, hn⟩ | ⟨h, hn⟩
    · simp only at h hn
      subst h
      unfold coreB
      simp only [if_pos]
      rw [if_neg (by simp), if_pos]
      · simp
      · refine ⟨rfl, ?_, by simpa using hn⟩
        rw [show (64 : UInt8) :: (nm ++ [59]) = (64 :: nm) ++ [59] from rfl, List.getLast?_append]; rfl
    · simp only at h hn
      subst hn
      have hc : coreB ⟨sg, b, []⟩ = b := by
        unfold coreB
        rw [if_neg]
        rcases h with h | h | h <;> · show ¬ b = _; rw [h]; decide
      rw [hc, if_pos h]

theorem kdB_inj {k m : Kd} (hk : kdOk k) (hm : kdOk m) (h : kdB k = kdB m) : k = m := by
  have h1 := kindL_some.2 ⟨hk, rfl⟩
  have h2 := kindL_some.2 ⟨hm, h.symm⟩
  rw [h1] at h2
  injection h2

theorem part_ok {k : Kd} (h : kdOk k) : kdOk k.part ∧ (k.signs ≠ [] → kdB k.part = (kdB k).tail ∧ (kdB k.part).length + 1 = (kdB k).length) := by
  obtain ⟨h1, h2, h3⟩ := h
  obtain ⟨sg, b, nm⟩ := k
  have hc : ∀ g, coreB ⟨g, b, nm⟩ = coreB ⟨sg, b, nm⟩ := fun g => rfl
  cases sg with
  | nil => exact ⟨⟨h1, h2, h3⟩, fun h => absurd rfl h⟩
  | cons c t =>
    simp only [List.all_cons, Bool.and_eq_true] at h1
    have e : kdB (Kd.part ⟨c :: t, b, nm⟩) = (kdB ⟨c :: t, b, nm⟩).tail := rfl
    have el : (kdB (Kd.part ⟨c :: t, b, nm⟩)).length + 1 = (kdB ⟨c :: t, b, nm⟩).length := rfl
    exact ⟨⟨h1.2, h2, by omega⟩, fun _ => ⟨e, el⟩⟩
end Go.Proofs.YtcjfgbcdlcdeaaaGreatDoor
/- Plain laws of cutting and joining, and of the fields of a schema. No program in sight. -/
namespace Go.Proofs.YtcjfgbcdlcdeaaaGreatDoor

/-! ### cutting at a byte -/
/-- A text cut at each byte c. -/
def splitL (c : UInt8) : List UInt8 → List (List UInt8)
  | [] => [[]]
  | x :: s => if x = c then [] :: splitL c s else match splitL c s with
    | p :: ps => (x :: p) :: ps
    | [] => [[x]]
/-- Texts joined by a byte. -/
def joinL (c : UInt8) : List (List UInt8) → List UInt8
  | [] => []
  | [p] => p
  | p :: ps => p ++ c :: joinL c ps

theorem splitL_ne (c : UInt8) (s : List UInt8) : splitL c s ≠ [] := by
  cases s with
  | nil => simp [splitL]
  | cons x s =>
    simp only [splitL]
    split
    · simp
    · split <;> simp
theorem joinL_cons (c : UInt8) (p : List UInt8) {ps : List (List UInt8)} (h : ps ≠ []) : joinL c (p :: ps) = p ++ c :: joinL c ps := by
  cases ps with
  | nil => exact absurd rfl h
  | cons q ps => rfl
theorem joinL_split (c : UInt8) : ∀ s : List UInt8, joinL c (splitL c s) = s
  | [] => rfl
  | x :: s => by
    have ih := joinL_split c s
    have hn := splitL_ne c s
    simp only [splitL]
    split
    · rename_i h
      rw [joinL_cons c _ hn, ih, h]; rfl
    · cases hs : splitL c s with
      | nil => exact absurd hs hn
      | cons p ps =>
        rw [hs] at ih
        cases ps with
        | nil => simpa [joinL] using ih
        | cons q ps =>
          rw [joinL_cons c _ (by simp)] at ih ⊢
          simp [ih]
theorem splitL_no (c : UInt8) : ∀ s : List UInt8, ∀ p ∈ splitL c s, c ∉ p
  | [], p, hp => by simp [splitL] at hp; simp [hp]
  | x :: s, p, hp => by
    have ih := splitL_no c s
    simp only [splitL] at hp
    split at hp
    · rcases List.mem_cons.1 hp with rfl | hp
      · simp
      · exact ih p hp
    · rename_i hx
      cases hs : splitL c s with
      | nil => exact absurd hs (splitL_ne c s)
      | cons q qs =>
        rw [hs] at hp ih
        rcases List.mem_cons.1 hp with rfl | hp
        · have := ih q (by simp)
          simp; exact ⟨fun h => hx h.symm, this⟩
        · exact ih p (by simp [hp])
theorem splitL_plain (c : UInt8) : ∀ p : List UInt8, c ∉ p → splitL c p = [p]
  | [], _ => rfl
  | x :: p, h => by
    simp at h
    simp only [splitL]
    rw [if_neg (fun e => h.1 e.symm), splitL_plain c p h.2]
theorem splitL_app (c : UInt8) : ∀ (p s : List UInt8), c ∉ p → splitL c (p ++ c :: s) = p :: splitL c s
  | [], s, _ => by simp [splitL]
  | x :: p, s, h => by
    simp at h
    simp only [List.cons_append, splitL]
    rw [if_neg (fun e => h.1 e.symm), splitL_app c p s h.2]
theorem splitL_join (c : UInt8) : ∀ ps : List (List UInt8), ps ≠ [] → (∀ p ∈ ps, c ∉ p) → splitL c (joinL c ps) = ps
  | [], h, _ => absurd rfl h
  | [p], _, h => splitL_plain c p (h p (by simp))
  | p :: q :: ps, _, h => by
    rw [joinL_cons c p (by simp), splitL_app c p _ (h p (by simp)), splitL_join c (q :: ps) (by simp) (fun x hx => h x (by simp [hx]))]
theorem splitL_iff {c : UInt8} {s : List UInt8} {ps : List (List UInt8)} : splitL c s = ps ↔ ps ≠ [] ∧ (∀ p ∈ ps, c ∉ p) ∧ joinL c ps = s :=
  ⟨fun h => by subst h; exact ⟨splitL_ne c s, splitL_no c s, joinL_split c s⟩, fun ⟨h1, h2, h3⟩ => by rw [← h3]; exact splitL_join c ps h1 h2⟩
theorem splitL_len (c : UInt8) : ∀ s : List UInt8, (splitL c s).length ≤ s.length + 1
  | [] => by simp [splitL]
  | x :: s => by
    have ih := splitL_len c s
    simp only [splitL]
    split
    · simp; exact ih
    · cases hs : splitL c s with
      | nil => exact absurd hs (splitL_ne c s)
      | cons p ps => rw [hs] at ih; simp at ih ⊢; omega
theorem splitL_plen (c : UInt8) : ∀ s : List UInt8, ∀ p ∈ splitL c s, p.length ≤ s.length
  | [], p, h => by simp [splitL] at h; simp [h]
  | x :: s, p, h => by
    have ih := splitL_plen c s
    simp only [splitL] at h
    split at h
    · rcases List.mem_cons.1 h with rfl | h
      · simp
      · exact Nat.le_succ_of_le (ih p h)
    · cases hs : splitL c s with
      | nil => exact absurd hs (splitL_ne c s)
      | cons q qs =>
        rw [hs] at ih h
        rcases List.mem_cons.1 h with rfl | h
        · have := ih q (by simp); simp; exact this
        · have := ih p (by simp [h]); simp; omega

/-- A text cut once at a byte. -/
def cutL (c : UInt8) (s : List UInt8) : List UInt8 × List UInt8 × Bool :=
  if c ∈ s then (s.takeWhile (· != c), (s.dropWhile (· != c)).tail, true) else (s, [], false)
theorem cutL_no {c : UInt8} {s : List UInt8} (h : c ∉ s) : cutL c s = (s, [], false) := if_neg h
theorem cutL_app {c : UInt8} {p s : List UInt8} (h : c ∉ p) : cutL c (p ++ c :: s) = (p, s, true) := by
  unfold cutL
  rw [if_pos (by simp)]
  have h1 : p.all (fun x => x != c) = true := by
    rw [List.all_eq_true]; intro x hx
    simp; rintro rfl; exact h hx
  obtain ⟨e1, e2⟩ := takeWhile_app (p := fun x => x != c) h1 ⟨c, s, rfl, by simp⟩
  rw [e1, e2]; rfl
theorem cutL_yes {c : UInt8} : ∀ {s : List UInt8}, c ∈ s → ∃ p t, s = p ++ c :: t ∧ c ∉ p
  | x :: s, h => by
    by_cases hx : x = c
    · exact ⟨[], s, by simp [hx], by simp⟩
    · obtain ⟨p, t, e, hp⟩ := cutL_yes (s := s) (by rcases List.mem_cons.1 h with h | h; exact absurd h.symm hx; exact h)
      exact ⟨x :: p, t, by simp [e], by simp; exact ⟨fun e => hx e.symm, hp⟩⟩
theorem cutL_cases (c : UInt8) (s : List UInt8) : (c ∉ s ∧ cutL c s = (s, [], false)) ∨ ∃ p t, s = p ++ c :: t ∧ c ∉ p ∧ cutL c s = (p, t, true) := by
  by_cases h : c ∈ s
  · obtain ⟨p, t, e, hp⟩ := cutL_yes h
    exact .inr ⟨p, t, e, hp, by rw [e]; exact cutL_app hp⟩
  · exact .inl ⟨h, cutL_no h⟩

/-! ### standing values that are told -/
def isTxt (c : UInt8) : Bool := isLow c || isDig c || c == 32
/-- A text: at most twelve letters, figures and blanks. -/
def textOk (s : List UInt8) : Bool := decide (s.length ≤ 12) && s.all isTxt
/-- A text may be told as a standing value of a letter. -/
def standOk (b s : List UInt8) : Bool :=
  if b = [110] then (match decL s with | some n => decide (0 < n) | none => false)
  else if b = [116] then decide (2 < s.length) && decide (s.head? = some 39) && decide (s.getLast? = some 39) && textOk (s.drop 1).dropLast
  else if b = [102] then decide (s = [121, 101, 115]) else false

theorem quote_ends {r : List UInt8} (h : 2 < r.length) (h1 : r.head? = some 39) (h2 : r.getLast? = some 39) : r = 39 :: ((r.drop 1).dropLast ++ [39]) := by
  cases r with
  | nil => simp at h1
  | cons a t =>
    simp at h1
    subst h1
    rcases snoc_cases t with rfl | ⟨u, c, rfl⟩
    · simp at h
    · have : c = 39 := by
        rw [show (39 : UInt8) :: (u ++ [c]) = (39 :: u) ++ [c] from rfl, List.getLast?_append] at h2
        simpa using h2
      subst this
      simp

/-- The bytes of what is told hold no sign of the schema's own. -/
def plainCh (c : UInt8) : Prop := c ≠ 10 ∧ c ≠ 44 ∧ c ≠ 58 ∧ c ≠ 61
theorem plain_dig {c : UInt8} (h : isDig c = true) : plainCh c := by
  rw [isDig_iff] at h
  refine ⟨?_, ?_, ?_, ?_⟩ <;> (rintro rfl; revert h; decide)
theorem plain_low {c : UInt8} (h : isLow c = true) : plainCh c := by
  rw [isLow_iff] at h
  refine ⟨?_, ?_, ?_, ?_⟩ <;> (rintro rfl; revert h; decide)
theorem plain_txt {c : UInt8} (h : isTxt c = true) : plainCh c := by
  unfold isTxt at h
  simp only [Bool.or_eq_true] at h
  rcases h with (h | h) | h
  · exact plain_low h
  · exact plain_dig h
  · have : c = 32 := by simpa using h
    subst this; exact ⟨by decide, by decide, by decide, by decide⟩
theorem plain_sign {c : UInt8} (h : isSign c = true) : plainCh c := by
  unfold isSign at h
  simp only [Bool.or_eq_true, beq_iff_eq] at h
  rcases h with rfl | rfl <;> exact ⟨by decide, by decide, by decide, by decide⟩
theorem plain_decB (n : Nat) : ∀ c ∈ decB n, plainCh c := fun c hc => plain_dig (List.all_eq_true.1 (decB_dig n) c hc)
theorem plain_name {s : List UInt8} (h : nameOk s = true) : ∀ c ∈ s, plainCh c := fun c hc => plain_low ((nameOk_iff.1 h).2.2 c hc)
theorem plain_kind {k : Kd} (h : kdOk k) : ∀ c ∈ kdB k, plainCh c := by
  intro c hc
  obtain ⟨h1, h2, _⟩ := h
  unfold kdB coreB at hc
  rcases List.mem_append.1 hc with hc | hc
  · exact plain_sign (List.all_eq_true.1 h1 c hc)
  · rcases h2 with ⟨h, hn⟩ | ⟨h, _⟩
    · rw [if_pos h] at hc
      rcases List.mem_cons.1 hc with rfl | hc
      · exact ⟨by decide, by decide, by decide, by decide⟩
      · rcases List.mem_append.1 hc with hc | hc
        · exact plain_name hn c hc
        · simp at hc; subst hc; exact ⟨by decide, by decide, by decide, by decide⟩
    · rw [if_neg (by rcases h with h | h | h <;> · rw [h]; decide)] at hc
      rcases h with h | h | h <;> · rw [h] at hc; simp at hc; subst hc; exact ⟨by decide, by decide, by decide, by decide⟩
theorem plain_stand {b s : List UInt8} (h : standOk b s = true) : s ≠ [] ∧ ∀ c ∈ s, plainCh c := by
  unfold standOk at h
  split at h
  · cases hd : decL s with
    | none => rw [hd] at h; cases h
    | some n =>
      obtain ⟨_, e⟩ := decL_some.1 hd
      subst e
      exact ⟨decB_ne n, plain_decB n⟩
  · split at h
    · simp only [Bool.and_eq_true, decide_eq_true_eq] at h
      obtain ⟨⟨⟨h1, h2⟩, h3⟩, h4⟩ := h
      have e := quote_ends h1 h2 h3
      refine ⟨by intro hh; rw [hh] at h1; simp at h1, fun c hc => ?_⟩
      rw [e] at hc
      have q : plainCh 39 := ⟨by decide, by decide, by decide, by decide⟩
      rcases List.mem_cons.1 hc with rfl | hc
      · exact q
      · rcases List.mem_append.1 hc with hc | hc
        · unfold textOk at h4
          simp only [Bool.and_eq_true] at h4
          exact plain_txt (List.all_eq_true.1 h4.2 c hc)
        · simp at hc; subst hc; exact q
    · split at h
      · simp only [decide_eq_true_eq] at h
        subst h
        refine ⟨by simp, fun c hc => ?_⟩
        simp at hc
        rcases hc with rfl | rfl | rfl <;> exact ⟨by decide, by decide, by decide, by decide⟩
      · cases h
theorem standOk_base {b s : List UInt8} (h : standOk b s = true) : b = [110] ∨ b = [116] ∨ b = [102] := by
  unfold standOk at h
  split at h
  · exact .inl (by assumption)
  · split at h
    · exact .inr (.inl (by assumption))
    · split at h
      · exact .inr (.inr (by assumption))
      · cases h

/-! ### fields -/
/-- A field of a type: 'given' is the standing value that is told, or nothing. -/
structure Fd where
  tag : Nat
  name : List UInt8
  kind : Kd
  given : List UInt8
deriving DecidableEq

/-- What stands behind the name of a field. -/
def tailB (st : UInt8) (f : Fd) : List UInt8 := if st = 69 then [] else 58 :: (kdB f.kind ++ if f.given = [] then [] else 61 :: f.given)
def fdB (st : UInt8) (f : Fd) : List UInt8 := decB f.tag ++ 58 :: (f.name ++ tailB st f)
def fdOk (st : UInt8) (f : Fd) : Prop :=
  1 ≤ f.tag ∧ f.tag ≤ 200 ∧ nameOk f.name = true ∧ (st = 69 → f.kind = Kd.nil ∧ f.given = []) ∧
  (st ≠ 69 → kdOk f.kind ∧ (f.given ≠ [] → st = 82 ∧ f.kind.signs = [] ∧ standOk f.kind.base f.given = true))

theorem notin {s : List UInt8} (h : ∀ c ∈ s, plainCh c) : 10 ∉ s ∧ 44 ∉ s ∧ 58 ∉ s ∧ 61 ∉ s :=
  ⟨fun hc => (h _ hc).1 rfl, fun hc => (h _ hc).2.1 rfl, fun hc => (h _ hc).2.2.1 rfl, fun hc => (h _ hc).2.2.2 rfl⟩

/-- Two or three parts between colons. -/
def fdL2 (p : List (List UInt8)) : Option (Nat × List UInt8) :=
  match p with
  | [a, b] => (match decL a with | some n => if 1 ≤ n ∧ n ≤ 200 ∧ nameOk b = true then some (n, b) else none | none => none)
  | _ => none
def fdL3 (p : List (List UInt8)) : Option (Nat × List UInt8 × List UInt8) :=
  match p with
  | [a, b, c] => (match decL a with | some n => if 1 ≤ n ∧ n ≤ 200 ∧ nameOk b = true then some (n, b, c) else none | none => none)
  | _ => none

/-- What a text tells as a field of a type of a sort: as the program reads it. -/
def fieldI (st : UInt8) (s : List UInt8) : Option Fd :=
  if st = 69 then
    match fdL2 (splitL 58 (cutL 61 s).1) with
    | some (n, b) => if (cutL 61 s).2.2 = true then none else some ⟨n, b, Kd.nil, (cutL 61 s).2.1⟩
    | none => none
  else
    match fdL3 (splitL 58 (cutL 61 s).1) with
    | some (n, b, c) => (match kindL c with
      | some k => if (cutL 61 s).2.2 = true ∧ ¬ (st = 82 ∧ k.signs = [] ∧ standOk k.base (cutL 61 s).2.1 = true) then none else some ⟨n, b, k, (cutL 61 s).2.1⟩
      | none => none)
    | none => none
/-- .. as the reference reads it. -/
def fieldS (st : UInt8) (s : List UInt8) : Option Fd :=
  if st = 69 then
    match fdL2 (splitL 58 s) with
    | some (n, b) => some ⟨n, b, Kd.nil, []⟩
    | none => none
  else
    match fdL3 (splitL 58 s) with
    | some (n, b, c) => (match splitL 61 c with
      | [k] => (match kindL k with | some k => some ⟨n, b, k, []⟩ | none => none)
      | [k, v] => if st = 82 ∧ standOk k v = true then some ⟨n, b, ⟨[], k, []⟩, v⟩ else none
      | _ => none)
    | none => none

theorem fdL2_some {p : List (List UInt8)} {n : Nat} {b : List UInt8} : fdL2 p = some (n, b) ↔ p = [decB n, b] ∧ 1 ≤ n ∧ n ≤ 200 ∧ nameOk b = true := by
  unfold fdL2
  constructor
  · intro h
    split at h
    · rename_i a b'
      cases hd : decL a with
      | none => rw [hd] at h; cases h
      | some m =>
        rw [hd] at h
        simp only at h
        split at h
        · rename_i hc
          simp at h
          obtain ⟨rfl, rfl⟩ := h
          rw [(decL_some.1 hd).2]
          exact ⟨rfl, hc⟩
        · cases h
    · cases h
  · rintro ⟨rfl, h⟩
    have e := decL_some.2 ⟨(by omega : n ≤ 999999), (rfl : decB n = decB n)⟩
    simp only [e, if_pos h]
theorem fdL3_some {p : List (List UInt8)} {n : Nat} {b c : List UInt8} : fdL3 p = some (n, b, c) ↔ p = [decB n, b, c] ∧ 1 ≤ n ∧ n ≤ 200 ∧ nameOk b = true := by
  unfold fdL3
  constructor
  · intro h
    split at h
    · rename_i a b' c'
      cases hd : decL a with
      | none => rw [hd] at h; cases h
      | some m =>
        rw [hd] at h
        simp only at h
        split at h
        · rename_i hc
          simp at h
          obtain ⟨rfl, rfl, rfl⟩ := h
          rw [(decL_some.1 hd).2]
          exact ⟨rfl, hc⟩
        · cases h
    · cases h
  · rintro ⟨rfl, h⟩
    have e := decL_some.2 ⟨(by omega : n ≤ 999999), (rfl : decB n = decB n)⟩
    simp only [e, if_pos h]

theorem kind_letter {k : List UInt8} (h : k = [110] ∨ k = [116] ∨ k = [102]) : kdOk ⟨[], k, []⟩ ∧ kdB ⟨[], k, []⟩ = k := by
  rcases h with rfl | rfl | rfl <;> exact ⟨⟨rfl, .inr ⟨by simp, rfl⟩, by decide⟩, by decide⟩

/-- What the reference reads as a field is what is told as one. -/
theorem fieldS_some {st : UInt8} {s : List UInt8} {f : Fd} : fieldS st s = some f ↔ fdOk st f ∧ fdB st f = s := by
  obtain ⟨tg, nm, k, gv⟩ := f
  unfold fieldS
  by_cases hst : st = 69
  · rw [if_pos hst]
    constructor
    · intro h
      cases hp : fdL2 (splitL 58 s) with
      | none => rw [hp] at h; cases h
      | some x =>
        obtain ⟨n, b⟩ := x
        rw [hp] at h
        simp at h
        obtain ⟨rfl, rfl, rfl, rfl⟩ := h
        obtain ⟨e, h1, h2, h3⟩ := fdL2_some.1 hp
        obtain ⟨_, _, e2⟩ := splitL_iff.1 e
        exact ⟨⟨h1, h2, h3, fun _ => ⟨rfl, rfl⟩, fun h => absurd hst h⟩, by rw [← e2]; simp [fdB, tailB, hst, joinL]⟩
    · rintro ⟨⟨h1, h2, h3, h4, _⟩, rfl⟩
      obtain ⟨e1, e2⟩ := h4 hst
      simp only at h1 h2 h3 e1 e2
      subst e1; subst e2
      have hs : splitL 58 (fdB st ⟨tg, nm, Kd.nil, []⟩) = [decB tg, nm] := splitL_iff.2 ⟨by simp, by
        intro p hp
        simp at hp
        rcases hp with rfl | rfl
        · exact (notin (plain_decB tg)).2.2.1
        · exact (notin (plain_name h3)).2.2.1, by simp [fdB, tailB, hst, joinL]⟩
      rw [hs, fdL2_some.2 ⟨rfl, h1, h2, h3⟩]
  · rw [if_neg hst]
    constructor
    · intro h
      cases hp : fdL3 (splitL 58 s) with
      | none => rw [hp] at h; cases h
      | some x =>
        obtain ⟨n, b, c⟩ := x
        rw [hp] at h
        simp only at h
        obtain ⟨e, h1, h2, h3⟩ := fdL3_some.1 hp
        obtain ⟨_, _, e2⟩ := splitL_iff.1 e
        split at h
        · rename_i k' hk
          obtain ⟨_, _, e3⟩ := splitL_iff.1 hk
          simp [joinL] at e3
          subst e3
          cases hkl : kindL k' with
          | none => rw [hkl] at h; cases h
          | some kk =>
            rw [hkl] at h
            simp at h
            obtain ⟨rfl, rfl, rfl, rfl⟩ := h
            obtain ⟨hk1, hk2⟩ := kindL_some.1 hkl
            exact ⟨⟨h1, h2, h3, fun h => absurd h hst, fun _ => ⟨hk1, fun h => absurd rfl h⟩⟩, by rw [← e2]; simp [fdB, tailB, hst, joinL, hk2]⟩
        · rename_i k' v hk
          split at h
          · rename_i hc
            simp at h
            obtain ⟨rfl, rfl, rfl, rfl⟩ := h
            obtain ⟨_, _, e3⟩ := splitL_iff.1 hk
            obtain ⟨hn, _⟩ := plain_stand hc.2
            obtain ⟨o1, o2⟩ := kind_letter (standOk_base hc.2)
            refine ⟨⟨h1, h2, h3, fun h => absurd h hst, fun _ => ⟨o1, fun _ => ⟨hc.1, rfl, hc.2⟩⟩⟩, ?_⟩
            rw [← e2, ← e3]
            simp [fdB, tailB, hst, joinL, o2, hn]
          · cases h
        · cases h
    · rintro ⟨⟨h1, h2, h3, _, h4⟩, rfl⟩
      obtain ⟨hk, hg⟩ := h4 hst
      simp only at h1 h2 h3 hk hg
      by_cases hgv : gv = []
      · subst hgv
        have hs : splitL 58 (fdB st ⟨tg, nm, k, []⟩) = [decB tg, nm, kdB k] := splitL_iff.2 ⟨by simp, by
          intro p hp
          simp at hp
          rcases hp with rfl | rfl | rfl
          · exact (notin (plain_decB tg)).2.2.1
          · exact (notin (plain_name h3)).2.2.1
          · exact (notin (plain_kind hk)).2.2.1, by simp [fdB, tailB, hst, joinL]⟩
        rw [hs, fdL3_some.2 ⟨rfl, h1, h2, h3⟩]
        simp only
        rw [splitL_plain 61 (kdB k) (notin (plain_kind hk)).2.2.2]
        simp only
        rw [kindL_some.2 ⟨hk, rfl⟩]
      · obtain ⟨g1, g2, g3⟩ := hg hgv
        obtain ⟨_, hp⟩ := plain_stand g3
        have hb := standOk_base g3
        obtain ⟨o1, o2⟩ := kind_letter hb
        have ek : k = ⟨[], k.base, []⟩ := by
          obtain ⟨sg, b, nm'⟩ := k
          simp only at g2 hb
          subst g2
          obtain ⟨_, hbo, _⟩ := hk
          rcases hbo with ⟨h, _⟩ | ⟨_, h⟩
          · exfalso
            simp only at h
            rcases hb with hb | hb | hb <;> · rw [h] at hb; revert hb; decide
          · simp only at h; rw [h]
        have eB : kdB k = k.base := by rw [ek]; exact o2
        have nb : ∀ c ∈ kdB k, plainCh c := plain_kind hk
        have hs : splitL 58 (fdB st ⟨tg, nm, k, gv⟩) = [decB tg, nm, kdB k ++ 61 :: gv] := splitL_iff.2 ⟨by simp, by
          intro p hp'
          simp at hp'
          rcases hp' with rfl | rfl | rfl
          · exact (notin (plain_decB tg)).2.2.1
          · exact (notin (plain_name h3)).2.2.1
          · intro hc
            rcases List.mem_append.1 hc with hc | hc
            · exact (notin nb).2.2.1 hc
            · rcases List.mem_cons.1 hc with hc | hc
              · revert hc; decide
              · exact (notin hp).2.2.1 hc, by simp [fdB, tailB, hst, joinL, hgv]⟩
        rw [hs, fdL3_some.2 ⟨rfl, h1, h2, h3⟩]
        simp only
        rw [splitL_app 61 (kdB k) gv (notin nb).2.2.2, splitL_plain 61 gv (notin hp).2.2.2]
        simp only
        rw [eB, if_pos ⟨g1, g3⟩, ← ek]

/-- What the program reads as a field is what is told as one. -/
theorem fieldI_some {st : UInt8} {s : List UInt8} {f : Fd} : fieldI st s = some f ↔ fdOk st f ∧ fdB st f = s := by
  obtain ⟨tg, nm, k, gv⟩ := f
  constructor
  · intro h
    unfold fieldI at h
    by_cases hst : st = 69
    · rw [if_pos hst] at h
      cases hp : fdL2 (splitL 58 (cutL 61 s).1) with
      | none => rw [hp] at h; cases h
      | some x =>
        obtain ⟨n, b⟩ := x
        rw [hp] at h
        simp only at h
        obtain ⟨e, h1, h2, h3⟩ := fdL2_some.1 hp
        obtain ⟨_, _, e2⟩ := splitL_iff.1 e
        rcases cutL_cases 61 s with ⟨hn, hc⟩ | ⟨p, t, _, _, hc⟩
        · rw [hc] at h e2
          simp at h
          obtain ⟨rfl, rfl, rfl, rfl⟩ := h
          exact ⟨⟨h1, h2, h3, fun _ => ⟨rfl, rfl⟩, fun h => absurd hst h⟩, by simp only at e2; rw [← e2]; simp [fdB, tailB, hst, joinL]⟩
        · rw [hc] at h
          simp at h
    · rw [if_neg hst] at h
      cases hp : fdL3 (splitL 58 (cutL 61 s).1) with
      | none => rw [hp] at h; cases h
      | some x =>
        obtain ⟨n, b, c⟩ := x
        rw [hp] at h
        simp only at h
        obtain ⟨e, h1, h2, h3⟩ := fdL3_some.1 hp
        obtain ⟨_, _, e2⟩ := splitL_iff.1 e
        cases hkl : kindL c with
        | none => rw [hkl] at h; cases h
        | some kk =>
          obtain ⟨hk1, hk2⟩ := kindL_some.1 hkl
          rw [hkl] at h
          simp only at h
          rcases cutL_cases 61 s with ⟨hn, hc⟩ | ⟨p, t, ec, _, hc⟩
          · rw [hc] at h e2
            simp at h
            obtain ⟨rfl, rfl, rfl, rfl⟩ := h
            exact ⟨⟨h1, h2, h3, fun h => absurd h hst, fun _ => ⟨hk1, fun h => absurd rfl h⟩⟩, by simp only at e2; rw [← e2]; simp [fdB, tailB, hst, joinL, hk2]⟩
          · rw [hc] at h e2
            simp only at h e2
            split at h
            · cases h
            · rename_i hcc
              have hcc' : st = 82 ∧ kk.signs = [] ∧ standOk kk.base t = true := Decidable.byContradiction fun hh => hcc ⟨trivial, hh⟩
              simp at h
              obtain ⟨rfl, rfl, rfl, rfl⟩ := h
              obtain ⟨hn, _⟩ := plain_stand hcc'.2.2
              exact ⟨⟨h1, h2, h3, fun h => absurd h hst, fun _ => ⟨hk1, fun _ => hcc'⟩⟩, by rw [ec, ← e2]; simp [fdB, tailB, hst, joinL, hk2, hn]⟩
  · intro h
    have hS := fieldS_some.2 h
    obtain ⟨⟨h1, h2, h3, h4, h5⟩, rfl⟩ := h
    simp only at h1 h2 h3 h4 h5
    unfold fieldI
    by_cases hst : st = 69
    · obtain ⟨e1, e2⟩ := h4 hst
      subst e1; subst e2
      have hno : 61 ∉ fdB st ⟨tg, nm, Kd.nil, []⟩ := by
        simp [fdB, tailB, hst]
        exact ⟨(notin (plain_decB tg)).2.2.2, (notin (plain_name h3)).2.2.2⟩
      rw [if_pos hst, cutL_no hno]
      simp only
      have hs : splitL 58 (fdB st ⟨tg, nm, Kd.nil, []⟩) = [decB tg, nm] := splitL_iff.2 ⟨by simp, by
        intro p hp
        simp at hp
        rcases hp with rfl | rfl
        · exact (notin (plain_decB tg)).2.2.1
        · exact (notin (plain_name h3)).2.2.1, by simp [fdB, tailB, hst, joinL]⟩
      rw [hs, fdL2_some.2 ⟨rfl, h1, h2, h3⟩]
      simp
    · obtain ⟨hk, hg⟩ := h5 hst
      have nb : ∀ c ∈ kdB k, plainCh c := plain_kind hk
      have hno : 61 ∉ decB tg ++ 58 :: (nm ++ 58 :: kdB k) := by
        simp
        exact ⟨(notin (plain_decB tg)).2.2.2, (notin (plain_name h3)).2.2.2, (notin nb).2.2.2⟩
      have hs : splitL 58 (decB tg ++ 58 :: (nm ++ 58 :: kdB k)) = [decB tg, nm, kdB k] := splitL_iff.2 ⟨by simp, by
        intro p hp
        simp at hp
        rcases hp with rfl | rfl | rfl
        · exact (notin (plain_decB tg)).2.2.1
        · exact (notin (plain_name h3)).2.2.1
        · exact (notin nb).2.2.1, by simp [joinL]⟩
      rw [if_neg hst]
      by_cases hgv : gv = []
      · subst hgv
        have e : fdB st ⟨tg, nm, k, []⟩ = decB tg ++ 58 :: (nm ++ 58 :: kdB k) := by simp [fdB, tailB, hst]
        rw [e, cutL_no hno]
        simp only
        rw [hs, fdL3_some.2 ⟨rfl, h1, h2, h3⟩]
        simp only
        rw [kindL_some.2 ⟨hk, rfl⟩]
        simp
      · have e : fdB st ⟨tg, nm, k, gv⟩ = (decB tg ++ 58 :: (nm ++ 58 :: kdB k)) ++ 61 :: gv := by simp [fdB, tailB, hst, hgv]
        rw [e, cutL_app hno]
        simp only
        rw [hs, fdL3_some.2 ⟨rfl, h1, h2, h3⟩]
        simp only
        rw [kindL_some.2 ⟨hk, rfl⟩]
        simp only
        rw [if_neg (fun hh => hh.2 (hg hgv))]

theorem fieldI_eq (st : UInt8) (s : List UInt8) : fieldI st s = fieldS st s := by
  cases h : fieldS st s with
  | some f => exact fieldI_some.2 (fieldS_some.1 h)
  | none =>
    cases h2 : fieldI st s with
    | none => rfl
    | some f => rw [fieldS_some.2 (fieldI_some.1 h2)] at h; cases h

theorem fdB_plain {st : UInt8} {f : Fd} (h : fdOk st f) : 10 ∉ fdB st f ∧ 44 ∉ fdB st f ∧ fdB st f ≠ [] := by
  obtain ⟨h1, h2, h3, h4, h5⟩ := h
  have hd := decB_ne f.tag
  refine ⟨?_, ?_, by unfold fdB; simp⟩
  all_goals
    unfold fdB tailB
    simp only [List.mem_append, List.mem_cons, not_or]
    refine ⟨?_, by decide, ?_, ?_⟩
    · first | exact (notin (plain_decB f.tag)).1 | exact (notin (plain_decB f.tag)).2.1
    · first | exact (notin (plain_name h3)).1 | exact (notin (plain_name h3)).2.1
    · by_cases hst : st = 69
      · rw [if_pos hst]; simp
      · rw [if_neg hst]
        obtain ⟨hk, hg⟩ := h5 hst
        simp only [List.mem_append, List.mem_cons, not_or]
        refine ⟨by decide, ?_, ?_⟩
        · first | exact (notin (plain_kind hk)).1 | exact (notin (plain_kind hk)).2.1
        · by_cases hgv : f.given = []
          · rw [if_pos hgv]; simp
          · rw [if_neg hgv]
            have hp := (plain_stand (hg hgv).2.2).2
            simp only [List.mem_cons, not_or]
            refine ⟨by decide, ?_⟩
            first | exact (notin hp).1 | exact (notin hp).2.1
theorem fdB_inj {st : UInt8} {f g : Fd} (hf : fdOk st f) (hg : fdOk st g) (h : fdB st f = fdB st g) : f = g := by
  have h1 := fieldS_some.2 ⟨hf, rfl⟩
  have h2 := fieldS_some.2 ⟨hg, h.symm⟩
  rw [h1] at h2
  injection h2
end Go.Proofs.YtcjfgbcdlcdeaaaGreatDoor
/- Plain laws of types and schemas: what is read is what is told. No program in sight. -/
namespace Go.Proofs.YtcjfgbcdlcdeaaaGreatDoor

structure Ty where
  sort : UInt8
  name : List UInt8
  fields : List Fd
deriving DecidableEq

/-- A field may stand behind others. -/
def fitsIn (fs : List Fd) (f : Fd) : Bool := fs.all fun g => decide (g.name ≠ f.name) && decide (g.tag < f.tag)
/-- The fields of parts, behind those that have been read: as the program reads them. -/
def fieldsI (st : UInt8) : List (List UInt8) → List Fd → Option (List Fd)
  | [], acc => some acc
  | p :: ps, acc => match fieldI st p with
    | none => none
    | some f => if acc.length = 8 ∨ fitsIn acc f = false then none else fieldsI st ps (acc ++ [f])
/-- .. as the reference reads them. -/
def fieldsS (st : UInt8) : List (List UInt8) → List Fd → Option (List Fd)
  | [], acc => some acc
  | p :: ps, acc => match fieldS st p with
    | none => none
    | some f => if fitsIn acc f = false then none else fieldsS st ps (acc ++ [f])
def Fds (st : UInt8) (fs : List Fd) : Prop := (∀ f ∈ fs, fdOk st f) ∧ fs.Pairwise fun g f => g.name ≠ f.name ∧ g.tag < f.tag

theorem fitsIn_iff {fs : List Fd} {f : Fd} : fitsIn fs f = true ↔ ∀ g ∈ fs, g.name ≠ f.name ∧ g.tag < f.tag := by simp [fitsIn]
theorem Fds_snoc {st : UInt8} {fs : List Fd} {f : Fd} : Fds st (fs ++ [f]) ↔ Fds st fs ∧ fdOk st f ∧ fitsIn fs f = true := by
  unfold Fds
  rw [fitsIn_iff, List.pairwise_append]
  constructor
  · rintro ⟨h1, h2, _, h3⟩
    exact ⟨⟨fun g hg => h1 g (by simp [hg]), h2⟩, h1 f (by simp), fun g hg => h3 g hg f (by simp)⟩
  · rintro ⟨⟨h1, h2⟩, h3, h4⟩
    refine ⟨fun g hg => ?_, h2, by simp, fun g hg f' hf' => ?_⟩
    · rcases List.mem_append.1 hg with hg | hg
      · exact h1 g hg
      · simp at hg; subst hg; exact h3
    · simp at hf'; subst hf'; exact h4 g hg

theorem fieldsS_some (st : UInt8) : ∀ (ps : List (List UInt8)) (acc r : List Fd), Fds st acc → (fieldsS st ps acc = some r ↔ Fds st r ∧ ∃ gs, r = acc ++ gs ∧ gs.map (fdB st) = ps)
  | [], acc, r, ha => by
    simp only [fieldsS, Option.some.injEq]
    constructor
    · rintro rfl; exact ⟨ha, [], by simp, rfl⟩
    · rintro ⟨_, gs, e, h⟩
      have : gs = [] := by simpa using h
      subst this; simpa using e.symm
  | p :: ps, acc, r, ha => by
    simp only [fieldsS]
    cases hf : fieldS st p with
    | none =>
      simp only [reduceCtorEq, false_iff]
      rintro ⟨hr, gs, rfl, h⟩
      cases gs with
      | nil => simp at h
      | cons g gs =>
        simp at h
        have := fieldS_some.2 ⟨hr.1 g (by simp), h.1⟩
        rw [this] at hf; cases hf
    | some f =>
      obtain ⟨ok, eb⟩ := fieldS_some.1 hf
      simp only
      by_cases hfit : fitsIn acc f = false
      · rw [if_pos hfit]
        simp only [reduceCtorEq, false_iff]
        rintro ⟨hr, gs, rfl, h⟩
        cases gs with
        | nil => simp at h
        | cons g gs =>
          simp at h
          have hg : g = f := fdB_inj (hr.1 g (by simp)) ok (h.1.trans eb.symm)
          subst hg
          have h2 : Fds st (acc ++ [g] ++ gs) := by simpa using hr
          have h3 : Fds st (acc ++ [g]) := ⟨fun x hx => h2.1 x (by simp at hx ⊢; rcases hx with hx | hx <;> simp [hx]), (List.pairwise_append.1 h2.2).1⟩
          rw [(Fds_snoc.1 h3).2.2] at hfit; cases hfit
      · rw [if_neg hfit]
        have hfit' : fitsIn acc f = true := by simpa using hfit
        rw [fieldsS_some st ps (acc ++ [f]) r (Fds_snoc.2 ⟨ha, ok, hfit'⟩)]
        constructor
        · rintro ⟨hr, gs, rfl, h⟩
          exact ⟨hr, f :: gs, by simp, by simp [eb, h]⟩
        · rintro ⟨hr, gs, rfl, h⟩
          cases gs with
          | nil => simp at h
          | cons g gs =>
            simp at h
            have hg : g = f := fdB_inj (hr.1 g (by simp)) ok (h.1.trans eb.symm)
            subst hg
            exact ⟨hr, gs, by simp, h.2⟩

theorem fieldsI_eq (st : UInt8) : ∀ (ps : List (List UInt8)) (acc : List Fd), acc.length ≤ 8 → fieldsI st ps acc = (match fieldsS st ps acc with | some r => if r.length ≤ 8 then some r else none | none => none)
  | [], acc, h => by simp [fieldsI, fieldsS, h]
  | p :: ps, acc, h => by
    simp only [fieldsI, fieldsS, fieldI_eq]
    cases hf : fieldS st p with
    | none => rfl
    | some f =>
      simp only
      by_cases hfit : fitsIn acc f = false
      · rw [if_pos (.inr hfit), if_pos hfit]
      · rw [if_neg hfit]
        by_cases h8 : acc.length = 8
        · rw [if_pos (.inl h8)]
          have key : ∀ (ps : List (List UInt8)) (a r : List Fd), fieldsS st ps a = some r → a.length ≤ r.length := by
            intro ps
            induction ps with
            | nil => intro a r h; simp [fieldsS] at h; rw [h]; exact Nat.le_refl _
            | cons q qs ih =>
              intro a r h
              simp only [fieldsS] at h
              split at h
              · cases h
              · split at h
                · cases h
                · have := ih _ _ h
                  simp at this; omega
          cases hr : fieldsS st ps (acc ++ [f]) with
          | none => rfl
          | some r =>
            have := key _ _ _ hr
            simp at this
            simp only
            rw [if_neg (by omega)]
        · rw [if_neg (by simp [h8, hfit])]
          exact fieldsI_eq st ps (acc ++ [f]) (by simp; omega)

/-- The letter of a type. -/
def sortOk (c : UInt8) : Prop := c = 82 ∨ c = 85 ∨ c = 69
instance (c : UInt8) : Decidable (sortOk c) := by unfold sortOk; infer_instance
def tyOk (t : Ty) : Prop := sortOk t.sort ∧ nameOk t.name = true ∧ Fds t.sort t.fields ∧ t.fields.length ≤ 8 ∧ (t.fields = [] → t.sort = 82)
def tyB (t : Ty) : List UInt8 := t.sort :: (t.name ++ 61 :: joinL 44 (t.fields.map (fdB t.sort)))

/-- What a line tells as a type: as the program reads it. -/
def typeI (s : List UInt8) : Option Ty :=
  match s with
  | [] => none
  | c :: r =>
    if ¬ sortOk c ∨ (cutL 61 r).2.2 = false ∨ nameOk (cutL 61 r).1 = false then none
    else if (cutL 61 r).2.1 = [] then (if c = 82 then some ⟨c, (cutL 61 r).1, []⟩ else none)
    else match fieldsI c (splitL 44 (cutL 61 r).2.1) [] with
      | some fs => some ⟨c, (cutL 61 r).1, fs⟩
      | none => none

theorem joinL_ne {c : UInt8} {ps : List (List UInt8)} (h : ps ≠ []) (h1 : ∀ p ∈ ps, p ≠ []) : joinL c ps ≠ [] := by
  cases ps with
  | nil => exact absurd rfl h
  | cons p ps =>
    have := h1 p (by simp)
    cases ps with
    | nil => exact this
    | cons q ps => rw [joinL_cons c p (by simp)]; simp

theorem Fds_nil (st : UInt8) : Fds st [] := ⟨by simp, List.Pairwise.nil⟩

theorem fieldsI_some {st : UInt8} {ps : List (List UInt8)} {r : List Fd} : fieldsI st ps [] = some r ↔ Fds st r ∧ r.length ≤ 8 ∧ r.map (fdB st) = ps := by
  rw [fieldsI_eq st ps [] (by simp)]
  constructor
  · intro h
    cases hs : fieldsS st ps [] with
    | none => rw [hs] at h; cases h
    | some x =>
      rw [hs] at h
      simp only at h
      split at h
      · rename_i h8
        injection h with h
        subst h
        obtain ⟨h1, gs, e, h2⟩ := (fieldsS_some st ps [] x (Fds_nil st)).1 hs
        simp at e; subst e
        exact ⟨h1, h8, h2⟩
      · cases h
  · rintro ⟨h1, h2, h3⟩
    rw [(fieldsS_some st ps [] r (Fds_nil st)).2 ⟨h1, r, by simp, h3⟩]
    simp [h2]

theorem sortOk_ne {c : UInt8} (h : sortOk c) : c ≠ 61 ∧ c ≠ 10 := by
  rcases h with rfl | rfl | rfl <;> exact ⟨by decide, by decide⟩

theorem typeI_some {s : List UInt8} {t : Ty} : typeI s = some t ↔ tyOk t ∧ tyB t = s := by
  obtain ⟨st, nm, fs⟩ := t
  constructor
  · intro h
    unfold typeI at h
    split at h
    · cases h
    · rename_i c r
      split at h
      · cases h
      · rename_i hc
        have hc1 : sortOk c := Decidable.byContradiction fun hh => hc (.inl hh)
        have hc2 : (cutL 61 r).2.2 = true := by
          cases hb : (cutL 61 r).2.2 with
          | true => rfl
          | false => exact absurd (.inr (.inl hb)) hc
        have hc3 : nameOk (cutL 61 r).1 = true := by
          cases hb : nameOk (cutL 61 r).1 with
          | true => rfl
          | false => exact absurd (.inr (.inr hb)) hc
        rcases cutL_cases 61 r with ⟨_, e⟩ | ⟨p, u, er, hp, e⟩
        · rw [e] at hc2; cases hc2
        · rw [e] at h hc3
          simp only at h hc3
          split at h
          · rename_i hu
            subst hu
            split at h
            · rename_i h82
              injection h with h
              injection h with e1 e2 e3
              subst e1; subst e2; subst e3
              exact ⟨⟨hc1, hc3, Fds_nil _, by simp, fun _ => h82⟩, by rw [er]; simp [tyB, joinL]⟩
            · cases h
          · rename_i hu
            cases hf : fieldsI c (splitL 44 u) [] with
            | none => rw [hf] at h; cases h
            | some x =>
              rw [hf] at h
              injection h with h
              injection h with e1 e2 e3
              subst e1; subst e2; subst e3
              obtain ⟨f1, f2, f3⟩ := fieldsI_some.1 hf
              obtain ⟨s1, _, s3⟩ := splitL_iff.1 f3.symm
              exact ⟨⟨hc1, hc3, f1, f2, fun hh => by simp only at hh; subst hh; exact absurd rfl s1⟩, by rw [er]; simp only [tyB]; rw [s3]⟩
  · rintro ⟨⟨h1, h2, h3, h4, h5⟩, rfl⟩
    simp only at h1 h2 h3 h4 h5
    have hno : 61 ∉ nm := (notin (plain_name h2)).2.2.2
    unfold typeI tyB
    simp only
    rw [cutL_app hno]
    simp only
    rw [if_neg (by simp [h1, h2])]
    by_cases hf : fs = []
    · subst hf
      rw [h5 rfl]
      simp [joinL]
    · have hn : joinL 44 (fs.map (fdB st)) ≠ [] := joinL_ne (by simpa using hf) (by
        intro p hp
        obtain ⟨f, hf', rfl⟩ := List.mem_map.1 hp
        exact (fdB_plain (h3.1 f hf')).2.2)
      have hs : splitL 44 (joinL 44 (fs.map (fdB st))) = fs.map (fdB st) := splitL_join 44 _ (by simpa using hf) (by
        intro p hp
        obtain ⟨f, hf', rfl⟩ := List.mem_map.1 hp
        exact (fdB_plain (h3.1 f hf')).2.1)
      rw [if_neg hn, hs, fieldsI_some.2 ⟨h3, h4, rfl⟩]

theorem tyB_plain {t : Ty} (h : tyOk t) : 10 ∉ tyB t ∧ tyB t ≠ [] := by
  refine ⟨?_, by unfold tyB; simp⟩
  obtain ⟨h1, h2, h3, _, _⟩ := h
  unfold tyB
  simp only [List.mem_append, List.mem_cons, not_or]
  refine ⟨fun e => (sortOk_ne h1).2 e.symm, (notin (plain_name h2)).1, by decide, ?_⟩
  have key : ∀ ps : List (List UInt8), (∀ p ∈ ps, (10 : UInt8) ∉ p) → (10 : UInt8) ∉ joinL 44 ps := by
    intro ps
    induction ps with
    | nil => intro _; simp [joinL]
    | cons p ps ih =>
      intro hp
      cases ps with
      | nil => exact hp p (by simp)
      | cons q ps =>
        rw [joinL_cons 44 p (by simp)]
        simp only [List.mem_append, List.mem_cons, not_or]
        refine ⟨hp p (by simp), by decide, ih (fun x hx => hp x (by simp [hx]))⟩
  apply key
  intro p hp
  obtain ⟨f, hf', rfl⟩ := List.mem_map.1 hp
  exact (fdB_plain (h3.1 f hf')).1
theorem tyB_inj {t u : Ty} (ht : tyOk t) (hu : tyOk u) (h : tyB t = tyB u) : t = u := by
  have h1 := typeI_some.2 ⟨ht, rfl⟩
  have h2 := typeI_some.2 ⟨hu, h.symm⟩
  rw [h1] at h2
  injection h2

/-! ### the lines of a schema -/
def scB (S : List Ty) : List UInt8 := S.flatMap fun t => tyB t ++ [10]
def linesOk (S : List Ty) : Prop := (∀ t ∈ S, tyOk t) ∧ S.length ≤ 8 ∧ S.Pairwise fun t u => t.name ≠ u.name
/-- The types of lines, behind those that have been read: as the program reads them. -/
def linesI : Nat → List UInt8 → List Ty → Option (List Ty)
  | 0, _, _ => none
  | n + 1, s, acc =>
    if s = [] then some acc
    else if (cutL 10 s).2.2 = false ∨ acc.length = 8 then none
    else match typeI (cutL 10 s).1 with
      | none => none
      | some t => if acc.any (fun u => decide (u.name = t.name)) = true then none else linesI n (cutL 10 s).2.1 (acc ++ [t])

theorem linesOk_snoc {S : List Ty} {t : Ty} : linesOk (S ++ [t]) ↔ linesOk S ∧ tyOk t ∧ S.length < 8 ∧ S.any (fun u => decide (u.name = t.name)) = false := by
  unfold linesOk
  rw [List.pairwise_append]
  constructor
  · rintro ⟨h1, h2, h3, _, h4⟩
    simp at h2
    refine ⟨⟨fun u hu => h1 u (by simp [hu]), by omega, h3⟩, h1 t (by simp), by omega, ?_⟩
    simp; intro u hu; exact h4 u hu t (by simp)
  · rintro ⟨⟨h1, h2, h3⟩, h4, h5, h6⟩
    simp at h6
    refine ⟨fun u hu => ?_, by simp; omega, h3, by simp, fun u hu v hv => ?_⟩
    · rcases List.mem_append.1 hu with hu | hu
      · exact h1 u hu
      · simp at hu; subst hu; exact h4
    · simp at hv; subst hv; exact h6 u hu

theorem scB_cons (t : Ty) (S : List Ty) : scB (t :: S) = tyB t ++ 10 :: scB S := by simp [scB]

theorem linesI_some : ∀ (n : Nat) (s : List UInt8) (acc r : List Ty), s.length < n → linesOk acc → (linesI n s acc = some r ↔ linesOk r ∧ ∃ U, r = acc ++ U ∧ scB U = s)
  | 0, s, acc, r, h, _ => absurd h (Nat.not_lt_zero _)
  | n + 1, s, acc, r, h, ha => by
    simp only [linesI]
    by_cases hs : s = []
    · subst hs
      rw [if_pos rfl]
      constructor
      · intro hh; injection hh with hh; subst hh; exact ⟨ha, [], by simp, rfl⟩
      · rintro ⟨_, U, rfl, e⟩
        cases U with
        | nil => simp
        | cons t U => rw [scB_cons] at e; simp at e
    · rw [if_neg hs]
      rcases cutL_cases 10 s with ⟨hn, e⟩ | ⟨p, u, es, hp, e⟩
      · rw [e, if_pos (.inl rfl)]
        simp only [reduceCtorEq, false_iff]
        rintro ⟨_, U, rfl, eU⟩
        cases U with
        | nil => exact hs eU.symm
        | cons t U => rw [scB_cons] at eU; rw [← eU] at hn; simp at hn
      · rw [e]
        simp only
        by_cases h8 : acc.length = 8
        · rw [if_pos (.inr h8)]
          simp only [reduceCtorEq, false_iff]
          rintro ⟨hr, U, rfl, eU⟩
          cases U with
          | nil => exact hs eU.symm
          | cons t U => have := hr.2.1; simp at this; omega
        · rw [if_neg (by simp [h8])]
          have hsplit : ∀ t U, tyOk t → scB (t :: U) = s → tyB t = p ∧ scB U = u := by
            intro t U ht eU
            rw [scB_cons, es] at eU
            have h1 := cutL_app (s := scB U) (tyB_plain ht).1
            rw [eU, cutL_app hp] at h1
            injection h1 with e1 e2
            injection e2 with e2 _
            exact ⟨e1.symm, e2.symm⟩
          cases ht : typeI p with
          | none =>
            simp only [reduceCtorEq, false_iff]
            rintro ⟨hr, U, rfl, eU⟩
            cases U with
            | nil => exact hs eU.symm
            | cons t U =>
              have ok : tyOk t := hr.1 t (by simp)
              rw [typeI_some.2 ⟨ok, (hsplit t U ok eU).1⟩] at ht
              cases ht
          | some t =>
            obtain ⟨ok, eb⟩ := typeI_some.1 ht
            simp only
            by_cases hd : acc.any (fun u => decide (u.name = t.name)) = true
            · rw [if_pos hd]
              simp only [reduceCtorEq, false_iff]
              rintro ⟨hr, U, rfl, eU⟩
              cases U with
              | nil => exact hs eU.symm
              | cons t' U =>
                have ok' : tyOk t' := hr.1 t' (by simp)
                have ett : t' = t := tyB_inj ok' ok ((hsplit t' U ok' eU).1.trans eb.symm)
                subst ett
                simp at hd
                obtain ⟨v, hv, hvn⟩ := hd
                exact (List.pairwise_append.1 hr.2.2).2.2 v hv t' (by simp) hvn
            · rw [if_neg hd]
              have hlen : u.length < n := by rw [es] at h; simp at h; omega
              rw [linesI_some n u (acc ++ [t]) r hlen (linesOk_snoc.2 ⟨ha, ok, by have := ha.2.1; omega, by simpa using hd⟩)]
              constructor
              · rintro ⟨hr, U, rfl, eU⟩
                exact ⟨hr, t :: U, by simp, by rw [scB_cons, eb, eU, es]⟩
              · rintro ⟨hr, U, rfl, eU⟩
                cases U with
                | nil => exact absurd eU.symm hs
                | cons t' U =>
                  have ok' : tyOk t' := hr.1 t' (by simp)
                  obtain ⟨e1, e2⟩ := hsplit t' U ok' eU
                  have ett : t' = t := tyB_inj ok' ok (e1.trans eb.symm)
                  subst ett
                  exact ⟨hr, U, by simp, e2⟩
end Go.Proofs.YtcjfgbcdlcdeaaaGreatDoor
/- Plain laws of schemas: the reference reads the same types; unions that end; standing values. No program in sight. -/
namespace Go.Proofs.YtcjfgbcdlcdeaaaGreatDoor

/-- What a line tells as a type, as the reference reads it. -/
def typeS (s : List UInt8) : Option Ty :=
  match cutL 61 s with
  | (c :: nm, u, true) =>
    if ¬ nameOk nm = true ∨ ¬ sortOk c then none
    else if u = [] then (if c = 82 then some ⟨c, nm, []⟩ else none)
    else match fieldsS c (splitL 44 u) [] with
      | some r => if r.length ≤ 8 then some ⟨c, nm, r⟩ else none
      | none => none
  | _ => none

theorem typeS_eq (s : List UInt8) : typeS s = typeI s := by
  cases s with
  | nil => rfl
  | cons c r =>
    unfold typeS typeI
    by_cases hc : c = 61
    · subst hc
      have e : cutL 61 (61 :: r) = ([], r, true) := cutL_app (p := []) (by simp)
      rw [e]
      simp only
      rw [if_pos (.inl (by decide))]
    · rcases cutL_cases 61 r with ⟨hn, e⟩ | ⟨p, u, er, hp, e⟩
      · have e2 : cutL 61 (c :: r) = (c :: r, [], false) := cutL_no (by simp; exact ⟨fun h => hc h.symm, hn⟩)
        rw [e2]
        simp [e]
      · have e2 : cutL 61 (c :: r) = (c :: p, u, true) := by
          rw [er]; exact cutL_app (p := c :: p) (by simp; exact ⟨fun h => hc h.symm, hp⟩)
        rw [e2]
        simp only [e]
        by_cases h1 : nameOk p = true
        · by_cases h2 : sortOk c
          · by_cases hu : u = []
            · subst hu
              simp [h1, h2]
            · have hx : ∀ (a b : Option Ty), (if ¬ nameOk p = true ∨ ¬ sortOk c then a else b) = b := fun a b => if_neg (by simp [h1, h2])
              have hy : ∀ (a b : Option Ty), (if ¬ sortOk c ∨ true = false ∨ nameOk p = false then a else b) = b := fun a b => if_neg (by simp [h1, h2])
              have hz : ∀ (a b : Option Ty), (if u = [] then a else b) = b := fun a b => if_neg hu
              rw [hx, hy, hz, hz, fieldsI_eq c _ [] (by simp)]
              cases fieldsS c (splitL 44 u) [] with
              | none => rfl
              | some r => simp only; split <;> rfl
          · rw [if_pos (.inr h2), if_pos (.inl h2)]
        · rw [if_pos (.inl h1), if_pos (.inr (.inr (by simpa using h1)))]

/-- The types of lines, each by itself. -/
def typesL : List (List UInt8) → Option (List Ty)
  | [] => some []
  | p :: ps => match typeI p with
    | none => none
    | some t => match typesL ps with
      | none => none
      | some ts => some (t :: ts)
theorem typesL_some : ∀ (ps : List (List UInt8)) (ts : List Ty), typesL ps = some ts ↔ (∀ t ∈ ts, tyOk t) ∧ ts.map tyB = ps
  | [], ts => by
    simp only [typesL, Option.some.injEq]
    constructor
    · rintro rfl; simp
    · rintro ⟨_, h⟩; simpa using h.symm
  | p :: ps, ts => by
    simp only [typesL]
    cases ht : typeI p with
    | none =>
      simp only [reduceCtorEq, false_iff]
      rintro ⟨h, e⟩
      cases ts with
      | nil => simp at e
      | cons t ts =>
        simp at e
        rw [typeI_some.2 ⟨h t (by simp), e.1⟩] at ht; cases ht
    | some t =>
      obtain ⟨ok, eb⟩ := typeI_some.1 ht
      simp only
      have ih := typesL_some ps
      constructor
      · intro h
        cases hr : typesL ps with
        | none => rw [hr] at h; cases h
        | some us =>
          rw [hr] at h
          injection h with h
          subst h
          obtain ⟨i1, i2⟩ := (ih us).1 hr
          exact ⟨by simpa using ⟨ok, i1⟩, by simp [eb, i2]⟩
      · rintro ⟨h, e⟩
        cases ts with
        | nil => simp at e
        | cons u us =>
          simp at e
          have : u = t := tyB_inj (h u (by simp)) ok (e.1.trans eb.symm)
          subst this
          rw [(ih us).2 ⟨fun x hx => h x (by simp [hx]), e.2⟩]

/-- The types of a text, as the reference reads them: not yet whether names are apart. -/
def linesS (s : List UInt8) : Option (List Ty) :=
  if 9 < (splitL 10 s).length ∨ (splitL 10 s).getLast? ≠ some [] then none else typesL (splitL 10 s).dropLast

theorem scB_join (S : List Ty) : joinL 10 (S.map tyB ++ [[]]) = scB S := by
  induction S with
  | nil => rfl
  | cons t S ih =>
    rw [List.map_cons, List.cons_append, joinL_cons 10 _ (by simp), ih, scB_cons]

theorem linesS_some {s : List UInt8} {S : List Ty} : linesS s = some S ↔ (∀ t ∈ S, tyOk t) ∧ S.length ≤ 8 ∧ scB S = s := by
  unfold linesS
  constructor
  · intro h
    split at h
    · cases h
    · rename_i hc
      have h9 : (splitL 10 s).length ≤ 9 := by
        rcases Nat.lt_or_ge 9 (splitL 10 s).length with hh | hh
        · exact absurd (.inl hh) hc
        · exact hh
      have hl : (splitL 10 s).getLast? = some [] := by
        refine Decidable.byContradiction fun hh => hc (.inr hh)
      obtain ⟨t1, t2⟩ := (typesL_some _ _).1 h
      have e : splitL 10 s = S.map tyB ++ [[]] := by
        rcases snoc_cases (splitL 10 s) with hh | ⟨t, c, hh⟩
        · exact absurd hh (splitL_ne 10 s)
        · rw [hh] at hl t2 ⊢
          simp at hl t2
          rw [t2, hl]
      have hs := joinL_split 10 s
      rw [e, scB_join] at hs
      rw [e] at h9
      simp at h9
      exact ⟨t1, h9, hs⟩
  · rintro ⟨h1, h2, rfl⟩
    have e : splitL 10 (scB S) = S.map tyB ++ [[]] := by
      rw [← scB_join]
      refine splitL_join 10 _ (by simp) ?_
      intro p hp
      rcases List.mem_append.1 hp with hp | hp
      · obtain ⟨t, ht, rfl⟩ := List.mem_map.1 hp
        exact (tyB_plain (h1 t ht)).1
      · simp at hp; subst hp; simp
    rw [e, if_neg (by simp; omega)]
    simp only [List.dropLast_concat]
    exact (typesL_some _ _).2 ⟨h1, rfl⟩

/-! ### names that are those of types -/
def findTy (S : List Ty) (n : List UInt8) : Option Ty := S.find? fun t => decide (t.name = n)
theorem findTy_some {S : List Ty} {n : List UInt8} {t : Ty} (h : findTy S n = some t) : t ∈ S ∧ t.name = n := by
  have h1 := List.mem_of_find?_eq_some h
  have h2 := List.find?_some h
  exact ⟨h1, by simpa using h2⟩
theorem findTy_none {S : List Ty} {n : List UInt8} (h : findTy S n = none) : ∀ t ∈ S, t.name ≠ n := by
  intro t ht
  have := List.find?_eq_none.1 h t ht
  simpa using this
theorem findTy_mem {S : List Ty} {t : Ty} (hp : S.Pairwise fun t u => t.name ≠ u.name) (ht : t ∈ S) : findTy S t.name = some t := by
  cases hf : findTy S t.name with
  | none => exact absurd rfl (findTy_none hf t ht)
  | some u =>
    obtain ⟨hu, hn⟩ := findTy_some hf
    have : u = t := by
      induction S with
      | nil => cases ht
      | cons x S ih =>
        rw [List.pairwise_cons] at hp
        rcases List.mem_cons.1 ht with hx | ht2
        · rcases List.mem_cons.1 hu with hy | hu2
          · rw [hx, hy]
          · exact absurd (by rw [← hx]; exact hn.symm) (hp.1 u hu2)
        · rcases List.mem_cons.1 hu with hy | hu2
          · exact absurd (by rw [← hy]; exact hn) (hp.1 t ht2)
          · have hxn : x.name ≠ t.name := hp.1 t ht2
            have hf' : findTy S t.name = some u := by
              unfold findTy at hf ⊢
              rw [List.find?_cons] at hf
              have : decide (x.name = t.name) = false := by simpa using hxn
              rw [this] at hf
              exact hf
            exact ih hp.2 ht2 hf' hu2
    rw [this]

/-- The name of a kind is that of a type. -/
def refOk (S : List Ty) (k : Kd) : Prop := k.base = [64] → (findTy S k.name).isSome = true
instance (S : List Ty) (k : Kd) : Decidable (refOk S k) := by unfold refOk; infer_instance
def kindsOk (S : List Ty) : Prop := ∀ t ∈ S, t.sort ≠ 69 → ∀ f ∈ t.fields, refOk S f.kind
instance (S : List Ty) : Decidable (kindsOk S) := by unfold kindsOk; infer_instance

/-- The type of the first field of a union, where going on goes there. -/
def nextTy (S : List Ty) (t : Ty) : Option Ty :=
  if t.sort = 85 then (match t.fields with
    | f :: _ => if f.kind.signs = [] ∧ f.kind.base = [64] then findTy S f.kind.name else none
    | [] => none) else none
/-- Going from union to union ends within n types. -/
def endsN (S : List Ty) : Nat → Ty → Bool
  | 0, _ => false
  | n + 1, t => match nextTy S t with
    | none => true
    | some u => endsN S n u

theorem nextTy_mem {S : List Ty} {t u : Ty} (h : nextTy S t = some u) : u ∈ S := by
  unfold nextTy at h
  split at h
  · split at h
    · split at h
      · exact (findTy_some h).1
      · cases h
    · cases h
  · cases h
theorem endsN_mono (S : List Ty) : ∀ (n : Nat) (t : Ty), endsN S n t = true → ∀ m, n ≤ m → endsN S m t = true
  | 0, t, h, _, _ => by simp [endsN] at h
  | n + 1, t, h, m, hm => by
    obtain ⟨k, rfl⟩ : ∃ k, m = k + 1 := ⟨m - 1, by omega⟩
    simp only [endsN] at h ⊢
    cases hn : nextTy S t with
    | none => rfl
    | some u =>
      rw [hn] at h
      exact endsN_mono S n u h k (by omega)

theorem length_le_of_subset : ∀ (l S : List Ty), l.Nodup → (∀ x ∈ l, x ∈ S) → l.length ≤ S.length
  | [], S, _, _ => Nat.zero_le _
  | x :: l, S, hn, hs => by
    obtain ⟨h1, h2⟩ := List.nodup_cons.1 hn
    have hx := hs x (by simp)
    have ih := length_le_of_subset l (S.erase x) h2 (fun y hy => by
      have hne : y ≠ x := by rintro rfl; exact h1 hy
      exact (List.mem_erase_of_ne hne).2 (hs y (by simp [hy])))
    have hl := List.length_erase_of_mem hx
    have hp : 0 < S.length := List.length_pos_iff.2 (by rintro rfl; cases hx)
    simp; omega

theorem ends_chain (S : List Ty) : ∀ (n : Nat) (t : Ty), t ∈ S → endsN S (n + 1) t = true → endsN S n t = false →
    ∃ l : List Ty, l.length = n + 1 ∧ (∀ u ∈ l, u ∈ S) ∧ l.Nodup ∧ ∀ u ∈ l, endsN S (n + 1) u = true
  | 0, t, ht, h1, _ => ⟨[t], rfl, by simpa using ht, by simp, by simpa using h1⟩
  | n + 1, t, ht, h1, h2 => by
    have hn : ∃ u, nextTy S t = some u := by
      cases hh : nextTy S t with
      | none => simp [endsN, hh] at h2
      | some u => exact ⟨u, rfl⟩
    obtain ⟨u, hu⟩ := hn
    have e1 : endsN S (n + 1) u = true := by simp only [endsN, hu] at h1; simpa [endsN] using h1
    have e2 : endsN S n u = false := by simp only [endsN, hu] at h2; exact h2
    obtain ⟨l, l1, l2, l3, l4⟩ := ends_chain S n u (nextTy_mem hu) e1 e2
    refine ⟨t :: l, by simp [l1], ?_, List.nodup_cons.2 ⟨fun hm => ?_, l3⟩, ?_⟩
    · intro x hx
      rcases List.mem_cons.1 hx with rfl | hx
      · exact ht
      · exact l2 x hx
    · rw [l4 t hm] at h2; cases h2
    · intro x hx
      rcases List.mem_cons.1 hx with rfl | hx
      · exact h1
      · exact endsN_mono S _ _ (l4 x hx) _ (by omega)

/-- As many steps as there are types are enough. -/
theorem ends_enough (S : List Ty) (t : Ty) (ht : t ∈ S) (n : Nat) : endsN S n t = true → endsN S S.length t = true := by
  induction n with
  | zero => intro h; simp [endsN] at h
  | succ n ih =>
    intro h
    by_cases h2 : endsN S n t = true
    · exact ih h2
    · have h2' : endsN S n t = false := by simpa using h2
      obtain ⟨l, l1, l2, l3, _⟩ := ends_chain S n t ht h h2'
      have := length_le_of_subset l S l3 l2
      exact endsN_mono S _ _ h _ (by omega)
theorem ends_same (S : List Ty) (t : Ty) (ht : t ∈ S) (m n : Nat) (hm : S.length ≤ m) (hn : S.length ≤ n) : endsN S m t = endsN S n t := by
  cases h1 : endsN S m t with
  | true => exact (endsN_mono S _ _ (ends_enough S t ht m h1) n hn).symm
  | false =>
    cases h2 : endsN S n t with
    | false => rfl
    | true => rw [endsN_mono S _ _ (ends_enough S t ht n h2) m hm] at h1; cases h1

/-! ### a schema -/
def scOk (S : List Ty) : Prop := linesOk S ∧ kindsOk S ∧ ∀ t ∈ S, endsN S 9 t = true
/-- What a text tells as a schema. -/
def schemaL (s : List UInt8) : Option (List Ty) :=
  if 400 < s.length then none
  else match linesI (s.length + 1) s [] with
    | none => none
    | some S => if kindsOk S ∧ (∀ t ∈ S, endsN S 9 t = true) then some S else none

theorem linesOk_nil : linesOk [] := ⟨by simp, by simp, List.Pairwise.nil⟩
theorem linesI_eq {s : List UInt8} {S : List Ty} : linesI (s.length + 1) s [] = some S ↔ linesOk S ∧ scB S = s := by
  rw [linesI_some (s.length + 1) s [] S (by omega) linesOk_nil]
  constructor
  · rintro ⟨h, U, e, h2⟩
    simp at e; subst e; exact ⟨h, h2⟩
  · rintro ⟨h, h2⟩; exact ⟨h, S, by simp, h2⟩
theorem schemaL_some {s : List UInt8} {S : List Ty} : schemaL s = some S ↔ scOk S ∧ s.length ≤ 400 ∧ scB S = s := by
  unfold schemaL
  constructor
  · intro h
    split at h
    · cases h
    · rename_i h4
      cases hl : linesI (s.length + 1) s [] with
      | none => rw [hl] at h; cases h
      | some T =>
        rw [hl] at h
        simp only at h
        split at h
        · rename_i hc
          injection h with h
          subst h
          obtain ⟨h1, h2⟩ := linesI_eq.1 hl
          exact ⟨⟨h1, hc.1, hc.2⟩, by omega, h2⟩
        · cases h
  · rintro ⟨⟨h1, h2, h3⟩, h4, h5⟩
    rw [if_neg (by omega), linesI_eq.2 ⟨h1, h5⟩]
    simp only
    rw [if_pos ⟨h2, h3⟩]
/-- .. by what the reference asks. -/
theorem schemaL_ref {s : List UInt8} {S : List Ty} : schemaL s = some S ↔ s.length ≤ 400 ∧ linesS s = some S ∧ (S.Pairwise fun t u => t.name ≠ u.name) ∧ kindsOk S ∧ ∀ t ∈ S, endsN S (S.length + 1) t = true := by
  rw [schemaL_some, linesS_some]
  constructor
  · rintro ⟨⟨⟨h1, h2, h3⟩, h4, h5⟩, h6, h7⟩
    exact ⟨h6, ⟨h1, h2, h7⟩, h3, h4, fun t ht => by rw [ends_same S t ht _ 9 (by omega) (by omega)]; exact h5 t ht⟩
  · rintro ⟨h6, ⟨h1, h2, h7⟩, h3, h4, h5⟩
    exact ⟨⟨⟨h1, h2, h3⟩, h4, fun t ht => by rw [← ends_same S t ht (S.length + 1) 9 (by omega) (by omega)]; exact h5 t ht⟩, h6, h7⟩

/-! ### standing values -/
/-- Standing values end: from a kind going on to types ends within n types. -/
def kdEnds (S : List Ty) (n : Nat) (k : Kd) : Prop := k.signs = [] → k.base = [64] → ∃ t, findTy S k.name = some t ∧ endsN S n t = true
/-- The standing value of a kind. -/
def standN (S : List Ty) : Nat → Kd → List UInt8
  | 0, _ => []
  | n + 1, k =>
    if k.signs.head? = some 91 then [91, 93]
    else if k.signs.head? = some 63 then [45]
    else if k.base = [110] then [48]
    else if k.base = [116] then [39, 39]
    else if k.base = [102] then [110, 111]
    else match findTy S k.name with
      | none => []
      | some t => if t.sort = 82 then [123, 125] else
        match t.fields with
        | [] => []
        | f :: _ => if t.sort = 69 then 35 :: decB f.tag else 60 :: (decB f.tag ++ 61 :: (standN S n f.kind ++ [62]))

/-- The type of a kind, of its first field: there going on ends within one type less. -/
theorem kdEnds_next {S : List Ty} {n : Nat} {k : Kd} {t : Ty} {f : Fd} {fs : List Fd} (h : kdEnds S (n + 1) k) (h1 : k.signs = []) (h2 : k.base = [64]) (hf : findTy S k.name = some t) (hs : t.sort = 85) (hfs : t.fields = f :: fs) (hr : refOk S f.kind) : kdEnds S n f.kind := by
  intro g1 g2
  obtain ⟨u, hu, he⟩ := h h1 h2
  rw [hf] at hu
  injection hu with hu
  subst hu
  have hn : nextTy S t = findTy S f.kind.name := by
    unfold nextTy
    rw [if_pos hs, hfs]
    simp only
    rw [if_pos ⟨g1, g2⟩]
  have hr' := hr g2
  cases hx : findTy S f.kind.name with
  | none => rw [hx] at hr'; cases hr'
  | some v =>
    simp only [endsN, hn, hx] at he
    exact ⟨v, rfl, he⟩

theorem standN_more (S : List Ty) (hS : kindsOk S) : ∀ (n : Nat) (k : Kd), kdEnds S n k → (∀ c, k.signs.head? = some c → c = 91 ∨ c = 63) → baseOk k → (∀ t ∈ S, tyOk t) → ∀ m, n ≤ m → standN S (m + 1) k = standN S (n + 1) k
  | n, k, h, hsg, hb, hT, m, hm => by
    rw [standN, standN]
    by_cases h1 : k.signs.head? = some 91
    · rw [if_pos h1, if_pos h1]
    · rw [if_neg h1, if_neg h1]
      by_cases h2 : k.signs.head? = some 63
      · rw [if_pos h2, if_pos h2]
      · rw [if_neg h2, if_neg h2]
        have hs0 : k.signs = [] := by
          cases hk : k.signs with
          | nil => rfl
          | cons c t =>
            rw [hk] at h1 h2 hsg
            rcases hsg c rfl with rfl | rfl
            · exact absurd rfl h1
            · exact absurd rfl h2
        by_cases h3 : k.base = [110]
        · rw [if_pos h3, if_pos h3]
        · rw [if_neg h3, if_neg h3]
          by_cases h4 : k.base = [116]
          · rw [if_pos h4, if_pos h4]
          · rw [if_neg h4, if_neg h4]
            by_cases h5 : k.base = [102]
            · rw [if_pos h5, if_pos h5]
            · rw [if_neg h5, if_neg h5]
              cases hf : findTy S k.name with
              | none => rfl
              | some t =>
                simp only
                by_cases h6 : t.sort = 82
                · rw [if_pos h6, if_pos h6]
                · rw [if_neg h6, if_neg h6]
                  cases hfs : t.fields with
                  | nil => rfl
                  | cons f fs =>
                    simp only
                    by_cases h7 : t.sort = 69
                    · rw [if_pos h7, if_pos h7]
                    · rw [if_neg h7, if_neg h7]
                      obtain ⟨htS, _⟩ := findTy_some hf
                      obtain ⟨o1, _, o3, _, _⟩ := hT t htS
                      have h85 : t.sort = 85 := by rcases o1 with o | o | o <;> first | exact o | exact absurd o h6 | exact absurd o h7
                      have hb64 : k.base = [64] := by
                        rcases hb with ⟨hb, _⟩ | ⟨hb | hb | hb, _⟩
                        · exact hb
                        · exact absurd hb h3
                        · exact absurd hb h4
                        · exact absurd hb h5
                      have hfk := (o3.1 f (by rw [hfs]; simp)).2.2.2.2 h7
                      cases n with
                      | zero =>
                        obtain ⟨u, _, he⟩ := h hs0 hb64
                        simp [endsN] at he
                      | succ n =>
                        obtain ⟨p, rfl⟩ : ∃ p, m = p + 1 := ⟨m - 1, by omega⟩
                        have hk2 := kdEnds_next h hs0 hb64 hf h85 hfs (hS t htS h7 f (by rw [hfs]; simp))
                        rw [standN_more S hS n f.kind hk2 (fun c hc => by
                          have := hfk.1.1
                          cases hh : f.kind.signs with
                          | nil => rw [hh] at hc; cases hc
                          | cons a l =>
                            rw [hh] at hc this
                            simp at hc; subst hc
                            simp only [List.all_cons, Bool.and_eq_true] at this
                            have := this.1
                            simpa [isSign] using this) hfk.1.2.1 hT p (by omega)]

/-- The standing value of a kind of a schema; of a field. -/
def standL (S : List Ty) (k : Kd) : List UInt8 := standN S 10 k
def ofL (S : List Ty) (f : Fd) : List UInt8 := if f.given = [] then standL S f.kind else f.given
end Go.Proofs.YtcjfgbcdlcdeaaaGreatDoor
/- How the reference's fields, types and schemas lie in memory. -/
namespace Go.Proofs.YtcjfgbcdlcdeaaaGreatDoor
open Go.RowKit
set_option linter.unusedVariables false

theorem flatMap_get {α : Type} {g : α → List Value} {k : Nat} (hk : ∀ x, (g x).length = k) : ∀ (l : List α) (i j : Nat), (hi : i < l.length) → j < k → (l.flatMap g)[i * k + j]? = (g l[i])[j]?
  | [], i, j, hi, _ => by simp at hi
  | x :: l, 0, j, _, hj => by
    simp only [Nat.zero_mul, Nat.zero_add, List.flatMap_cons, List.getElem_cons_zero]
    rw [List.getElem?_append_left (by rw [hk]; exact hj)]
  | x :: l, i + 1, j, hi, hj => by
    have ih := flatMap_get hk l i j (by simpa using hi) hj
    simp only [List.flatMap_cons, List.getElem_cons_succ]
    rw [List.getElem?_append_right (by rw [hk, Nat.add_mul]; omega), hk]
    rw [show (i + 1) * k + j - k = i * k + j by rw [Nat.add_mul]; omega]
    exact ih
theorem flatMap_len {α : Type} {g : α → List Value} {k : Nat} (hk : ∀ x, (g x).length = k) : ∀ l : List α, (l.flatMap g).length = l.length * k
  | [] => by simp
  | x :: l => by
    rw [List.flatMap_cons, List.length_append, hk, flatMap_len hk l, List.length_cons, Nat.add_mul]; omega

/-- A row that is read: one element's cells. -/
theorem RowAt.elem {w : World} {A : Option Addr} {α : Type} {g : α → List Value} {k : Nat} {l : List α} (hk : ∀ x, (g x).length = k) (hk0 : 0 < k) (h : RowAt w A (l.length * k) (l.flatMap g)) {i : Nat} (hi : i < l.length) :
    ∃ b off, A = some ⟨b, off, none⟩ ∧ b < w.heap.size ∧ ∀ j u, (g l[i])[j]? = some u → w.cell? ⟨b, off + (i * k + j), none⟩ = some u := by
  have hpos : 0 < l.length * k := Nat.mul_pos (by omega) hk0
  obtain ⟨b, off, e, hlt, hc⟩ := h.2.2 hpos
  refine ⟨b, off, e, hlt, fun j u hu => hc _ u ?_⟩
  have hj : j < k := by
    have := (List.getElem?_eq_some_iff.1 hu).1
    rwa [hk] at this
  rw [flatMap_get hk l i j hi hj]; exact hu

/-- The cells of a field of the reference. -/
def sfc (f : Fd) : List Value := [.int .i64 (f.tag : Int), .string ⟨f.name.toArray⟩, .string ⟨(kdB f.kind).toArray⟩, .string ⟨f.given.toArray⟩]
def sfV (f : Fd) : Value := .agg #[.int .i64 (f.tag : Int), .string ⟨f.name.toArray⟩, .string ⟨(kdB f.kind).toArray⟩, .string ⟨f.given.toArray⟩]
def sf0 : Value := .agg #[.int .i64 0, .string ⟨#[]⟩, .string ⟨#[]⟩, .string ⟨#[]⟩]
theorem sfc_len (f : Fd) : (sfc f).length = 4 := rfl
/-- A slice value that reads as fields. -/
def SFds (w : World) (v : Value) (fs : List Fd) : Prop := ∃ A c, v = .slice A fs.length c ∧ fs.length ≤ 1000 ∧ RowAt w A (fs.length * 4) (fs.flatMap sfc)
theorem SFds.below {w w' : World} {v : Value} {fs : List Fd} (h : SFds w v fs) (hb : Below w.heap.size w w') : SFds w' v fs := by
  obtain ⟨A, c, e, hl, hr⟩ := h
  exact ⟨A, c, e, hl, hr.below hb⟩
theorem SFds.at_ {w : World} {A : Option Addr} {fs : List Fd} (hr : RowAt w A (fs.length * 4) (fs.flatMap sfc)) {i : Nat} (hi : i < fs.length) :
    ∃ b off, A = some ⟨b, off, none⟩ ∧ b < w.heap.size ∧ w.cell? ⟨b, off + i * 4, none⟩ = some (.int .i64 (fs[i].tag : Int)) ∧ w.cell? ⟨b, off + i * 4 + 1, none⟩ = some (.string ⟨fs[i].name.toArray⟩) ∧
      w.cell? ⟨b, off + i * 4 + 2, none⟩ = some (.string ⟨(kdB fs[i].kind).toArray⟩) ∧ w.cell? ⟨b, off + i * 4 + 3, none⟩ = some (.string ⟨fs[i].given.toArray⟩) := by
  obtain ⟨b, off, e, hlt, hc⟩ := hr.elem sfc_len (by decide) hi
  refine ⟨b, off, e, hlt, ?_, ?_, ?_, ?_⟩
  · have := hc 0 _ rfl; simpa using this
  · have := hc 1 _ rfl; simpa [Nat.add_assoc] using this
  · have := hc 2 _ rfl; simpa [Nat.add_assoc] using this
  · have := hc 3 _ rfl; simpa [Nat.add_assoc] using this

/-- A type of the reference as a value: its fields lie in the slice fv. -/
def styV (t : Ty) (fv : Value) : Value := .agg #[.int .u8 (t.sort.toNat : Int), .string ⟨t.name.toArray⟩, fv]
def sty0 : Value := .agg #[.int .u8 0, .string ⟨#[]⟩, .slice none 0 0]
def stc (x : Ty × Value) : List Value := [.int .u8 (x.1.sort.toNat : Int), .string ⟨x.1.name.toArray⟩, x.2]
theorem stc_len (x : Ty × Value) : (stc x).length = 3 := rfl
/-- A slice value that reads as a schema: each type with the slice in which its fields lie. -/
def SSc (w : World) (v : Value) (xs : List (Ty × Value)) : Prop := ∃ A c, v = .slice A xs.length c ∧ xs.length ≤ 1000 ∧ RowAt w A (xs.length * 3) (xs.flatMap stc) ∧ ∀ x ∈ xs, SFds w x.2 x.1.fields
theorem SSc.below {w w' : World} {v : Value} {xs : List (Ty × Value)} (h : SSc w v xs) (hb : Below w.heap.size w w') : SSc w' v xs := by
  obtain ⟨A, c, e, hl, hr, hf⟩ := h
  exact ⟨A, c, e, hl, hr.below hb, fun x hx => (hf x hx).below hb⟩
def tysOf (xs : List (Ty × Value)) : List Ty := xs.map (·.1)
def findX (xs : List (Ty × Value)) (n : List UInt8) : Option (Ty × Value) := xs.find? fun x => decide (x.1.name = n)
theorem findX_ty (xs : List (Ty × Value)) (n : List UInt8) : findTy (tysOf xs) n = (findX xs n).map (·.1) := by
  unfold findTy tysOf findX; rw [List.find?_map]; rfl
theorem findX_mem {xs : List (Ty × Value)} {n : List UInt8} {x : Ty × Value} (h : findX xs n = some x) : x ∈ xs ∧ x.1.name = n ∧ findTy (tysOf xs) n = some x.1 := by
  refine ⟨List.mem_of_find?_eq_some h, ?_, by rw [findX_ty, h]; rfl⟩
  have := List.find?_some h
  simpa using this
theorem findX_none {xs : List (Ty × Value)} {n : List UInt8} (h : findX xs n = none) : findTy (tysOf xs) n = none := by rw [findX_ty, h]; rfl
/-- The type of a kind that begins with @. -/
def refX (xs : List (Ty × Value)) (k : Kd) : Option (Ty × Value) := if k.signs = [] ∧ k.base = [64] then findX xs k.name else none
theorem SSc.at_ {w : World} {A : Option Addr} {xs : List (Ty × Value)} (hr : RowAt w A (xs.length * 3) (xs.flatMap stc)) {i : Nat} (hi : i < xs.length) :
    ∃ b off, A = some ⟨b, off, none⟩ ∧ b < w.heap.size ∧ w.cell? ⟨b, off + i * 3, none⟩ = some (.int .u8 (xs[i].1.sort.toNat : Int)) ∧ w.cell? ⟨b, off + i * 3 + 1, none⟩ = some (.string ⟨xs[i].1.name.toArray⟩) ∧
      w.cell? ⟨b, off + i * 3 + 2, none⟩ = some xs[i].2 := by
  obtain ⟨b, off, e, hlt, hc⟩ := hr.elem stc_len (by decide) hi
  refine ⟨b, off, e, hlt, ?_, ?_, ?_⟩
  · have := hc 0 _ rfl; simpa using this
  · have := hc 1 _ rfl; simpa [Nat.add_assoc] using this
  · have := hc 2 _ rfl; simpa [Nat.add_assoc] using this

/-- The field of a tag. -/
def fieldT (fs : List Fd) (n : Nat) : Option Fd := fs.find? fun f => decide (f.tag = n)
theorem find_take {α : Type} {p : α → Bool} {l : List α} {k : Nat} (hk : k < l.length) (h : ∀ x ∈ l.take k, p x = false) : l.find? p = if p l[k] = true then some l[k] else (l.drop (k + 1)).find? p := by
  have e : l = l.take k ++ l[k] :: l.drop (k + 1) := by rw [← List.drop_eq_getElem_cons hk, List.take_append_drop]
  conv => lhs; rw [e]
  rw [List.find?_append]
  have h1 : (l.take k).find? p = none := List.find?_eq_none.2 (fun x hx => by simp [h x hx])
  rw [h1, Option.none_or, List.find?_cons]
  cases p l[k] <;> rfl
theorem find_all_none {α : Type} {p : α → Bool} {l : List α} (h : ∀ x ∈ l, p x = false) : l.find? p = none := List.find?_eq_none.2 (fun x hx => by simp [h x hx])
end Go.Proofs.YtcjfgbcdlcdeaaaGreatDoor
/- Rows of the call's own whose elements have more than one cell: reading, and appending one new element. -/
namespace Go.Proofs.YtcjfgbcdlcdeaaaGreatDoor
open Go.RowKit
set_option linter.unusedVariables false

theorem RowAt.ownK {w : World} {base k : Nat} {e : TypeId} {v : Value} {n : Nat} {xs : List Value} (h : w.ownsRow base e k v n xs) (hle : n * k ≤ maxLen) : ∃ A c, v = .slice A n c ∧ RowAt w A (n * k) xs := by
  have h1 := h.1
  rcases h.2 with ⟨rfl, rfl⟩ | ⟨g, cap, cur, rfl, hb, hh, hnc, hcm, hcs, htk⟩
  · exact ⟨none, 0, rfl, by omega, by omega, fun h => absurd h (by omega)⟩
  · refine ⟨some ⟨g, 0, none⟩, cap, rfl, by omega, hle, fun hn => ⟨g, 0, rfl, (h.lt g rfl).2, fun j u hu => ?_⟩⟩
    have := h.cells (g := g) rfl j u hu
    have e1 : (⟨g, 0, none⟩ : Addr).add j = ⟨g, 0 + j, none⟩ := by unfold Addr.add; split <;> simp_all
    rwa [e1] at this

section
variable {P : Program}
/-- 'append(v, u)': the one new element lies, cell by cell, in a block that was just made. -/
theorem wpList_appK (w : World) {ops : Array Oper} {rest : List Oper} {o : Oper} {a : Act} {Q : Exit → Act → World → Prop} (hgd : o.guard = none) (s x : Operand) (t : TypeId)
    (ho : o.op = .call { callee := .builtin .append, args := #[s, x], argTypes := #[t, t] })
    (base : Nat) (e : TypeId) (z : Value) (k bytes : Nat) (ht : P.underlying t = some (.slice e)) (hinfo : (P.info? e).map (fun i => (i.zero, i.size, i.bytes)) = some (some z, k, bytes))
    (hzs : z.cells.size = k) (hk : 0 < k) (W : World) (us : List Value) (hul : us.length = k) (hw : w = W.alloc (.cells us.toArray e)) (hu : ∀ u ∈ us, u.oneCell' = true) (v : Value) (n : Nat) (xs : List Value) (hs : a.eval s = v) (hx : a.eval x = .slice (some ⟨W.heap.size, 0, none⟩) 1 1)
    (hown : W.ownsRow base e k v n xs)
    (h63 : n + 1 ≤ maxLen) (hbytes : (n + 1) * bytes ≤ 140737488355328) (hbase : base ≤ W.heap.size)
    (h : ∀ v' w', w'.ownsRow base e k v' (n + 1) (xs ++ us) → Below base W w' → wpList P ops Q rest (a.put o.dst v') w') : wpList P ops Q (o :: rest) a w := by
  subst hw
  obtain ⟨i0, hi, hz0, hz1, hz2⟩ := info_parts hinfo
  refine wpList_append_own _ hgd s x t ho base e i0 z k bytes ht hi hz0 hz1 hz2 hzs hk v n xs hs (hown.alloc _) ⟨W.heap.size, 0, none⟩ 1 1 us hx (by omega) ?_ hu h63 hbytes ?_ ?_
  · intro j y hj
    have e1 : (⟨W.heap.size, 0, none⟩ : Addr).add j = ⟨W.heap.size, j, none⟩ := by unfold Addr.add; split <;> simp_all
    rw [e1, World.cell?_alloc_new]
    simpa using hj
  · have : (W.alloc (.cells us.toArray e)).heap.size = W.heap.size + 1 := by simp
    omega
  · intro v' w' h1 h2 _
    exact h v' w' h1 (((Below.refl base W).alloc hbase _).grown h2 (by simp; omega) (fun k hk => (hown.lt k hk).1))
end
theorem Tryz.infoSf : (Tryz.prog.info? 135).map (fun i => (i.zero, i.size, i.bytes)) = some (some sf0, 4, 56) := by kernel_rfl
theorem Tryz.infoSt : (Tryz.prog.info? 133).map (fun i => (i.zero, i.size, i.bytes)) = some (some (.agg #[.int .u8 0, .string ⟨#[]⟩, .slice none 0 0]), 3, 48) := by kernel_rfl
end Go.Proofs.YtcjfgbcdlcdeaaaGreatDoor
/- A map of the call's own, told as a function from keys to values: made, stored into, looked up. Conditions: as each theorem names them. -/
namespace Go.Proofs.YtcjfgbcdlcdeaaaGreatDoor
open Go.RowKit
open Go.Maps (Keyed)
set_option linter.unusedVariables false

/-- How an element reads: as itself. -/
def selfElem (v : Value) : Option (DataW Value × List MemPlace) := some (.held v, [])
/-- Block b is a map of at most n entries; the key kl gives F kl (z where it is not there). -/
def FMap (P : Program) (k : TypeId) (z : Value) (w : World) (b n : Nat) (F : Lit → Value) : Prop :=
  ∃ D : DataW Value, w.ownsMap P k selfElem b n D ∧ Go.Maps.IsMap D ∧ ∀ l, WideAt.IsKeyLit l → D.atKey l (.held z) = .held (F l)

section
variable {P : Program} {k : TypeId} {z : Value} {w w' : World} {b n : Nat} {F : Lit → Value}
theorem FMap.made (w : World) (P : Program) (k : TypeId) (z : Value) : FMap P k z (w.alloc (.map #[] 0)) w.heap.size 0 (fun _ => z) :=
  ⟨.map [], World.ownsMap_made w P k selfElem, Go.Maps.isMap_empty, fun l _ => rfl⟩
theorem FMap.lt (h : FMap P k z w b n F) : b < w.heap.size := by
  obtain ⟨D, h1, _⟩ := h
  exact h1.lt
theorem FMap.kept {row : Option Nat} (h : FMap P k z w b n F) (hg : w.grownBy w' row) (hne : some b ≠ row) : FMap P k z w' b n F := by
  obtain ⟨D, h1, h2⟩ := h
  exact ⟨D, h1.kept hg hne, h2⟩
theorem FMap.below (h : FMap P k z w b n F) (hb : Below w.heap.size w w') : FMap P k z w' b n F :=
  h.kept (row := none) ⟨hb.os, hb.tape, hb.output, hb.size, fun k hk _ => hb.block k hk⟩ (by simp)
theorem FMap.belowAt {B : Nat} (h : FMap P k z w b n F) (hlt : b < B) (hb : Below B w w') : FMap P k z w' b n F := by
  obtain ⟨D, ⟨es, clock, h1, h2, h3, h4⟩, h5⟩ := h
  exact ⟨D, ⟨es, clock, (hb.block b hlt).trans h1, h2, h3, h4⟩, h5⟩
theorem FMap.alloc (h : FMap P k z w b n F) (o : Obj) : FMap P k z (w.alloc o) b n F := h.below ((Below.refl _ _).alloc (Nat.le_refl _) o)
theorem FMap.drew (h : FMap P k z w b n F) : FMap P k z w.drew b n F := h
theorem FMap.mono (h : FMap P k z w b n F) {n' : Nat} (hn : n ≤ n') : FMap P k z w b n' F := by
  obtain ⟨D, h1, h2⟩ := h
  exact ⟨D, h1.mono hn, h2⟩
theorem FMap.of_eq {G : Lit → Value} (h : FMap P k z w b n F) (e : ∀ l, WideAt.IsKeyLit l → F l = G l) : FMap P k z w b n G := by
  obtain ⟨D, h1, h2, h3⟩ := h
  exact ⟨D, h1, h2, fun l hl => by rw [h3 l hl, e l hl]⟩
/-- 'm[k]'. -/
theorem FMap.lookup {t e : TypeId} (h : FMap P k z w b n F) (K : Keyed P k) (ht : P.underlying t = some (.map k e)) (hz : (zeroValue e).run P w = .ok z w) {key : Value} {kl : Lit} (hkey : keyOf P k key = some kl) :
    (Instr.lookup t (.map (some b)) key false).run P w = .ok (F kl) w := by
  obtain ⟨D, h1, h2, h3⟩ := h
  obtain ⟨v, ps, hrun, hv⟩ := h1.lookup K ht hz (show selfElem z = some (.held z, []) from rfl) hkey
  rw [h3 kl (K.key hkey)] at hv
  simp only [selfElem, Option.some.injEq, Prod.mk.injEq, DataW.held.injEq] at hv
  rw [hrun, hv.1]
theorem wpList_lookup_F {ops : Array Oper} {rest : List Oper} {o : Oper} {a : Act} {Q : Exit → Act → World → Prop}
    (hg : o.guard = none) (m x : Operand) (t : TypeId) (hop : o.op = Op.lookup t m x false) (e : TypeId) (K : Keyed P k) (ht : P.underlying t = some (.map k e)) (hz : (zeroValue e).run P w = .ok z w)
    (hm : a.eval m = .map (some b)) (hown : FMap P k z w b n F) (key : Value) (kl : Lit) (hx : a.eval x = key) (hkey : keyOf P k key = some kl)
    (hK : wpList P ops Q rest (a.put o.dst (F kl)) w) : wpList P ops Q (o :: rest) a w := by
  refine wpList_plain hg fun K' hK' => ?_
  have hrun := hown.lookup K ht hz hkey
  unfold Oper.wp
  simp [execOp, hop, hm, hx, hrun, Result.andThen]
  exact hK' _ _ hK
/-- 'm[k] = v'. -/
theorem FMap.store {t e : TypeId} (h : FMap P k z w b n F) (K : Keyed P k) (ht : P.underlying t = some (.map k e)) (hn : n < maxLen) {key : Value} (val : Value) {kl : Lit} (hkey : keyOf P k key = some kl) :
    ∃ w', (Instr.mapUpdate t (.map (some b)) key val).run P w = .ok () w' ∧ FMap P k z w' b (n + 1) (fun l => if l.sameKey kl = true then val else F l) ∧ w.grownBy w' (some b) := by
  obtain ⟨D, h1, h2, h3⟩ := h
  obtain ⟨w', hrun, r1, r2⟩ := h1.update K ht hn hkey (show selfElem val = some (.held val, []) from rfl)
  refine ⟨w', hrun, ⟨_, r1, h2.put _ _, fun l hl => ?_⟩, r2⟩
  by_cases e : l = kl
  · subst e
    rw [Go.Maps.atKey_put_same h2 hl]; simp [WideAt.sameKey_self hl]
  · rw [Go.Maps.atKey_put_other e, h3 l hl]; simp [show l.sameKey kl = false from Go.Maps.sameKey_ne e]
theorem wpList_mapUpdate_F {ops : Array Oper} {rest : List Oper} {o : Oper} {a : Act} {Q : Exit → Act → World → Prop}
    (hg : o.guard = none) (m x v : Operand) (t : TypeId) (hop : o.op = Op.mapUpdate t m x v) (e : TypeId) (K : Keyed P k) (ht : P.underlying t = some (.map k e))
    (hm : a.eval m = .map (some b)) (hown : FMap P k z w b n F) (hn : n < maxLen) (key val : Value) (kl : Lit) (hx : a.eval x = key) (hv : a.eval v = val) (hkey : keyOf P k key = some kl)
    (hK : ∀ w', FMap P k z w' b (n + 1) (fun l => if l.sameKey kl = true then val else F l) → w.grownBy w' (some b) → wpList P ops Q rest (a.put o.dst undef) w') :
    wpList P ops Q (o :: rest) a w := by
  refine wpList_plain hg fun K' hK' => ?_
  obtain ⟨w', hrun, r1, r2⟩ := hown.store K ht hn val hkey
  unfold Oper.wp
  simp [execOp, hop, hm, hx, hv, hrun, Result.andThen]
  exact hK' _ _ (hK w' r1 r2)
end
end Go.Proofs.YtcjfgbcdlcdeaaaGreatDoor
