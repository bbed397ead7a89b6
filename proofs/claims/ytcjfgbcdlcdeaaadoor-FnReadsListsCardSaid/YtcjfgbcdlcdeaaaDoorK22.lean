/- Texts joined: IEvolve, SL12, LawG8, Args. Conditions: as each theorem names them. -/
import Derived.Test.YtcjfgbcdlcdeaaaDoorRows
import Derived.ProofKit
import Derived.OpenShut
import Derived.ShutString
import Derived.ChangeOld
import Derived.SliceStrings
import Derived.Test.YtcjfgbcdlcdeaaaDoorK01
import Derived.Test.YtcjfgbcdlcdeaaaDoorK11
import Derived.Test.YtcjfgbcdlcdeaaaDoorK15
import Derived.Test.YtcjfgbcdlcdeaaaDoorK17
import Derived.Test.YtcjfgbcdlcdeaaaDoorK19
import Derived.Test.YtcjfgbcdlcdeaaaDoorK21
/- The program's EvolveReads and EvolveBoth. -/
namespace Go.Proofs.YtcjfgbcdlcdeaaaDoor
open Go.RowKit
set_option maxRecDepth 100000
set_option linter.unusedVariables false
set_option linter.unusedSimpArgs false
attribute [local go_sem] ba_get ba_toList ba_extract take_drop_all ByteArray.mk_append_mk

theorem iAsk_any (w0 : World) (p1 p2 : Value) (xs ys : List PT) (hx : ISc w0 p1 xs) (hy : ISc w0 p2 ys) (hS : scOk (ptysOf xs)) (hT : scOk (ptysOf ys)) : ∀ (n : Nat) (a b : Kd) (m : List Pair) (w : World),
    kdOk a → kdOk b → refOk (ptysOf xs) a → refOk (ptysOf ys) b → Asks (ptysOf xs) (ptysOf ys) m → 64 < n + m.length → IAskSt w0 p1 p2 w m →
      Calls Tryd.prog 19 #[.pointer (some ⟨w0.heap.size + 1, 0, none⟩), kdV a, kdV b] w (IaPost w0 p1 p2 (evK (ptysOf xs) (ptysOf ys) n a b m) w) := by
  have h8 : (ptysOf xs).length * (ptysOf ys).length ≤ 64 := by
    have h1 := hS.1.2.1
    have h2 := hT.1.2.1
    exact Nat.le_trans (Nat.mul_le_mul h1 h2) (by decide)
  intro n
  induction n with
  | zero =>
    intro a b m w _ _ _ _ hm hn _
    have := hm.len
    omega
  | succ n ih =>
    intro a b m w ha hb hra hrb hm hn hst
    have hml : m.length ≤ 64 := Nat.le_trans hm.len h8
    exact iAsk_kinds w0 p1 p2 xs ys hx hy n a b m w ha hb hra hrb hst (fun x y W hxm hym hW => iAsk_types w0 p1 p2 xs ys hx hy hS hT n x y hxm hym ih m hm hn hml W hW)
theorem ISL.mono {lo lo' : Nat} {w : World} {p : Value} {xs : List PT} (h : ISL lo w p xs) (hle : lo' ≤ lo) : ISL lo' w p xs := by
  obtain ⟨b, A, c, mb, q0, q1, q2, q3, q4, q5, q6, q7, l1, l2, l3, l4⟩ := h
  exact ⟨b, A, c, mb, q0, q1, q2, q3, q4, q5, q6, q7, by omega, by omega, fun g o h1 h2 => by have := l3 g o h1 h2; omega, fun x hx => ⟨by have := (l4 x hx).1; omega, fun k h1 h2 => by have := (l4 x hx).2 k h1 h2; omega⟩⟩
/-- What both leaves, in one form. -/
theorem IbPost.form {o : Option (List Ty × Kd)} {w w' : World} {e : Ending} (h : IbPost o w e w') :
    ∃ (q : Option Addr) (a b c : ByteArray), e = .returned (.tuple #[.pointer q, .agg #[.string a, .string b, .string c], .bool o.isSome]) ∧ Below w.heap.size w w' ∧
      ∀ S k, o = some (S, k) → ∃ xs, ptysOf xs = S ∧ a = ⟨k.signs.toArray⟩ ∧ b = ⟨k.base.toArray⟩ ∧ c = ⟨k.name.toArray⟩ ∧ ISL w.heap.size w' (.pointer q) xs := by
  obtain ⟨h1, hb⟩ := h
  cases o with
  | none =>
    obtain ⟨p, a, b, c, e⟩ := h1
    exact ⟨p, a, b, c, e, hb, fun S k h => by cases h⟩
  | some x =>
    obtain ⟨S, k⟩ := x
    obtain ⟨p, xs, hx, e, hs⟩ := h1
    obtain ⟨pb, _, _, _, rfl, _⟩ := hs.isc
    exact ⟨_, _, _, _, e, hb, fun S' k' h => by cases h; exact ⟨xs, hx, rfl, rfl, rfl, hs⟩⟩
section
variable {P : Program}
/-- Results: a slot, two structs that lie in cells, a slot. -/
theorem results_tcct {fn : Func} {r p p2 q : Tmp} {ty : TypeId} (h : fn.results = #[.tmp r, .cell p ty, .cell p2 ty, .tmp q]) (tmps : Array Value) (w : World) (b b2 : Nat) (cs cs2 : List Value) (d : TypeDesc) (y x : Value)
    (hr : tmps.getD r undef = y) (hp : tmps.getD p undef = .pointer (some ⟨b, 0, none⟩)) (hp2 : tmps.getD p2 undef = .pointer (some ⟨b2, 0, none⟩)) (hq : tmps.getD q undef = x) (hc : w.rangeAt b 0 cs) (hc2 : w.rangeAt b2 0 cs2) (hu : P.underlying ty = some d) (hd : d.isRow = true) (hi : (P.info? ty).map (·.size) = some cs.length) (hi2 : (P.info? ty).map (·.size) = some cs2.length) :
    (results fn tmps).run P w = .ok (.tuple #[y, .agg cs.toArray, .agg cs2.toArray, x]) w := by
  have hp' : tmps[p]?.getD undef = .pointer (some ⟨b, 0, none⟩) := by simpa using hp
  have hp2' : tmps[p2]?.getD undef = .pointer (some ⟨b2, 0, none⟩) := by simpa using hp2
  have hq' : tmps[q]?.getD undef = x := by simpa using hq
  have hr' : tmps[r]?.getD undef = y := by simpa using hr
  simp [results, h, hp', hp2', hq', hr', asAddr, run_loadVar_mid w b 0 ty cs d hc hu hd hi, run_loadVar_mid w b2 0 ty cs2 d hc2 hu hd hi2]
end
theorem bset_both {B : Nat} {a b : World} (h : Below B a b) (p : Addr) (u : Value) : Below B (a.setCell p u) (b.setCell p u) :=
  ⟨h.os, h.tape, h.output, by simp [World.setCell]; exact h.size, fun k hk => by
    simp only [World.setCell, Array.getElem?_modify]
    rw [h.block k hk]⟩
theorem bsets_both {B : Nat} (k : Nat) : ∀ (vs : List Value) (o : Nat) {a b : World}, Below B a b → Below B (a.setCells k o vs) (b.setCells k o vs)
  | [], _, _, _, h => h
  | v :: r, o, a, b, h => bsets_both k r (o + 1) (bset_both h ⟨k, o, none⟩ v)
/-- The question while the results may be stored already: w0 is the world ahead of it, with what was stored. -/
structure EvSt (w : World) (p1 p2 : Value) (xs ys : List PT) (N B13 B16 : Nat) (ka kb : List Value) (w0 W : World) (mm : List Pair) : Prop where
  sz : w0.heap.size = N
  i1 : ISL (w.heap.size + 2) w0 p1 xs
  i2 : ISL (w.heap.size + 2) w0 p2 ys
  be : Below w.heap.size w w0
  t9' : w0.there w.heap.size 0 3
  t10' : w0.there (w.heap.size + 1) 0 3
  x13' : w0.rangeAt B13 0 ka
  x16' : w0.rangeAt B16 0 kb
  l13 : B13 < N
  l16 : B16 < N
  lw : w.heap.size + 2 ≤ N
  st : IAskSt w0 p1 p2 W mm
theorem EvSt.x13 {w : World} {p1 p2 : Value} {xs ys : List PT} {N B13 B16 : Nat} {ka kb : List Value} {w0 W : World} {mm : List Pair} (h : EvSt w p1 p2 xs ys N B13 B16 ka kb w0 W mm) : W.rangeAt B13 0 ka := rangeAt_below h.x13' (by have := h.l13; have := h.sz; omega) h.st.1
theorem EvSt.x16 {w : World} {p1 p2 : Value} {xs ys : List PT} {N B13 B16 : Nat} {ka kb : List Value} {w0 W : World} {mm : List Pair} (h : EvSt w p1 p2 xs ys N B13 B16 ka kb w0 W mm) : W.rangeAt B16 0 kb := rangeAt_below h.x16' (by have := h.l16; have := h.sz; omega) h.st.1
theorem EvSt.t9 {w : World} {p1 p2 : Value} {xs ys : List PT} {N B13 B16 : Nat} {ka kb : List Value} {w0 W : World} {mm : List Pair} (h : EvSt w p1 p2 xs ys N B13 B16 ka kb w0 W mm) : W.there w.heap.size 0 3 := there_below h.t9' (by have := h.lw; have := h.sz; omega) h.st.1
theorem EvSt.t10 {w : World} {p1 p2 : Value} {xs ys : List PT} {N B13 B16 : Nat} {ka kb : List Value} {w0 W : World} {mm : List Pair} (h : EvSt w p1 p2 xs ys N B13 B16 ka kb w0 W mm) : W.there (w.heap.size + 1) 0 3 := there_below h.t10' (by have := h.lw; have := h.sz; omega) h.st.1
theorem EvSt.drew {w : World} {p1 p2 : Value} {xs ys : List PT} {N B13 B16 : Nat} {ka kb : List Value} {w0 W : World} {mm : List Pair} (h : EvSt w p1 p2 xs ys N B13 B16 ka kb w0 W mm) : EvSt w p1 p2 xs ys N B13 B16 ka kb w0 W.drew mm :=
  { h with st := h.st.below (Below.refl _ _).drew }
theorem EvSt.store {w : World} {p1 p2 : Value} {xs ys : List PT} {N B13 B16 : Nat} {ka kb : List Value} {w0 W : World} {mm : List Pair} (h : EvSt w p1 p2 xs ys N B13 B16 ka kb w0 W mm) {b : Nat} (cs : List Value)
    (h1 : w.heap.size ≤ b) (h2 : b < w.heap.size + 2) (h3 : B13 ≠ b) (h4 : B16 ≠ b) : EvSt w p1 p2 xs ys N B13 B16 ka kb (w0.setCells b 0 cs) (W.setCells b 0 cs) mm := by
  have hlw := h.lw
  have hsz := h.sz
  refine ⟨by rw [setCells_size]; exact h.sz, h.i1.far (grown_setCells _ _ _ w0) h2, h.i2.far (grown_setCells _ _ _ w0) h2, below_setCells _ h1 _ _ _ h.be, World.there_setCells h.t9' _ _ _, World.there_setCells h.t10' _ _ _,
    World.rangeAt_setCells_apart h.x13' _ _ _ (.inl h3), World.rangeAt_setCells_apart h.x16' _ _ _ (.inl h4), h.l13, h.l16, h.lw, ?_⟩
  obtain ⟨s1, s2, s3, s4, s5, s6⟩ := h.st
  have hg := grown_setCells b cs 0 W
  have hc : ∀ j, (W.setCells b 0 cs).cell? ⟨w0.heap.size + 1, j, none⟩ = W.cell? ⟨w0.heap.size + 1, j, none⟩ := fun j => hg.cell_far ⟨w0.heap.size + 1, j, none⟩ (show w0.heap.size + 1 < _ by omega) (by simp; omega)
  unfold IAskSt
  rw [setCells_size, setCells_size]
  exact ⟨bsets_both b cs 0 s1, s2, (hc 0).trans s3, (hc 1).trans s4, (hc 2).trans s5, s6.kept hg (by simp; omega)⟩
/-- What evolve leaves. -/
def IePost (o1 o2 : Option (List Ty × Kd)) (w : World) (e : Ending) (w' : World) : Prop :=
  ∃ (q : Option Addr) (a1 b1 c1 a2 b2 c2 : ByteArray), e = .returned (.tuple #[.pointer q, .agg #[.string a1, .string b1, .string c1], .agg #[.string a2, .string b2, .string c2], .bool (evolveL o1 o2)]) ∧ Below w.heap.size w w' ∧
    (evolveL o1 o2 = true → ∃ (S T : List Ty) (a b : Kd) (xs ys : List PT) (eb : Nat) (p1 p2 : Option Addr), o1 = some (S, a) ∧ o2 = some (T, b) ∧ ptysOf xs = S ∧ ptysOf ys = T ∧ q = some ⟨eb, 0, none⟩ ∧ a1 = ⟨a.signs.toArray⟩ ∧ b1 = ⟨a.base.toArray⟩ ∧ c1 = ⟨a.name.toArray⟩ ∧ a2 = ⟨b.signs.toArray⟩ ∧ b2 = ⟨b.base.toArray⟩ ∧ c2 = ⟨b.name.toArray⟩ ∧
      w.heap.size ≤ eb ∧ eb < w'.heap.size ∧ w'.cell? ⟨eb, 0, none⟩ = some (.pointer p1) ∧ w'.cell? ⟨eb, 1, none⟩ = some (.pointer p2) ∧ ISL w.heap.size w' (.pointer p1) xs ∧ ISL w.heap.size w' (.pointer p2) ys)

set_option maxHeartbeats 4000000 in
theorem iEvolve_both (s1 d1 s2 d2 : List UInt8) (w : World) (h1 : s1.length ≤ 4000000) (h2 : d1.length ≤ 4000000) (h3 : s2.length ≤ 4000000) (h4 : d2.length ≤ 4000000) :
    Calls Tryd.prog 9 #[.string ⟨s1.toArray⟩, .string ⟨d1.toArray⟩, .string ⟨s2.toArray⟩, .string ⟨d2.toArray⟩] w (IePost (bothL s1 d1) (bothL s2 d2) w) := by
  have Hk1 := Lib.hid (fun W => iBoth_any s1 d1 W h1 h2)
  have Hk2 := Lib.hid (fun W => iBoth_any s2 d2 W h3 h4)
  have Hg1 := Lib.hid (fun S k (h : bothL s1 d1 = some (S, k)) => bothL_good h)
  have Hg2 := Lib.hid (fun S k (h : bothL s2 d2 = some (S, k)) => bothL_good h)
  generalize bothL s1 d1 = o1 at *
  generalize bothL s2 d2 = o2 at *
  have hmm := @run_makeMap Tryd.prog
  go_enter Tryd.func9, Tryd.ntmps9
  go_wp2_with fail
  refine (Hk1.out _).mono ?_
  rintro e w1 hp1
  obtain ⟨q1, a1, b1, c1, rfl, hb1, hs1⟩ := hp1.form
  have HT9 := Lib.hid (show w1.there w.heap.size 0 3 from there_below (World.there_alloc (there_new w [.string ⟨#[]⟩, .string ⟨#[]⟩, .string ⟨#[]⟩] 32) _) (by simp; omega) hb1)
  have HT10 := Lib.hid (show w1.there (w.heap.size + 1) 0 3 from there_below (by have := there_new (w.alloc (.cells ([.string ⟨#[]⟩, .string ⟨#[]⟩, .string ⟨#[]⟩] : List Value).toArray 32)) [.string ⟨#[]⟩, .string ⟨#[]⟩, .string ⟨#[]⟩] 32; simpa using this) (by simp) hb1)
  have Hb1 := Lib.hid (show Below w.heap.size w w1 from (((Below.refl _ _).alloc (Nat.le_refl _) _).alloc (by simp) _).trans (hb1.mono (by simp; omega)))
  have hz1 : w.heap.size + 1 < w1.heap.size := by have := hb1.size; simp at this; omega
  have Hs1 := Lib.hid hs1
  clear hp1 hb1 hs1
  go_wp2_with fail
  refine (Hk2.out _).mono ?_
  rintro e w3 hp2
  obtain ⟨q2, a2, b2, c2, rfl, hb3, hs2⟩ := hp2.form
  have HB3 := Lib.hid (show Below w1.heap.size w1 w3 from ((Below.refl _ _).alloc (Nat.le_refl _) _).trans (hb3.mono (by simp)))
  have X13 := Lib.hid (show w3.rangeAt w1.heap.size 0 [.string a1, .string b1, .string c1] from rangeAt_below (rangeAt_new w1 [.string a1, .string b1, .string c1] 32) (by simp) hb3)
  have hz3 : w1.heap.size < w3.heap.size := by have := hb3.size; simp at this; omega
  have Hs2 := Lib.hid hs2
  have Hb3 := Lib.hid (Hb1.out.trans (HB3.out.mono (by omega)))
  have HT9' := Lib.hid (there_below HT9.out (show w.heap.size < w1.heap.size by omega) HB3.out)
  have HT10' := Lib.hid (there_below HT10.out hz1 HB3.out)
  clear hp2 hb3 hs2 HT9 HT10
  have HT9 := Lib.hid (show (w3.alloc (.cells #[.string a2, .string b2, .string c2] 32)).there w.heap.size 0 3 from World.there_alloc HT9'.out _)
  have HT10 := Lib.hid (show (w3.alloc (.cells #[.string a2, .string b2, .string c2] 32)).there (w.heap.size + 1) 0 3 from World.there_alloc HT10'.out _)
  have Hb4 := Lib.hid (show Below w.heap.size w (w3.alloc (.cells #[.string a2, .string b2, .string c2] 32)) from Hb3.out.alloc (by omega) _)
  cases o1 with
  | none =>
    cases o2 with
    | none =>
      have Hev : Hid (evolveL none none = false) := rfl
      dsimp only [Option.isSome]
      go_wp2_with (first | ((with_reducible refine wpList_store_hid (op := ⟨none, .store 32 _ _, _, _, _, none⟩) rfl 32 _ _ rfl w.heap.size 0 [.string ⟨#[]⟩, .string ⟨#[]⟩, .string ⟨#[]⟩] ?_ ?_ ?_ ?_ ?_ ?_); rfl; rfl; (exact HT9.out); kernel_rfl; (simp [Value.oneCell']); intro w9 HS9; have HT10b := Lib.hid (show w9.there (w.heap.size + 1) 0 3 from by rw [HS9.out]; exact World.there_setCells HT10.out _ _ _)) | ((with_reducible refine wpList_store_hid (op := ⟨none, .store 32 _ _, _, _, _, none⟩) rfl 32 _ _ rfl (w.heap.size + 1) 0 [.string ⟨#[]⟩, .string ⟨#[]⟩, .string ⟨#[]⟩] ?_ ?_ ?_ ?_ ?_ ?_); rfl; rfl; (exact HT10b.out); kernel_rfl; (simp [Value.oneCell']); intro w10 HS10))
      have HZ1 := Lib.hid (show w10.rangeAt w.heap.size 0 [.string ⟨#[]⟩, .string ⟨#[]⟩, .string ⟨#[]⟩] from by rw [HS10.out]; exact World.rangeAt_setCells_apart (show w9.rangeAt w.heap.size 0 [.string ⟨#[]⟩, .string ⟨#[]⟩, .string ⟨#[]⟩] from by rw [HS9.out]; exact World.rangeAt_setCells_same _ _ _ _ HT9.out) _ _ _ (.inl (show w.heap.size ≠ w.heap.size + 1 by omega)))
      have HZ2 := Lib.hid (show w10.rangeAt (w.heap.size + 1) 0 [.string ⟨#[]⟩, .string ⟨#[]⟩, .string ⟨#[]⟩] from by rw [HS10.out]; exact World.rangeAt_setCells_same _ _ _ _ HT10b.out)
      have Hb9 := Lib.hid (show Below w.heap.size w w10 from by rw [HS10.out]; refine below_setCells _ (by omega) _ _ _ ?_; rw [HS9.out]; exact below_setCells _ (Nat.le_refl _) _ _ _ Hb4.out)
      refine bodyPost_ret (v := .tuple #[.pointer none, .agg ([.string ⟨#[]⟩, .string ⟨#[]⟩, .string ⟨#[]⟩] : List Value).toArray, .agg ([.string ⟨#[]⟩, .string ⟨#[]⟩, .string ⟨#[]⟩] : List Value).toArray, .bool false]) ?_ rfl ?_
      · exact results_tcct Tryd.results9 _ _ w.heap.size (w.heap.size + 1) [.string ⟨#[]⟩, .string ⟨#[]⟩, .string ⟨#[]⟩] [.string ⟨#[]⟩, .string ⟨#[]⟩, .string ⟨#[]⟩] _ _ _ rfl rfl rfl rfl HZ1.out HZ2.out Tryd.underlying32 rfl (by kernel_rfl) (by kernel_rfl)
      · exact ⟨none, _, _, _, _, _, _, by rw [Hev.out], Hb9.out, fun h => by rw [Hev.out] at h; cases h⟩
    | some y =>
      have Hev : Hid (evolveL none (some y) = false) := rfl
      dsimp only [Option.isSome]
      go_wp2_with (first | ((with_reducible refine wpList_store_hid (op := ⟨none, .store 32 _ _, _, _, _, none⟩) rfl 32 _ _ rfl w.heap.size 0 [.string ⟨#[]⟩, .string ⟨#[]⟩, .string ⟨#[]⟩] ?_ ?_ ?_ ?_ ?_ ?_); rfl; rfl; (exact HT9.out); kernel_rfl; (simp [Value.oneCell']); intro w9 HS9; have HT10b := Lib.hid (show w9.there (w.heap.size + 1) 0 3 from by rw [HS9.out]; exact World.there_setCells HT10.out _ _ _)) | ((with_reducible refine wpList_store_hid (op := ⟨none, .store 32 _ _, _, _, _, none⟩) rfl 32 _ _ rfl (w.heap.size + 1) 0 [.string ⟨#[]⟩, .string ⟨#[]⟩, .string ⟨#[]⟩] ?_ ?_ ?_ ?_ ?_ ?_); rfl; rfl; (exact HT10b.out); kernel_rfl; (simp [Value.oneCell']); intro w10 HS10))
      have HZ1 := Lib.hid (show w10.rangeAt w.heap.size 0 [.string ⟨#[]⟩, .string ⟨#[]⟩, .string ⟨#[]⟩] from by rw [HS10.out]; exact World.rangeAt_setCells_apart (show w9.rangeAt w.heap.size 0 [.string ⟨#[]⟩, .string ⟨#[]⟩, .string ⟨#[]⟩] from by rw [HS9.out]; exact World.rangeAt_setCells_same _ _ _ _ HT9.out) _ _ _ (.inl (show w.heap.size ≠ w.heap.size + 1 by omega)))
      have HZ2 := Lib.hid (show w10.rangeAt (w.heap.size + 1) 0 [.string ⟨#[]⟩, .string ⟨#[]⟩, .string ⟨#[]⟩] from by rw [HS10.out]; exact World.rangeAt_setCells_same _ _ _ _ HT10b.out)
      have Hb9 := Lib.hid (show Below w.heap.size w w10 from by rw [HS10.out]; refine below_setCells _ (by omega) _ _ _ ?_; rw [HS9.out]; exact below_setCells _ (Nat.le_refl _) _ _ _ Hb4.out)
      refine bodyPost_ret (v := .tuple #[.pointer none, .agg ([.string ⟨#[]⟩, .string ⟨#[]⟩, .string ⟨#[]⟩] : List Value).toArray, .agg ([.string ⟨#[]⟩, .string ⟨#[]⟩, .string ⟨#[]⟩] : List Value).toArray, .bool false]) ?_ rfl ?_
      · exact results_tcct Tryd.results9 _ _ w.heap.size (w.heap.size + 1) [.string ⟨#[]⟩, .string ⟨#[]⟩, .string ⟨#[]⟩] [.string ⟨#[]⟩, .string ⟨#[]⟩, .string ⟨#[]⟩] _ _ _ rfl rfl rfl rfl HZ1.out HZ2.out Tryd.underlying32 rfl (by kernel_rfl) (by kernel_rfl)
      · exact ⟨none, _, _, _, _, _, _, by rw [Hev.out], Hb9.out, fun h => by rw [Hev.out] at h; cases h⟩
  | some x =>
    obtain ⟨S, k⟩ := x
    cases o2 with
    | none =>
      have Hev : Hid (evolveL (some (S, k)) none = false) := rfl
      dsimp only [Option.isSome]
      go_wp2_with (first | ((with_reducible refine wpList_store_hid (op := ⟨none, .store 32 _ _, _, _, _, none⟩) rfl 32 _ _ rfl w.heap.size 0 [.string ⟨#[]⟩, .string ⟨#[]⟩, .string ⟨#[]⟩] ?_ ?_ ?_ ?_ ?_ ?_); rfl; rfl; (exact HT9.out); kernel_rfl; (simp [Value.oneCell']); intro w9 HS9; have HT10b := Lib.hid (show w9.there (w.heap.size + 1) 0 3 from by rw [HS9.out]; exact World.there_setCells HT10.out _ _ _)) | ((with_reducible refine wpList_store_hid (op := ⟨none, .store 32 _ _, _, _, _, none⟩) rfl 32 _ _ rfl (w.heap.size + 1) 0 [.string ⟨#[]⟩, .string ⟨#[]⟩, .string ⟨#[]⟩] ?_ ?_ ?_ ?_ ?_ ?_); rfl; rfl; (exact HT10b.out); kernel_rfl; (simp [Value.oneCell']); intro w10 HS10))
      have HZ1 := Lib.hid (show w10.rangeAt w.heap.size 0 [.string ⟨#[]⟩, .string ⟨#[]⟩, .string ⟨#[]⟩] from by rw [HS10.out]; exact World.rangeAt_setCells_apart (show w9.rangeAt w.heap.size 0 [.string ⟨#[]⟩, .string ⟨#[]⟩, .string ⟨#[]⟩] from by rw [HS9.out]; exact World.rangeAt_setCells_same _ _ _ _ HT9.out) _ _ _ (.inl (show w.heap.size ≠ w.heap.size + 1 by omega)))
      have HZ2 := Lib.hid (show w10.rangeAt (w.heap.size + 1) 0 [.string ⟨#[]⟩, .string ⟨#[]⟩, .string ⟨#[]⟩] from by rw [HS10.out]; exact World.rangeAt_setCells_same _ _ _ _ HT10b.out)
      have Hb9 := Lib.hid (show Below w.heap.size w w10 from by rw [HS10.out]; refine below_setCells _ (by omega) _ _ _ ?_; rw [HS9.out]; exact below_setCells _ (Nat.le_refl _) _ _ _ Hb4.out)
      refine bodyPost_ret (v := .tuple #[.pointer none, .agg ([.string ⟨#[]⟩, .string ⟨#[]⟩, .string ⟨#[]⟩] : List Value).toArray, .agg ([.string ⟨#[]⟩, .string ⟨#[]⟩, .string ⟨#[]⟩] : List Value).toArray, .bool false]) ?_ rfl ?_
      · exact results_tcct Tryd.results9 _ _ w.heap.size (w.heap.size + 1) [.string ⟨#[]⟩, .string ⟨#[]⟩, .string ⟨#[]⟩] [.string ⟨#[]⟩, .string ⟨#[]⟩, .string ⟨#[]⟩] _ _ _ rfl rfl rfl rfl HZ1.out HZ2.out Tryd.underlying32 rfl (by kernel_rfl) (by kernel_rfl)
      · exact ⟨none, _, _, _, _, _, _, by rw [Hev.out], Hb9.out, fun h => by rw [Hev.out] at h; cases h⟩
    | some y =>
      obtain ⟨T, l⟩ := y
      dsimp only [Option.isSome]
      obtain ⟨xs, hxs, e1, e2, e3, hi1⟩ := Hs1.out _ _ rfl
      obtain ⟨ys, hys, e4, e5, e6, hi2⟩ := Hs2.out _ _ rfl
      have hl1 : ISL (w.heap.size + 2) w1 (.pointer q1) xs := hi1.mono (by simp)
      have hl3 : ISL (w.heap.size + 2) w3 (.pointer q1) xs := hl1.below HB3.out
      have hl3' : ISL (w.heap.size + 2) w3 (.pointer q2) ys := hi2.mono (by simp; omega)
      have Hi1' := Lib.hid hl3
      have Hi2' := Lib.hid hl3'
      have E1 := Lib.hid e1
      have E2 := Lib.hid e2
      have E3 := Lib.hid e3
      have E4 := Lib.hid e4
      have E5 := Lib.hid e5
      have E6 := Lib.hid e6
      obtain ⟨hS, _, _, hk1, _, hr1⟩ := Hg1.out _ _ rfl
      obtain ⟨hT, _, _, hk2, _, hr2⟩ := Hg2.out _ _ rfl
      subst hxs hys
      clear e1 e2 e3 e4 e5 e6
      go_wp2_with fail
      obtain ⟨w4, hw4⟩ : ∃ w4, w4 = w3.alloc (.cells #[.string a2, .string b2, .string c2] 32) := ⟨_, rfl⟩
      rw [← hw4] at HT9 HT10 Hb4 ⊢
      have hz4 : w4.heap.size = w3.heap.size + 1 := by rw [hw4]; simp
      have hb34 : Below w3.heap.size w3 w4 := by rw [hw4]; exact (Below.refl _ _).alloc (Nat.le_refl _) _
      have Hi1 := Lib.hid (Hi1'.out.below hb34)
      have Hi2 := Lib.hid (Hi2'.out.below hb34)
      have X13' := Lib.hid (rangeAt_below X13.out hz3 hb34)
      have X16 := Lib.hid (show w4.rangeAt w3.heap.size 0 [.string a2, .string b2, .string c2] from by rw [hw4]; exact rangeAt_new w3 [.string a2, .string b2, .string c2] 32)
      have Hcall := Lib.hid (fun (w0' W : World) (hN : w0'.heap.size = w4.heap.size) (h1 : ISL (w.heap.size + 2) w0' (.pointer q1) xs) (h2 : ISL (w.heap.size + 2) w0' (.pointer q2) ys) (h : IAskSt w0' (.pointer q1) (.pointer q2) W []) => show Calls Tryd.prog 19 #[.pointer (some ⟨w4.heap.size + 1, 0, none⟩), kdV k, kdV l] W (IaPost w0' (.pointer q1) (.pointer q2) (evK (ptysOf xs) (ptysOf ys) 65 k l []) W) from hN ▸ iAsk_any w0' _ _ xs ys h1.isc h2.isc hS hT 65 k l [] W hk1 hk2 hr1 hr2 (Asks.nil _ _) (by simp) h)
      unfold kdV at Hcall
      rw [← E1.out, ← E2.out, ← E3.out, ← E4.out, ← E5.out, ← E6.out] at Hcall
      have Hev : Hid (evolveL (some (ptysOf xs, k)) (some (ptysOf ys, l)) = (evK (ptysOf xs) (ptysOf ys) 65 k l []).1) := rfl
      generalize evK (ptysOf xs) (ptysOf ys) 65 k l [] = r at *
      obtain ⟨r1, r2⟩ := r
      clear hw4 hb34 hi1 hi2 hl1 hl3 hl3' hS hT hk1 hk2 hr1 hr2
      have hmb : (w4.alloc (.map #[] 0)).heap.size = w4.heap.size + 1 := by simp
      obtain ⟨w6, hw6⟩ : ∃ w6, w6 = (w4.alloc (.map #[] 0)).alloc (.cells #[.pointer q1, .pointer q2, .map (some (w3.heap.size + 1))] 58) := ⟨_, rfl⟩
      rw [← hw6]
      have hz6 : w6.heap.size = w4.heap.size + 2 := by rw [hw6]; simp
      have hb46 : Below w4.heap.size w4 w6 := by rw [hw6]; exact ((Below.refl _ _).alloc (Nat.le_refl _) _).alloc (by simp) _
      have Hst6 := Lib.hid (show IAskSt w4 (.pointer q1) (.pointer q2) w6 [] from by
        refine ⟨hb46, by omega, by rw [hw6, ← hmb]; simp, by rw [hw6, ← hmb]; simp, by rw [hw6, ← hmb]; simp; omega, ?_⟩
        rw [hw6]
        exact ((FMap.made w4 Tryd.prog 108 (.bool false)).alloc _).of_eq (fun l hl => by simp [askedF]))
      have HE := Lib.hid (show EvSt w (.pointer q1) (.pointer q2) xs ys w4.heap.size w1.heap.size w3.heap.size [.string a1, .string b1, .string c1] [.string a2, .string b2, .string c2] w4 w6 [] from ⟨rfl, Hi1.out, Hi2.out, Hb4.out, HT9.out, HT10.out, X13'.out, X16.out, by omega, by omega, by omega, Hst6.out⟩)
      have g13 : w.heap.size + 2 ≤ w1.heap.size := by omega
      have g16 : w.heap.size + 2 ≤ w3.heap.size := by omega
      have hz43 : w3.heap.size + 1 + 1 = w4.heap.size + 1 := by omega
      rw [hz43]
      generalize w1.heap.size = B13 at *
      generalize w3.heap.size = B16 at *
      clear hw6 hb46 hmb
      refine wp_region_slots3 [46, 47, 48, 49, 50, 51, 52, 8, 999, 998, 11] (by kernel_rfl) (by kernel_rfl) (by kernel_rfl) (fun u => by dsimp only [frameOf, setMany, List.set, Nat.zero_add, Nat.reduceAdd])
        (fun i v W => match i with | 0 => v = .pointer (some ⟨w4.heap.size + 1, 0, none⟩) | 1 => v = .agg ([.string a1, .string b1, .string c1] : List Value).toArray | 2 => v = .agg ([.string a2, .string b2, .string c2] : List Value).toArray | 3 => v = .pointer (some ⟨w4.heap.size + 1, 0, none⟩) | 4 => v = .agg ([.string a1, .string b1, .string c1] : List Value).toArray | 5 => v = .agg ([.string a2, .string b2, .string c2] : List Value).toArray | 6 => v = .bool r1 | 7 => v = .pointer (some ⟨w4.heap.size + 1, 0, none⟩) | 10 => v = .bool r1 | _ => True)
        (fun L U W => ∃ w0' mm, EvSt w (.pointer q1) (.pointer q2) xs ys w4.heap.size B13 B16 [.string a1, .string b1, .string c1] [.string a2, .string b2, .string c2] w0' W mm ∧ (L 6 = false → mm = []) ∧ (L 8 = true → w0'.rangeAt w.heap.size 0 [.string a1, .string b1, .string c1]) ∧ (L 9 = true → w0'.rangeAt (w.heap.size + 1) 0 [.string a2, .string b2, .string c2])) (fun _ _ => True) (fun _ _ _ _ _ h => h) (⟨w4, [], HE.out.drew, fun _ => rfl, fun h => Bool.noConfusion h, fun h => Bool.noConfusion h⟩) ?_ ?_
      · repeat (first | exact Steps.nil | (refine Steps.cons ?_ ?_; rotate_left))
        all_goals
          rintro L U W hL hpre hR hun hdep K hK
          have HR := Lib.hid hR
          obtain ⟨w0', mm, hE, hm0, R8, R9⟩ := HR.out
          have x13 := hE.x13
          have x16 := hE.x16
          have a0 : W.cell? ⟨B13, 0, none⟩ = some (.string a1) := by simpa using rangeAt_cell x13 0 rfl
          have a1' : W.cell? ⟨B13, 1, none⟩ = some (.string b1) := by simpa using rangeAt_cell x13 1 rfl
          have a2' : W.cell? ⟨B13, 2, none⟩ = some (.string c1) := by simpa using rangeAt_cell x13 2 rfl
          have b0 : W.cell? ⟨B16, 0, none⟩ = some (.string a2) := by simpa using rangeAt_cell x16 0 rfl
          have b1' : W.cell? ⟨B16, 1, none⟩ = some (.string b2) := by simpa using rangeAt_cell x16 1 rfl
          have b2' : W.cell? ⟨B16, 2, none⟩ = some (.string c2) := by simpa using rangeAt_cell x16 2 rfl
          clear x13 x16
          clear hun hdep hR
          first | (simp [Region.binds] at hpre; done) | simp [Region.binds] at hpre | clear hpre
        iterate 6
          · go_simp
            first | exact hK _ _ _ rfl trivial HR.out rfl | exact hK _ _ _ rfl trivial HR.out (by simp [Act.put, hpre]) | exact hK undef _ _ trivial trivial HR.out (by simp [Act.put, hpre]) | exact hK _ _ _ trivial trivial HR.out rfl | exact hK _ _ _ trivial trivial HR.out (by simp [Act.put, hpre])
        · obtain rfl := hm0 hL
          go_simp
          refine (Hcall.out w0' W hE.sz hE.i1 hE.i2 hE.st).mono ?_
          rintro e w5 ⟨rfl, ha5, hk5⟩
          exact hK _ _ _ rfl trivial ⟨w0', _, { hE with st := ha5 }, fun h => by simp at h, R8, R9⟩ (by simp [Act.put, hpre])
        · go_simp
          first | exact hK _ _ _ rfl trivial HR.out rfl | exact hK _ _ _ rfl trivial HR.out (by simp [Act.put, hpre]) | exact hK undef _ _ trivial trivial HR.out (by simp [Act.put, hpre]) | exact hK _ _ _ trivial trivial HR.out rfl | exact hK _ _ _ trivial trivial HR.out (by simp [Act.put, hpre])
        · rw [if_pos (by rfl)]
          refine wp_store_mid 32 _ _ rfl w.heap.size 0 ([.string a1, .string b1, .string c1] : List Value).toArray rfl (by first | exact hpre.1.2 | exact hpre.2.1.2 | exact hpre.2 | exact hpre.1) hE.t9 (by kernel_rfl) (by simp [Value.oneCell']) ?_
          exact hK undef _ _ trivial trivial ⟨_, mm, hE.store (b := w.heap.size) [.string a1, .string b1, .string c1] (by omega) (by omega) (by omega) (by omega), hm0, fun _ => World.rangeAt_setCells_same _ _ _ _ hE.t9', fun h => World.rangeAt_setCells_apart (R9 h) _ _ _ (.inl (show w.heap.size + 1 ≠ w.heap.size by omega))⟩ rfl
        · rw [if_pos (by rfl)]
          refine wp_store_mid 32 _ _ rfl (w.heap.size + 1) 0 ([.string a2, .string b2, .string c2] : List Value).toArray rfl (by first | exact hpre.1.2 | exact hpre.2.1.2 | exact hpre.2 | exact hpre.1) hE.t10 (by kernel_rfl) (by simp [Value.oneCell']) ?_
          exact hK undef _ _ trivial trivial ⟨_, mm, hE.store (b := (w.heap.size + 1)) [.string a2, .string b2, .string c2] (by omega) (by omega) (by omega) (by omega), hm0, fun h => World.rangeAt_setCells_apart (R8 h) _ _ _ (.inl (show w.heap.size ≠ w.heap.size + 1 by omega)), fun _ => World.rangeAt_setCells_same _ _ _ _ hE.t10'⟩ rfl
        · go_simp
          first | exact hK _ _ _ rfl trivial HR.out rfl | exact hK _ _ _ rfl trivial HR.out (by simp [Act.put, hpre]) | exact hK undef _ _ trivial trivial HR.out (by simp [Act.put, hpre]) | exact hK _ _ _ trivial trivial HR.out rfl | exact hK _ _ _ trivial trivial HR.out (by simp [Act.put, hpre])
      · rintro L U W hL hφ hR
        have e7 : U 7 = .pointer (some ⟨w4.heap.size + 1, 0, none⟩) := hφ 7 (by decide)
        have e10 : U 10 = .bool r1 := hφ 10 (by decide)
        simp only [e7, e10]
        clear hφ
        obtain ⟨w0', mm, hE, _, h8, h9⟩ := hR
        have Z1 := Lib.hid (rangeAt_below (h8 (hL 8 (by decide))) (show w.heap.size < w0'.heap.size by have := hE.sz; have := hE.lw; omega) hE.st.1)
        have Z2 := Lib.hid (rangeAt_below (h9 (hL 9 (by decide))) (show w.heap.size + 1 < w0'.heap.size by have := hE.sz; have := hE.lw; omega) hE.st.1)
        have HEv := Lib.hid hE
        clear hL hE h8 h9
        go_wp2_with fail
        refine bodyPost_ret (v := .tuple #[.pointer (some ⟨w4.heap.size + 1, 0, none⟩), .agg ([.string a1, .string b1, .string c1] : List Value).toArray, .agg ([.string a2, .string b2, .string c2] : List Value).toArray, .bool r1]) ?_ rfl ?_
        · exact results_tcct Tryd.results9 _ _ w.heap.size (w.heap.size + 1) [.string a1, .string b1, .string c1] [.string a2, .string b2, .string c2] _ _ _ rfl rfl rfl rfl Z1.out Z2.out Tryd.underlying32 rfl (by kernel_rfl) (by kernel_rfl)
        · have hE := HEv.out
          have hs := hE.sz
          obtain ⟨s1, s2, s3, s4, s5, s6⟩ := hE.st
          rw [hs] at s2 s3 s4
          exact ⟨_, _, _, _, _, _, _, by rw [Hev.out], hE.be.trans (s1.mono hE.be.size), fun _ => ⟨_, _, k, l, xs, ys, w4.heap.size + 1, q1, q2, rfl, rfl, rfl, rfl, rfl, E1.out, E2.out, E3.out, E4.out, E5.out, E6.out, by have := hE.lw; omega, by omega, s3, s4, (hE.i1.below s1).mono (by omega), (hE.i2.below s1).mono (by omega)⟩⟩
theorem IePost.kinds {o1 o2 : Option (List Ty × Kd)} {w w' : World} {e : Ending} (h : IePost o1 o2 w e w') : ∃ (q : Option Addr) (a1 b1 c1 a2 b2 c2 : ByteArray), e = .returned (.tuple #[.pointer q, .agg #[.string a1, .string b1, .string c1], .agg #[.string a2, .string b2, .string c2], .bool (evolveL o1 o2)]) ∧ Below w.heap.size w w' := by
  obtain ⟨q, a1, b1, c1, a2, b2, c2, h1, h2, _⟩ := h
  exact ⟨q, a1, b1, c1, a2, b2, c2, h1, h2⟩

set_option maxHeartbeats 1000000 in
theorem iEvolve_any (s1 d1 s2 d2 : List UInt8) (w : World) (h1 : s1.length ≤ 4000000) (h2 : d1.length ≤ 4000000) (h3 : s2.length ≤ 4000000) (h4 : d2.length ≤ 4000000) :
    Calls Tryd.prog 5 #[.string ⟨s1.toArray⟩, .string ⟨d1.toArray⟩, .string ⟨s2.toArray⟩, .string ⟨d2.toArray⟩] w fun e w' => e = .returned (.bool (evolveL (bothL s1 d1) (bothL s2 d2))) ∧ Below w.heap.size w w' := by
  have Hr := Lib.hid (fun W => iEvolve_both s1 d1 s2 d2 W h1 h2 h3 h4)
  generalize bothL s1 d1 = o1 at *
  generalize bothL s2 d2 = o2 at *
  go_enter Tryd.func5, Tryd.ntmps5
  go_wp2_with fail
  refine (Hr.out _).mono ?_
  rintro e w1 hp
  obtain ⟨q, a1, b1, c1, a2, b2, c2, rfl, hb1⟩ := hp.kinds
  have Hb1 := Lib.hid hb1
  clear hb1 hp
  go_wp2_with fail
  go_ret
  exact ⟨rfl, (Hb1.out.alloc Hb1.out.size _).alloc (by simp; have := Hb1.out.size; omega) _⟩
end Go.Proofs.YtcjfgbcdlcdeaaaDoor
/- Plain laws: kinds with a sign ahead read each other as those behind it; a kind reads itself where it is one. No program in sight. -/
namespace Go.Proofs.YtcjfgbcdlcdeaaaDoor
set_option linter.unusedVariables false

/-- A kind with a sign ahead. -/
def preK (c : UInt8) (k : Kd) : Kd := { k with signs := c :: k.signs }
theorem kindL_pre {c : UInt8} (hc : isSign c = true) {d : List UInt8} (h : d.length ≤ 11) : kindL (c :: d) = (kindL d).map (preK c) := by
  have e1 : (c :: d).dropWhile isSign = d.dropWhile isSign := by simp [hc]
  have e2 : (c :: d).takeWhile isSign = c :: d.takeWhile isSign := by simp [hc]
  unfold kindL
  rw [e1, e2]
  have l1 : ¬ 12 < (c :: d).length := by simp; omega
  have l2 : ¬ 12 < d.length := by omega
  rw [if_neg l1, if_neg l2]
  by_cases h1 : d.dropWhile isSign = [110] ∨ d.dropWhile isSign = [116] ∨ d.dropWhile isSign = [102]
  · rw [if_pos h1, if_pos h1]; rfl
  · rw [if_neg h1, if_neg h1]
    split <;> rfl
theorem bothL_pre {c : UInt8} (hc : isSign c = true) {s d : List UInt8} (h : d.length ≤ 11) : bothL s (c :: d) = (bothL s d).map fun x => (x.1, preK c x.2) := by
  unfold bothL
  cases schemaL s with
  | none => rfl
  | some S =>
    simp only
    rw [kindL_pre hc h]
    cases kindL d with
    | none => rfl
    | some k =>
      simp only [Option.map_some]
      by_cases hr : refOk S k
      · rw [if_pos hr, if_pos (show refOk S (preK c k) from hr)]; rfl
      · rw [if_neg hr, if_neg (show ¬ refOk S (preK c k) from hr)]; rfl
theorem readsK_pre (S T : List Ty) (c : UInt8) (a b : Kd) : readsK S T (preK c a) (preK c b) = readsK S T a b := by
  unfold readsK evK
  simp [preK]
theorem readsK_pre_ne (S T : List Ty) {c e : UInt8} (h : c ≠ e) (a b : Kd) : readsK S T (preK c a) (preK e b) = false := by
  unfold readsK evK
  rw [if_pos (.inl (by simp [preK, h]))]
theorem evolve_pre {c : UInt8} (hc : isSign c = true) {s d t e : List UInt8} (h1 : d.length ≤ 11) (h2 : e.length ≤ 11) : evolveL (bothL s (c :: d)) (bothL t (c :: e)) = evolveL (bothL s d) (bothL t e) := by
  rw [bothL_pre hc h1, bothL_pre hc h2]
  cases bothL s d with
  | none => rfl
  | some x => cases bothL t e with
    | none => rfl
    | some y => exact readsK_pre _ _ _ _ _
theorem evolve_pre_ne {s d t e : List UInt8} (h1 : d.length ≤ 11) (h2 : e.length ≤ 11) : evolveL (bothL s (91 :: d)) (bothL t (63 :: e)) = false := by
  rw [bothL_pre (by decide) h1, bothL_pre (by decide) h2]
  cases bothL s d with
  | none => rfl
  | some x => cases bothL t e with
    | none => rfl
    | some y => exact readsK_pre_ne _ _ (by decide) _ _
theorem evolve_self (s d : List UInt8) : evolveL (bothL s d) (bothL s d) = (bothL s d).isSome := by
  cases h : bothL s d with
  | none => rfl
  | some x =>
    obtain ⟨S, k⟩ := x
    obtain ⟨g1, _, _, _, _, g6⟩ := bothL_good h
    exact readsK_self g1 g6
end Go.Proofs.YtcjfgbcdlcdeaaaDoor
/- The walk of the drawn law that lists read as their items do. -/
namespace Go.Proofs.YtcjfgbcdlcdeaaaDoor
open Go.RowKit
set_option maxRecDepth 100000
set_option linter.unusedVariables false
set_option linter.unusedSimpArgs false
attribute [local go_sem] ba_get ba_toList ba_extract take_drop_all ByteArray.mk_append_mk

set_option maxHeartbeats 4000000 in
theorem FnReadsLists_walk (w : World) (A : Option Addr) (n c : Nat) (l : List UInt8) (h : RowAt w A n (bcells l)) (hc : n ≤ c) (hcm : c ≤ maxLen) :
    Calls Tryd.prog 3 #[.slice A n c] w fun e w' => e = .returned (.bool true) ∧ Below w.heap.size w w' := by
  by_cases hn : n ≤ 1048576
  · have H0 := Lib.hid h
    clear h
    go_enter Tryd.func3, Tryd.ntmps3
    go_wp2_with fail
    refine (DrawEvolveReads_any A n c l w H0.out hc hcm).mono ?_
    rintro e w1 ⟨a, b, c', d, rfl, ha, hb, hc', hd, hb1⟩
    have Hb1 := Lib.hid hb1
    clear hb1
    have Hi := Lib.hid (fun W => iEvolve_any a b c' d W (by omega) (by omega) (by omega) (by omega))
    have Hs := Lib.hid (fun W => sEvolve_any a b c' d W (by omega) (by omega) (by omega) (by omega))
    have H1 := Lib.hid (fun W => iEvolve_any a (91 :: b) c' (91 :: d) W (by omega) (by simp; omega) (by omega) (by simp; omega))
    have H2 := Lib.hid (fun W => iEvolve_any a (63 :: b) c' (63 :: d) W (by omega) (by simp; omega) (by omega) (by simp; omega))
    have H3 := Lib.hid (fun W => iEvolve_any a (91 :: b) c' (63 :: d) W (by omega) (by simp; omega) (by omega) (by simp; omega))
    have E1 := fun (hb : b.length ≤ 11) (hd : d.length ≤ 11) => evolve_pre (c := 91) (by decide) (s := a) (t := c') hb hd
    have E2 := fun (hb : b.length ≤ 11) (hd : d.length ≤ 11) => evolve_pre (c := 63) (by decide) (s := a) (t := c') hb hd
    have E3 := fun (hb : b.length ≤ 11) (hd : d.length ≤ 11) => evolve_pre_ne (s := a) (t := c') hb hd
    by_cases hb10 : b.length ≤ 10
    · have tb : decide ((10 : Int) < (b.length : Int)) = false := decide_eq_false (by omega)
      by_cases hd10 : d.length ≤ 10
      · have td : decide ((10 : Int) < (d.length : Int)) = false := decide_eq_false (by omega)
        rw [E1 (by omega) (by omega)] at H1
        rw [E2 (by omega) (by omega)] at H2
        rw [E3 (by omega) (by omega)] at H3
        clear E1 E2 E3
        cases hx : evolveL (bothL a b) (bothL c' d) <;>
        · rw [hx] at Hi Hs H1 H2
          clear hx
          go_wp2_with fail
          refine (Hi.out _).mono ?_
          rintro e w2 ⟨rfl, hb2⟩
          have Hb2 := Lib.hid (Hb1.out.trans (hb2.mono Hb1.out.size))
          clear hb2
          go_wp2_with fail
          refine (Hs.out _).mono ?_
          rintro e w3 ⟨rfl, hb3⟩
          have Hb3 := Lib.hid (Hb2.out.trans (hb3.mono Hb2.out.size))
          clear hb3
          go_wp2_with fail
          refine (H1.out _).mono ?_
          rintro e w4 ⟨rfl, hb4⟩
          have Hb4 := Lib.hid (Hb3.out.trans (hb4.mono Hb3.out.size))
          clear hb4
          go_wp2_with fail
          refine (H2.out _).mono ?_
          rintro e w5 ⟨rfl, hb5⟩
          have Hb5 := Lib.hid (Hb4.out.trans (hb5.mono Hb4.out.size))
          clear hb5
          go_wp2_with fail
          refine (H3.out _).mono ?_
          rintro e w6 ⟨rfl, hb6⟩
          have Hb6 := Lib.hid (Hb5.out.trans (hb6.mono Hb5.out.size))
          clear hb6
          go_wp2_with fail
          go_ret
          exact ⟨rfl, Hb6.out⟩
      · have td : decide ((10 : Int) < (d.length : Int)) = true := decide_eq_true (by omega)
        clear E1 E2 E3 H1 H2 H3
        cases hx : evolveL (bothL a b) (bothL c' d) <;>
        · rw [hx] at Hi Hs
          clear hx
          go_wp2_with fail
          refine (Hi.out _).mono ?_
          rintro e w2 ⟨rfl, hb2⟩
          have Hb2 := Lib.hid (Hb1.out.trans (hb2.mono Hb1.out.size))
          clear hb2
          go_wp2_with fail
          refine (Hs.out _).mono ?_
          rintro e w3 ⟨rfl, hb3⟩
          have Hb3 := Lib.hid (Hb2.out.trans (hb3.mono Hb2.out.size))
          clear hb3
          go_wp2_with fail
          refine (Hs.out _).mono ?_
          rintro e w4 ⟨rfl, hb4⟩
          have Hb4 := Lib.hid (Hb3.out.trans (hb4.mono Hb3.out.size))
          clear hb4
          go_wp2_with fail
          go_ret
          exact ⟨rfl, Hb4.out⟩
    · have tb : decide ((10 : Int) < (b.length : Int)) = true := decide_eq_true (by omega)
      clear E1 E2 E3 H1 H2 H3
      cases hx : evolveL (bothL a b) (bothL c' d) <;>
      · rw [hx] at Hi Hs
        clear hx
        go_wp2_with fail
        refine (Hi.out _).mono ?_
        rintro e w2 ⟨rfl, hb2⟩
        have Hb2 := Lib.hid (Hb1.out.trans (hb2.mono Hb1.out.size))
        clear hb2
        go_wp2_with fail
        refine (Hs.out _).mono ?_
        rintro e w3 ⟨rfl, hb3⟩
        have Hb3 := Lib.hid (Hb2.out.trans (hb3.mono Hb2.out.size))
        clear hb3
        go_wp2_with fail
        refine (Hs.out _).mono ?_
        rintro e w4 ⟨rfl, hb4⟩
        have Hb4 := Lib.hid (Hb3.out.trans (hb4.mono Hb3.out.size))
        clear hb4
        go_wp2_with fail
        go_ret
        exact ⟨rfl, Hb4.out⟩
  · have t1 : decide ((1048576 : Int) < (n : Int)) = true := decide_eq_true (by omega)
    go_enter Tryd.func3, Tryd.ntmps3
    go_wp2_with fail
    go_ret
    exact ⟨rfl, Below.refl _ _⟩
end Go.Proofs.YtcjfgbcdlcdeaaaDoor
/- How arguments that came in are opened: strings, slices of bytes and of strings, integers, as lists. -/
namespace Go.Proofs.YtcjfgbcdlcdeaaaDoor
set_option linter.unusedVariables false
set_option maxRecDepth 100000
open Go.ChangeShapes Go.WideShapes Go.ChangeAt Go.RowKit
open Go.ChangeMaps (open_string shut_string)

theorem getD_of_lt {α : Type} (l : List α) (d : α) {j : Nat} (h : j < l.length) : l.getD j d = l[j] := by simp [List.getD, h]

theorem own : ownKnob Tryd.prog.godebug = none := by kernel_rfl
theorem laidOut : laidOutB Tryd.prog = true := by kernel_rfl

section
variable {H : Type} {enc : TypeId × Value → H} {W : World} {base : Nat} {v : Value} {d : DataW H} {ps : List MemPlace}

theorem arg_string (hv : Value.okWide Tryd.prog W .any base 9 v) (h : DataW.Trod enc Tryd.prog W 0 (fun _ => true) true 9 v d ps) :
    ∃ l : List UInt8, v = .string ⟨l.toArray⟩ ∧ l.length ≤ maxLen := by
  obtain ⟨s, rfl, _, _, hs⟩ := open_string Tryd.underlying9 hv h
  exact ⟨s.data.toList, by simp, by simpa using hs⟩

theorem arg_int (hv : Value.okWide Tryd.prog W .any base 3 v) (h : DataW.Trod enc Tryd.prog W 0 (fun _ => true) true 3 v d ps) :
    ∃ x : Int, v = .int .i64 x ∧ -9223372036854775808 ≤ x ∧ x ≤ 9223372036854775807 := by
  obtain ⟨x, rfl, _, _, w⟩ := open_int Tryd.underlying3 hv h
  have hw := w
  simp [Lit.wf, IntKind.min, IntKind.max, IntKind.signed, IntKind.bits] at hw
  exact ⟨x, rfl, by omega, by omega⟩

theorem arg_bytes (hv : Value.okWide Tryd.prog W .any base 22 v) (h : DataW.Trod enc Tryd.prog W 0 (fun _ => true) true 22 v d ps) (hlt : ∀ x ∈ ps, x.block < W.heap.size) :
    ∃ A n c, ∃ l : List UInt8, v = .slice A n c ∧ RowAt W A n (bcells l) ∧ n ≤ c ∧ c ≤ maxLen := by
  obtain ⟨A, n, c, rfl⟩ := okWide_slice Tryd.underlying22 hv
  obtain ⟨fuel, hf⟩ := h
  rcases open_ints Tryd.underlying22 Tryd.underlying5 (by kernel_rfl) hf with ⟨hcs, _⟩ | ⟨x, n', c', zs, hcs, _, hl, hm, hz, _, hcell, hwz⟩
  · simp [Value.cells] at hcs
    obtain ⟨rfl, rfl, rfl⟩ := hcs
    exact ⟨none, 0, 0, [], rfl, ⟨rfl, Nat.zero_le _, fun h => absurd h (by omega)⟩, Nat.le_refl _, Nat.zero_le _⟩
  · simp [Value.cells] at hcs
    obtain ⟨rfl, rfl, rfl⟩ := hcs
    simp at hz
    refine ⟨some x, n, c, (zs.take n).map fun z => UInt8.ofNat z.toNat, rfl, ⟨by simp [bcells]; omega, Nat.le_trans hl hm, fun hn => ?_⟩, hl, hm⟩
    have h0 := hcell 0 (by omega)
    obtain ⟨b, off, spot⟩ := x
    have hspot : spot = none := by simpa [Addr.add] using World.cell?_spot h0
    subst hspot
    refine ⟨b, off, rfl, ?_, fun j u hu => ?_⟩
    · have := World.block_lt_of_cell? W _ h0
      simpa [Addr.add] using this
    · have hj : j < n := by
        have := (List.getElem?_eq_some_iff.1 hu).1
        simp [bcells] at this; omega
      have h1 := hcell j (by omega)
      have e1 : (⟨b, off, none⟩ : Addr).add j = ⟨b, off + j, none⟩ := by unfold Addr.add; split <;> simp_all
      rw [e1] at h1
      rw [h1]
      have hw := hwz (zs.getD j 0) (by rw [getD_of_lt _ _ (by omega)]; exact List.getElem_mem _)
      have hb2 : 0 ≤ zs.getD j 0 ∧ zs.getD j 0 ≤ 255 := by
        simp [Lit.wf, IntKind.min, IntKind.max, IntKind.signed, IntKind.bits] at hw
        simpa using hw
      simp only [bcells, List.getElem?_map, List.getElem?_take] at hu
      rw [if_pos hj, List.getElem?_eq_getElem (by omega : j < zs.length)] at hu
      simp at hu
      rw [← hu]
      rw [getD_of_lt _ _ (by omega : j < zs.length)] at hb2 ⊢
      congr 2
      omega

theorem arg_strings (hv : Value.okWide Tryd.prog W .any base 67 v) (h : DataW.Trod enc Tryd.prog W 0 (fun _ => true) true 67 v d ps) (hlt : ∀ x ∈ ps, x.block < W.heap.size) :
    ∃ A n c, ∃ l : List (List UInt8), v = .slice A n c ∧ RowAt W A n (scells l) ∧ ∀ s ∈ l, s.length ≤ maxLen := by
  obtain ⟨A, n, c, rfl⟩ := okWide_slice Tryd.underlying67 hv
  obtain ⟨fuel, hf⟩ := h
  rcases open_strings Tryd.underlying67 Tryd.underlying9 (by kernel_rfl) hf with ⟨hcs, _⟩ | ⟨x, n', c', ss, hcs, _, hl, hm, hz, _, hcell, hws⟩
  · simp [Value.cells] at hcs
    obtain ⟨rfl, rfl, rfl⟩ := hcs
    exact ⟨none, 0, 0, [], rfl, ⟨rfl, Nat.zero_le _, fun h => absurd h (by omega)⟩, fun s hs => by cases hs⟩
  · simp [Value.cells] at hcs
    obtain ⟨rfl, rfl, rfl⟩ := hcs
    simp at hz
    refine ⟨some x, n, c, (ss.take n).map fun s => s.data.toList, rfl, ⟨by simp [scells]; omega, Nat.le_trans hl hm, fun hn => ?_⟩, ?_⟩
    · have h0 := hcell 0 (by omega)
      obtain ⟨b, off, spot⟩ := x
      have hspot : spot = none := by simpa [Addr.add] using World.cell?_spot h0
      subst hspot
      refine ⟨b, off, rfl, ?_, fun j u hu => ?_⟩
      · have := World.block_lt_of_cell? W _ h0
        simpa [Addr.add] using this
      · have hj : j < n := by
          have := (List.getElem?_eq_some_iff.1 hu).1
          simp [scells] at this; omega
        have h1 := hcell j (by omega)
        have e1 : (⟨b, off, none⟩ : Addr).add j = ⟨b, off + j, none⟩ := by unfold Addr.add; split <;> simp_all
        rw [e1] at h1
        rw [h1]
        simp only [scells, List.getElem?_map, List.getElem?_take] at hu
        rw [if_pos hj, List.getElem?_eq_getElem (by omega : j < ss.length)] at hu
        simp at hu
        rw [← hu, getD_of_lt _ _ (by omega : j < ss.length)]
    · intro s hs
      obtain ⟨y, hy, rfl⟩ := List.mem_map.1 hs
      have := hws y (List.mem_of_mem_take hy)
      simpa using this
end
end Go.Proofs.YtcjfgbcdlcdeaaaDoor
