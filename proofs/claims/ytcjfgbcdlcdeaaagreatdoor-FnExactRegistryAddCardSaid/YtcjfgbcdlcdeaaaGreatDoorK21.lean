/- Texts joined: IEvolve, Reg3, RAdd. Conditions: as each theorem names them. -/
import Derived.Deep.CutRange
import Derived.Deep.DeepCutAuto
import Derived.Test.YtcjfgbcdlcdeaaaGreatDoorK02
import Derived.Test.YtcjfgbcdlcdeaaaGreatDoorK14
import Derived.Test.YtcjfgbcdlcdeaaaGreatDoorK15
import Derived.Test.YtcjfgbcdlcdeaaaGreatDoorK17
import Derived.Test.YtcjfgbcdlcdeaaaGreatDoorK18
import Derived.Test.YtcjfgbcdlcdeaaaGreatDoorK20
/- The program's EvolveReads and EvolveBoth. -/
namespace Go.Proofs.YtcjfgbcdlcdeaaaGreatDoor
open Go.RowKit
set_option maxRecDepth 100000
set_option linter.unusedVariables false
set_option linter.unusedSimpArgs false
attribute [local go_sem] ba_get ba_toList ba_extract take_drop_all ByteArray.mk_append_mk

theorem iAsk_any (w0 : World) (p1 p2 : Value) (xs ys : List PT) (hx : ISc w0 p1 xs) (hy : ISc w0 p2 ys) (hS : scOk (ptysOf xs)) (hT : scOk (ptysOf ys)) : ∀ (n : Nat) (a b : Kd) (m : List Pair) (w : World),
    kdOk a → kdOk b → refOk (ptysOf xs) a → refOk (ptysOf ys) b → Asks (ptysOf xs) (ptysOf ys) m → 64 < n + m.length → IAskSt w0 p1 p2 w m →
      Calls Tryz.prog 122 #[.pointer (some ⟨w0.heap.size + 1, 0, none⟩), kdV a, kdV b] w (IaPost w0 p1 p2 (evK (ptysOf xs) (ptysOf ys) n a b m) w) := by
  have h8 : (ptysOf xs).length * (ptysOf ys).length ≤ 64 := by
    have h1 := hS.1.2.1
    have h2 := hT.1.2.1
    exact Nat.le_trans (Nat.mul_le_mul h1 h2) (by decide)
  intro n
  induction n with
  | zero =>
    intro a b m w _ _ _ _ hm hn _
    have := hm.len
    omega
  | succ n ih =>
    intro a b m w ha hb hra hrb hm hn hst
    have hml : m.length ≤ 64 := Nat.le_trans hm.len h8
    exact iAsk_kinds w0 p1 p2 xs ys hx hy n a b m w ha hb hra hrb hst (fun x y W hxm hym hW => iAsk_types w0 p1 p2 xs ys hx hy hS hT n x y hxm hym ih m hm hn hml W hW)
theorem ISL.mono {lo lo' : Nat} {w : World} {p : Value} {xs : List PT} (h : ISL lo w p xs) (hle : lo' ≤ lo) : ISL lo' w p xs := by
  obtain ⟨b, A, c, mb, q0, q1, q2, q3, q4, q5, q6, q7, l1, l2, l3, l4⟩ := h
  exact ⟨b, A, c, mb, q0, q1, q2, q3, q4, q5, q6, q7, by omega, by omega, fun g o h1 h2 => by have := l3 g o h1 h2; omega, fun x hx => ⟨by have := (l4 x hx).1; omega, fun k h1 h2 => by have := (l4 x hx).2 k h1 h2; omega⟩⟩
/-- What both leaves, in one form. -/
theorem IbPost.form {o : Option (List Ty × Kd)} {w w' : World} {e : Ending} (h : IbPost o w e w') :
    ∃ (q : Option Addr) (a b c : ByteArray), e = .returned (.tuple #[.pointer q, .agg #[.string a, .string b, .string c], .bool o.isSome]) ∧ Below w.heap.size w w' ∧
      ∀ S k, o = some (S, k) → ∃ xs, ptysOf xs = S ∧ a = ⟨k.signs.toArray⟩ ∧ b = ⟨k.base.toArray⟩ ∧ c = ⟨k.name.toArray⟩ ∧ ISL w.heap.size w' (.pointer q) xs := by
  obtain ⟨h1, hb⟩ := h
  cases o with
  | none =>
    obtain ⟨p, a, b, c, e⟩ := h1
    exact ⟨p, a, b, c, e, hb, fun S k h => by cases h⟩
  | some x =>
    obtain ⟨S, k⟩ := x
    obtain ⟨p, xs, hx, e, hs⟩ := h1
    obtain ⟨pb, _, _, _, rfl, _⟩ := hs.isc
    exact ⟨_, _, _, _, e, hb, fun S' k' h => by cases h; exact ⟨xs, hx, rfl, rfl, rfl, hs⟩⟩
section
variable {P : Program}
/-- Results: a slot, two structs that lie in cells, a slot. -/
theorem results_tcct {fn : Func} {r p p2 q : Tmp} {ty : TypeId} (h : fn.results = #[.tmp r, .cell p ty, .cell p2 ty, .tmp q]) (tmps : Array Value) (w : World) (b b2 : Nat) (cs cs2 : List Value) (d : TypeDesc) (y x : Value)
    (hr : tmps.getD r undef = y) (hp : tmps.getD p undef = .pointer (some ⟨b, 0, none⟩)) (hp2 : tmps.getD p2 undef = .pointer (some ⟨b2, 0, none⟩)) (hq : tmps.getD q undef = x) (hc : w.rangeAt b 0 cs) (hc2 : w.rangeAt b2 0 cs2) (hu : P.underlying ty = some d) (hd : d.isRow = true) (hi : (P.info? ty).map (·.size) = some cs.length) (hi2 : (P.info? ty).map (·.size) = some cs2.length) :
    (results fn tmps).run P w = .ok (.tuple #[y, .agg cs.toArray, .agg cs2.toArray, x]) w := by
  have hp' : tmps[p]?.getD undef = .pointer (some ⟨b, 0, none⟩) := by simpa using hp
  have hp2' : tmps[p2]?.getD undef = .pointer (some ⟨b2, 0, none⟩) := by simpa using hp2
  have hq' : tmps[q]?.getD undef = x := by simpa using hq
  have hr' : tmps[r]?.getD undef = y := by simpa using hr
  simp [results, h, hp', hp2', hq', hr', asAddr, run_loadVar_mid w b 0 ty cs d hc hu hd hi, run_loadVar_mid w b2 0 ty cs2 d hc2 hu hd hi2]
end
theorem bset_both {B : Nat} {a b : World} (h : Below B a b) (p : Addr) (u : Value) : Below B (a.setCell p u) (b.setCell p u) :=
  ⟨h.os, h.tape, h.output, by simp [World.setCell]; exact h.size, fun k hk => by
    simp only [World.setCell, Array.getElem?_modify]
    rw [h.block k hk]⟩
theorem bsets_both {B : Nat} (k : Nat) : ∀ (vs : List Value) (o : Nat) {a b : World}, Below B a b → Below B (a.setCells k o vs) (b.setCells k o vs)
  | [], _, _, _, h => h
  | v :: r, o, a, b, h => bsets_both k r (o + 1) (bset_both h ⟨k, o, none⟩ v)
/-- The question while the results may be stored already: w0 is the world ahead of it, with what was stored. -/
structure EvSt (w : World) (p1 p2 : Value) (xs ys : List PT) (N B13 B16 : Nat) (ka kb : List Value) (w0 W : World) (mm : List Pair) : Prop where
  sz : w0.heap.size = N
  i1 : ISL (w.heap.size + 2) w0 p1 xs
  i2 : ISL (w.heap.size + 2) w0 p2 ys
  be : Below w.heap.size w w0
  t9' : w0.there w.heap.size 0 3
  t10' : w0.there (w.heap.size + 1) 0 3
  x13' : w0.rangeAt B13 0 ka
  x16' : w0.rangeAt B16 0 kb
  l13 : B13 < N
  l16 : B16 < N
  lw : w.heap.size + 2 ≤ N
  st : IAskSt w0 p1 p2 W mm
theorem EvSt.x13 {w : World} {p1 p2 : Value} {xs ys : List PT} {N B13 B16 : Nat} {ka kb : List Value} {w0 W : World} {mm : List Pair} (h : EvSt w p1 p2 xs ys N B13 B16 ka kb w0 W mm) : W.rangeAt B13 0 ka := rangeAt_below h.x13' (by have := h.l13; have := h.sz; omega) h.st.1
theorem EvSt.x16 {w : World} {p1 p2 : Value} {xs ys : List PT} {N B13 B16 : Nat} {ka kb : List Value} {w0 W : World} {mm : List Pair} (h : EvSt w p1 p2 xs ys N B13 B16 ka kb w0 W mm) : W.rangeAt B16 0 kb := rangeAt_below h.x16' (by have := h.l16; have := h.sz; omega) h.st.1
theorem EvSt.t9 {w : World} {p1 p2 : Value} {xs ys : List PT} {N B13 B16 : Nat} {ka kb : List Value} {w0 W : World} {mm : List Pair} (h : EvSt w p1 p2 xs ys N B13 B16 ka kb w0 W mm) : W.there w.heap.size 0 3 := there_below h.t9' (by have := h.lw; have := h.sz; omega) h.st.1
theorem EvSt.t10 {w : World} {p1 p2 : Value} {xs ys : List PT} {N B13 B16 : Nat} {ka kb : List Value} {w0 W : World} {mm : List Pair} (h : EvSt w p1 p2 xs ys N B13 B16 ka kb w0 W mm) : W.there (w.heap.size + 1) 0 3 := there_below h.t10' (by have := h.lw; have := h.sz; omega) h.st.1
theorem EvSt.drew {w : World} {p1 p2 : Value} {xs ys : List PT} {N B13 B16 : Nat} {ka kb : List Value} {w0 W : World} {mm : List Pair} (h : EvSt w p1 p2 xs ys N B13 B16 ka kb w0 W mm) : EvSt w p1 p2 xs ys N B13 B16 ka kb w0 W.drew mm :=
  { h with st := h.st.below (Below.refl _ _).drew }
theorem EvSt.store {w : World} {p1 p2 : Value} {xs ys : List PT} {N B13 B16 : Nat} {ka kb : List Value} {w0 W : World} {mm : List Pair} (h : EvSt w p1 p2 xs ys N B13 B16 ka kb w0 W mm) {b : Nat} (cs : List Value)
    (h1 : w.heap.size ≤ b) (h2 : b < w.heap.size + 2) (h3 : B13 ≠ b) (h4 : B16 ≠ b) : EvSt w p1 p2 xs ys N B13 B16 ka kb (w0.setCells b 0 cs) (W.setCells b 0 cs) mm := by
  have hlw := h.lw
  have hsz := h.sz
  refine ⟨by rw [setCells_size]; exact h.sz, h.i1.far (grown_setCells _ _ _ w0) h2, h.i2.far (grown_setCells _ _ _ w0) h2, below_setCells _ h1 _ _ _ h.be, World.there_setCells h.t9' _ _ _, World.there_setCells h.t10' _ _ _,
    World.rangeAt_setCells_apart h.x13' _ _ _ (.inl h3), World.rangeAt_setCells_apart h.x16' _ _ _ (.inl h4), h.l13, h.l16, h.lw, ?_⟩
  obtain ⟨s1, s2, s3, s4, s5, s6⟩ := h.st
  have hg := grown_setCells b cs 0 W
  have hc : ∀ j, (W.setCells b 0 cs).cell? ⟨w0.heap.size + 1, j, none⟩ = W.cell? ⟨w0.heap.size + 1, j, none⟩ := fun j => hg.cell_far ⟨w0.heap.size + 1, j, none⟩ (show w0.heap.size + 1 < _ by omega) (by simp; omega)
  unfold IAskSt
  rw [setCells_size, setCells_size]
  exact ⟨bsets_both b cs 0 s1, s2, (hc 0).trans s3, (hc 1).trans s4, (hc 2).trans s5, s6.kept hg (by simp; omega)⟩
/-- What evolve leaves. -/
def IePost (o1 o2 : Option (List Ty × Kd)) (w : World) (e : Ending) (w' : World) : Prop :=
  ∃ (q : Option Addr) (a1 b1 c1 a2 b2 c2 : ByteArray), e = .returned (.tuple #[.pointer q, .agg #[.string a1, .string b1, .string c1], .agg #[.string a2, .string b2, .string c2], .bool (evolveL o1 o2)]) ∧ Below w.heap.size w w' ∧
    (evolveL o1 o2 = true → ∃ (S T : List Ty) (a b : Kd) (xs ys : List PT) (eb : Nat) (p1 p2 : Option Addr), o1 = some (S, a) ∧ o2 = some (T, b) ∧ ptysOf xs = S ∧ ptysOf ys = T ∧ q = some ⟨eb, 0, none⟩ ∧ a1 = ⟨a.signs.toArray⟩ ∧ b1 = ⟨a.base.toArray⟩ ∧ c1 = ⟨a.name.toArray⟩ ∧ a2 = ⟨b.signs.toArray⟩ ∧ b2 = ⟨b.base.toArray⟩ ∧ c2 = ⟨b.name.toArray⟩ ∧
      w.heap.size ≤ eb ∧ eb < w'.heap.size ∧ w'.cell? ⟨eb, 0, none⟩ = some (.pointer p1) ∧ w'.cell? ⟨eb, 1, none⟩ = some (.pointer p2) ∧ ISL w.heap.size w' (.pointer p1) xs ∧ ISL w.heap.size w' (.pointer p2) ys)

set_option maxHeartbeats 4000000 in
theorem iEvolve_both (s1 d1 s2 d2 : List UInt8) (w : World) (h1 : s1.length ≤ 4000000) (h2 : d1.length ≤ 4000000) (h3 : s2.length ≤ 4000000) (h4 : d2.length ≤ 4000000) :
    Calls Tryz.prog 90 #[.string ⟨s1.toArray⟩, .string ⟨d1.toArray⟩, .string ⟨s2.toArray⟩, .string ⟨d2.toArray⟩] w (IePost (bothL s1 d1) (bothL s2 d2) w) := by
  have Hk1 := Lib.hid (fun W => iBoth_any s1 d1 W h1 h2)
  have Hk2 := Lib.hid (fun W => iBoth_any s2 d2 W h3 h4)
  have Hg1 := Lib.hid (fun S k (h : bothL s1 d1 = some (S, k)) => bothL_good h)
  have Hg2 := Lib.hid (fun S k (h : bothL s2 d2 = some (S, k)) => bothL_good h)
  generalize bothL s1 d1 = o1 at *
  generalize bothL s2 d2 = o2 at *
  have hmm := @run_makeMap Tryz.prog
  go_enter Tryz.func90, Tryz.ntmps90
  go_wp2_with fail
  refine (Hk1.out _).mono ?_
  rintro e w1 hp1
  obtain ⟨q1, a1, b1, c1, rfl, hb1, hs1⟩ := hp1.form
  have HT9 := Lib.hid (show w1.there w.heap.size 0 3 from there_below (World.there_alloc (there_new w [.string ⟨#[]⟩, .string ⟨#[]⟩, .string ⟨#[]⟩] 83) _) (by simp; omega) hb1)
  have HT10 := Lib.hid (show w1.there (w.heap.size + 1) 0 3 from there_below (by have := there_new (w.alloc (.cells ([.string ⟨#[]⟩, .string ⟨#[]⟩, .string ⟨#[]⟩] : List Value).toArray 83)) [.string ⟨#[]⟩, .string ⟨#[]⟩, .string ⟨#[]⟩] 83; simpa using this) (by simp) hb1)
  have Hb1 := Lib.hid (show Below w.heap.size w w1 from (((Below.refl _ _).alloc (Nat.le_refl _) _).alloc (by simp) _).trans (hb1.mono (by simp; omega)))
  have hz1 : w.heap.size + 1 < w1.heap.size := by have := hb1.size; simp at this; omega
  have Hs1 := Lib.hid hs1
  clear hp1 hb1 hs1
  go_wp2_with fail
  refine (Hk2.out _).mono ?_
  rintro e w3 hp2
  obtain ⟨q2, a2, b2, c2, rfl, hb3, hs2⟩ := hp2.form
  have HB3 := Lib.hid (show Below w1.heap.size w1 w3 from ((Below.refl _ _).alloc (Nat.le_refl _) _).trans (hb3.mono (by simp)))
  have X13 := Lib.hid (show w3.rangeAt w1.heap.size 0 [.string a1, .string b1, .string c1] from rangeAt_below (rangeAt_new w1 [.string a1, .string b1, .string c1] 83) (by simp) hb3)
  have hz3 : w1.heap.size < w3.heap.size := by have := hb3.size; simp at this; omega
  have Hs2 := Lib.hid hs2
  have Hb3 := Lib.hid (Hb1.out.trans (HB3.out.mono (by omega)))
  have HT9' := Lib.hid (there_below HT9.out (show w.heap.size < w1.heap.size by omega) HB3.out)
  have HT10' := Lib.hid (there_below HT10.out hz1 HB3.out)
  clear hp2 hb3 hs2 HT9 HT10
  have HT9 := Lib.hid (show (w3.alloc (.cells #[.string a2, .string b2, .string c2] 83)).there w.heap.size 0 3 from World.there_alloc HT9'.out _)
  have HT10 := Lib.hid (show (w3.alloc (.cells #[.string a2, .string b2, .string c2] 83)).there (w.heap.size + 1) 0 3 from World.there_alloc HT10'.out _)
  have Hb4 := Lib.hid (show Below w.heap.size w (w3.alloc (.cells #[.string a2, .string b2, .string c2] 83)) from Hb3.out.alloc (by omega) _)
  cases o1 with
  | none =>
    cases o2 with
    | none =>
      have Hev : Hid (evolveL none none = false) := rfl
      dsimp only [Option.isSome]
      go_wp2_with (first | ((with_reducible refine wpList_store_hid (op := ⟨none, .store 83 _ _, _, _, _, none⟩) rfl 83 _ _ rfl w.heap.size 0 [.string ⟨#[]⟩, .string ⟨#[]⟩, .string ⟨#[]⟩] ?_ ?_ ?_ ?_ ?_ ?_); rfl; rfl; (exact HT9.out); kernel_rfl; (simp [Value.oneCell']); intro w9 HS9; have HT10b := Lib.hid (show w9.there (w.heap.size + 1) 0 3 from by rw [HS9.out]; exact World.there_setCells HT10.out _ _ _)) | ((with_reducible refine wpList_store_hid (op := ⟨none, .store 83 _ _, _, _, _, none⟩) rfl 83 _ _ rfl (w.heap.size + 1) 0 [.string ⟨#[]⟩, .string ⟨#[]⟩, .string ⟨#[]⟩] ?_ ?_ ?_ ?_ ?_ ?_); rfl; rfl; (exact HT10b.out); kernel_rfl; (simp [Value.oneCell']); intro w10 HS10))
      have HZ1 := Lib.hid (show w10.rangeAt w.heap.size 0 [.string ⟨#[]⟩, .string ⟨#[]⟩, .string ⟨#[]⟩] from by rw [HS10.out]; exact World.rangeAt_setCells_apart (show w9.rangeAt w.heap.size 0 [.string ⟨#[]⟩, .string ⟨#[]⟩, .string ⟨#[]⟩] from by rw [HS9.out]; exact World.rangeAt_setCells_same _ _ _ _ HT9.out) _ _ _ (.inl (show w.heap.size ≠ w.heap.size + 1 by omega)))
      have HZ2 := Lib.hid (show w10.rangeAt (w.heap.size + 1) 0 [.string ⟨#[]⟩, .string ⟨#[]⟩, .string ⟨#[]⟩] from by rw [HS10.out]; exact World.rangeAt_setCells_same _ _ _ _ HT10b.out)
      have Hb9 := Lib.hid (show Below w.heap.size w w10 from by rw [HS10.out]; refine below_setCells _ (by omega) _ _ _ ?_; rw [HS9.out]; exact below_setCells _ (Nat.le_refl _) _ _ _ Hb4.out)
      refine bodyPost_ret (v := .tuple #[.pointer none, .agg ([.string ⟨#[]⟩, .string ⟨#[]⟩, .string ⟨#[]⟩] : List Value).toArray, .agg ([.string ⟨#[]⟩, .string ⟨#[]⟩, .string ⟨#[]⟩] : List Value).toArray, .bool false]) ?_ rfl ?_
      · exact results_tcct Tryz.results90 _ _ w.heap.size (w.heap.size + 1) [.string ⟨#[]⟩, .string ⟨#[]⟩, .string ⟨#[]⟩] [.string ⟨#[]⟩, .string ⟨#[]⟩, .string ⟨#[]⟩] _ _ _ rfl rfl rfl rfl HZ1.out HZ2.out Tryz.underlying83 rfl (by kernel_rfl) (by kernel_rfl)
      · exact ⟨none, _, _, _, _, _, _, by rw [Hev.out], Hb9.out, fun h => by rw [Hev.out] at h; cases h⟩
    | some y =>
      have Hev : Hid (evolveL none (some y) = false) := rfl
      dsimp only [Option.isSome]
      go_wp2_with (first | ((with_reducible refine wpList_store_hid (op := ⟨none, .store 83 _ _, _, _, _, none⟩) rfl 83 _ _ rfl w.heap.size 0 [.string ⟨#[]⟩, .string ⟨#[]⟩, .string ⟨#[]⟩] ?_ ?_ ?_ ?_ ?_ ?_); rfl; rfl; (exact HT9.out); kernel_rfl; (simp [Value.oneCell']); intro w9 HS9; have HT10b := Lib.hid (show w9.there (w.heap.size + 1) 0 3 from by rw [HS9.out]; exact World.there_setCells HT10.out _ _ _)) | ((with_reducible refine wpList_store_hid (op := ⟨none, .store 83 _ _, _, _, _, none⟩) rfl 83 _ _ rfl (w.heap.size + 1) 0 [.string ⟨#[]⟩, .string ⟨#[]⟩, .string ⟨#[]⟩] ?_ ?_ ?_ ?_ ?_ ?_); rfl; rfl; (exact HT10b.out); kernel_rfl; (simp [Value.oneCell']); intro w10 HS10))
      have HZ1 := Lib.hid (show w10.rangeAt w.heap.size 0 [.string ⟨#[]⟩, .string ⟨#[]⟩, .string ⟨#[]⟩] from by rw [HS10.out]; exact World.rangeAt_setCells_apart (show w9.rangeAt w.heap.size 0 [.string ⟨#[]⟩, .string ⟨#[]⟩, .string ⟨#[]⟩] from by rw [HS9.out]; exact World.rangeAt_setCells_same _ _ _ _ HT9.out) _ _ _ (.inl (show w.heap.size ≠ w.heap.size + 1 by omega)))
      have HZ2 := Lib.hid (show w10.rangeAt (w.heap.size + 1) 0 [.string ⟨#[]⟩, .string ⟨#[]⟩, .string ⟨#[]⟩] from by rw [HS10.out]; exact World.rangeAt_setCells_same _ _ _ _ HT10b.out)
      have Hb9 := Lib.hid (show Below w.heap.size w w10 from by rw [HS10.out]; refine below_setCells _ (by omega) _ _ _ ?_; rw [HS9.out]; exact below_setCells _ (Nat.le_refl _) _ _ _ Hb4.out)
      refine bodyPost_ret (v := .tuple #[.pointer none, .agg ([.string ⟨#[]⟩, .string ⟨#[]⟩, .string ⟨#[]⟩] : List Value).toArray, .agg ([.string ⟨#[]⟩, .string ⟨#[]⟩, .string ⟨#[]⟩] : List Value).toArray, .bool false]) ?_ rfl ?_
      · exact results_tcct Tryz.results90 _ _ w.heap.size (w.heap.size + 1) [.string ⟨#[]⟩, .string ⟨#[]⟩, .string ⟨#[]⟩] [.string ⟨#[]⟩, .string ⟨#[]⟩, .string ⟨#[]⟩] _ _ _ rfl rfl rfl rfl HZ1.out HZ2.out Tryz.underlying83 rfl (by kernel_rfl) (by kernel_rfl)
      · exact ⟨none, _, _, _, _, _, _, by rw [Hev.out], Hb9.out, fun h => by rw [Hev.out] at h; cases h⟩
  | some x =>
    obtain ⟨S, k⟩ := x
    cases o2 with
    | none =>
      have Hev : Hid (evolveL (some (S, k)) none = false) := rfl
      dsimp only [Option.isSome]
      go_wp2_with (first | ((with_reducible refine wpList_store_hid (op := ⟨none, .store 83 _ _, _, _, _, none⟩) rfl 83 _ _ rfl w.heap.size 0 [.string ⟨#[]⟩, .string ⟨#[]⟩, .string ⟨#[]⟩] ?_ ?_ ?_ ?_ ?_ ?_); rfl; rfl; (exact HT9.out); kernel_rfl; (simp [Value.oneCell']); intro w9 HS9; have HT10b := Lib.hid (show w9.there (w.heap.size + 1) 0 3 from by rw [HS9.out]; exact World.there_setCells HT10.out _ _ _)) | ((with_reducible refine wpList_store_hid (op := ⟨none, .store 83 _ _, _, _, _, none⟩) rfl 83 _ _ rfl (w.heap.size + 1) 0 [.string ⟨#[]⟩, .string ⟨#[]⟩, .string ⟨#[]⟩] ?_ ?_ ?_ ?_ ?_ ?_); rfl; rfl; (exact HT10b.out); kernel_rfl; (simp [Value.oneCell']); intro w10 HS10))
      have HZ1 := Lib.hid (show w10.rangeAt w.heap.size 0 [.string ⟨#[]⟩, .string ⟨#[]⟩, .string ⟨#[]⟩] from by rw [HS10.out]; exact World.rangeAt_setCells_apart (show w9.rangeAt w.heap.size 0 [.string ⟨#[]⟩, .string ⟨#[]⟩, .string ⟨#[]⟩] from by rw [HS9.out]; exact World.rangeAt_setCells_same _ _ _ _ HT9.out) _ _ _ (.inl (show w.heap.size ≠ w.heap.size + 1 by omega)))
      have HZ2 := Lib.hid (show w10.rangeAt (w.heap.size + 1) 0 [.string ⟨#[]⟩, .string ⟨#[]⟩, .string ⟨#[]⟩] from by rw [HS10.out]; exact World.rangeAt_setCells_same _ _ _ _ HT10b.out)
      have Hb9 := Lib.hid (show Below w.heap.size w w10 from by rw [HS10.out]; refine below_setCells _ (by omega) _ _ _ ?_; rw [HS9.out]; exact below_setCells _ (Nat.le_refl _) _ _ _ Hb4.out)
      refine bodyPost_ret (v := .tuple #[.pointer none, .agg ([.string ⟨#[]⟩, .string ⟨#[]⟩, .string ⟨#[]⟩] : List Value).toArray, .agg ([.string ⟨#[]⟩, .string ⟨#[]⟩, .string ⟨#[]⟩] : List Value).toArray, .bool false]) ?_ rfl ?_
      · exact results_tcct Tryz.results90 _ _ w.heap.size (w.heap.size + 1) [.string ⟨#[]⟩, .string ⟨#[]⟩, .string ⟨#[]⟩] [.string ⟨#[]⟩, .string ⟨#[]⟩, .string ⟨#[]⟩] _ _ _ rfl rfl rfl rfl HZ1.out HZ2.out Tryz.underlying83 rfl (by kernel_rfl) (by kernel_rfl)
      · exact ⟨none, _, _, _, _, _, _, by rw [Hev.out], Hb9.out, fun h => by rw [Hev.out] at h; cases h⟩
    | some y =>
      obtain ⟨T, l⟩ := y
      dsimp only [Option.isSome]
      obtain ⟨xs, hxs, e1, e2, e3, hi1⟩ := Hs1.out _ _ rfl
      obtain ⟨ys, hys, e4, e5, e6, hi2⟩ := Hs2.out _ _ rfl
      have hl1 : ISL (w.heap.size + 2) w1 (.pointer q1) xs := hi1.mono (by simp)
      have hl3 : ISL (w.heap.size + 2) w3 (.pointer q1) xs := hl1.below HB3.out
      have hl3' : ISL (w.heap.size + 2) w3 (.pointer q2) ys := hi2.mono (by simp; omega)
      have Hi1' := Lib.hid hl3
      have Hi2' := Lib.hid hl3'
      have E1 := Lib.hid e1
      have E2 := Lib.hid e2
      have E3 := Lib.hid e3
      have E4 := Lib.hid e4
      have E5 := Lib.hid e5
      have E6 := Lib.hid e6
      obtain ⟨hS, _, _, hk1, _, hr1⟩ := Hg1.out _ _ rfl
      obtain ⟨hT, _, _, hk2, _, hr2⟩ := Hg2.out _ _ rfl
      subst hxs hys
      clear e1 e2 e3 e4 e5 e6
      go_wp2_with fail
      obtain ⟨w4, hw4⟩ : ∃ w4, w4 = w3.alloc (.cells #[.string a2, .string b2, .string c2] 83) := ⟨_, rfl⟩
      rw [← hw4] at HT9 HT10 Hb4 ⊢
      have hz4 : w4.heap.size = w3.heap.size + 1 := by rw [hw4]; simp
      have hb34 : Below w3.heap.size w3 w4 := by rw [hw4]; exact (Below.refl _ _).alloc (Nat.le_refl _) _
      have Hi1 := Lib.hid (Hi1'.out.below hb34)
      have Hi2 := Lib.hid (Hi2'.out.below hb34)
      have X13' := Lib.hid (rangeAt_below X13.out hz3 hb34)
      have X16 := Lib.hid (show w4.rangeAt w3.heap.size 0 [.string a2, .string b2, .string c2] from by rw [hw4]; exact rangeAt_new w3 [.string a2, .string b2, .string c2] 83)
      have Hcall := Lib.hid (fun (w0' W : World) (hN : w0'.heap.size = w4.heap.size) (h1 : ISL (w.heap.size + 2) w0' (.pointer q1) xs) (h2 : ISL (w.heap.size + 2) w0' (.pointer q2) ys) (h : IAskSt w0' (.pointer q1) (.pointer q2) W []) => show Calls Tryz.prog 122 #[.pointer (some ⟨w4.heap.size + 1, 0, none⟩), kdV k, kdV l] W (IaPost w0' (.pointer q1) (.pointer q2) (evK (ptysOf xs) (ptysOf ys) 65 k l []) W) from hN ▸ iAsk_any w0' _ _ xs ys h1.isc h2.isc hS hT 65 k l [] W hk1 hk2 hr1 hr2 (Asks.nil _ _) (by simp) h)
      unfold kdV at Hcall
      rw [← E1.out, ← E2.out, ← E3.out, ← E4.out, ← E5.out, ← E6.out] at Hcall
      have Hev : Hid (evolveL (some (ptysOf xs, k)) (some (ptysOf ys, l)) = (evK (ptysOf xs) (ptysOf ys) 65 k l []).1) := rfl
      generalize evK (ptysOf xs) (ptysOf ys) 65 k l [] = r at *
      obtain ⟨r1, r2⟩ := r
      clear hw4 hb34 hi1 hi2 hl1 hl3 hl3' hS hT hk1 hk2 hr1 hr2
      have hmb : (w4.alloc (.map #[] 0)).heap.size = w4.heap.size + 1 := by simp
      obtain ⟨w6, hw6⟩ : ∃ w6, w6 = (w4.alloc (.map #[] 0)).alloc (.cells #[.pointer q1, .pointer q2, .map (some (w3.heap.size + 1))] 149) := ⟨_, rfl⟩
      rw [← hw6]
      have hz6 : w6.heap.size = w4.heap.size + 2 := by rw [hw6]; simp
      have hb46 : Below w4.heap.size w4 w6 := by rw [hw6]; exact ((Below.refl _ _).alloc (Nat.le_refl _) _).alloc (by simp) _
      have Hst6 := Lib.hid (show IAskSt w4 (.pointer q1) (.pointer q2) w6 [] from by
        refine ⟨hb46, by omega, by rw [hw6, ← hmb]; simp, by rw [hw6, ← hmb]; simp, by rw [hw6, ← hmb]; simp; omega, ?_⟩
        rw [hw6]
        exact ((FMap.made w4 Tryz.prog 242 (.bool false)).alloc _).of_eq (fun l hl => by simp [askedF]))
      have HE := Lib.hid (show EvSt w (.pointer q1) (.pointer q2) xs ys w4.heap.size w1.heap.size w3.heap.size [.string a1, .string b1, .string c1] [.string a2, .string b2, .string c2] w4 w6 [] from ⟨rfl, Hi1.out, Hi2.out, Hb4.out, HT9.out, HT10.out, X13'.out, X16.out, by omega, by omega, by omega, Hst6.out⟩)
      have g13 : w.heap.size + 2 ≤ w1.heap.size := by omega
      have g16 : w.heap.size + 2 ≤ w3.heap.size := by omega
      have hz43 : w3.heap.size + 1 + 1 = w4.heap.size + 1 := by omega
      rw [hz43]
      generalize w1.heap.size = B13 at *
      generalize w3.heap.size = B16 at *
      clear hw6 hb46 hmb
      refine wp_region_slots3 [46, 47, 48, 49, 50, 51, 52, 8, 999, 998, 11] (by kernel_rfl) (by kernel_rfl) (by kernel_rfl) (fun u => by dsimp only [frameOf, setMany, List.set, Nat.zero_add, Nat.reduceAdd])
        (fun i v W => match i with | 0 => v = .pointer (some ⟨w4.heap.size + 1, 0, none⟩) | 1 => v = .agg ([.string a1, .string b1, .string c1] : List Value).toArray | 2 => v = .agg ([.string a2, .string b2, .string c2] : List Value).toArray | 3 => v = .pointer (some ⟨w4.heap.size + 1, 0, none⟩) | 4 => v = .agg ([.string a1, .string b1, .string c1] : List Value).toArray | 5 => v = .agg ([.string a2, .string b2, .string c2] : List Value).toArray | 6 => v = .bool r1 | 7 => v = .pointer (some ⟨w4.heap.size + 1, 0, none⟩) | 10 => v = .bool r1 | _ => True)
        (fun L U W => ∃ w0' mm, EvSt w (.pointer q1) (.pointer q2) xs ys w4.heap.size B13 B16 [.string a1, .string b1, .string c1] [.string a2, .string b2, .string c2] w0' W mm ∧ (L 6 = false → mm = []) ∧ (L 8 = true → w0'.rangeAt w.heap.size 0 [.string a1, .string b1, .string c1]) ∧ (L 9 = true → w0'.rangeAt (w.heap.size + 1) 0 [.string a2, .string b2, .string c2])) (fun _ _ => True) (fun _ _ _ _ _ h => h) (⟨w4, [], HE.out.drew, fun _ => rfl, fun h => Bool.noConfusion h, fun h => Bool.noConfusion h⟩) ?_ ?_
      · repeat (first | exact Steps.nil | (refine Steps.cons ?_ ?_; rotate_left))
        all_goals
          rintro L U W hL hpre hR hun hdep K hK
          have HR := Lib.hid hR
          obtain ⟨w0', mm, hE, hm0, R8, R9⟩ := HR.out
          have x13 := hE.x13
          have x16 := hE.x16
          have a0 : W.cell? ⟨B13, 0, none⟩ = some (.string a1) := by simpa using rangeAt_cell x13 0 rfl
          have a1' : W.cell? ⟨B13, 1, none⟩ = some (.string b1) := by simpa using rangeAt_cell x13 1 rfl
          have a2' : W.cell? ⟨B13, 2, none⟩ = some (.string c1) := by simpa using rangeAt_cell x13 2 rfl
          have b0 : W.cell? ⟨B16, 0, none⟩ = some (.string a2) := by simpa using rangeAt_cell x16 0 rfl
          have b1' : W.cell? ⟨B16, 1, none⟩ = some (.string b2) := by simpa using rangeAt_cell x16 1 rfl
          have b2' : W.cell? ⟨B16, 2, none⟩ = some (.string c2) := by simpa using rangeAt_cell x16 2 rfl
          clear x13 x16
          clear hun hdep hR
          first | (simp [Region.binds] at hpre; done) | simp [Region.binds] at hpre | clear hpre
        iterate 6
          · go_simp
            first | exact hK _ _ _ rfl trivial HR.out rfl | exact hK _ _ _ rfl trivial HR.out (by simp [Act.put, hpre]) | exact hK undef _ _ trivial trivial HR.out (by simp [Act.put, hpre]) | exact hK _ _ _ trivial trivial HR.out rfl | exact hK _ _ _ trivial trivial HR.out (by simp [Act.put, hpre])
        · obtain rfl := hm0 hL
          go_simp
          refine (Hcall.out w0' W hE.sz hE.i1 hE.i2 hE.st).mono ?_
          rintro e w5 ⟨rfl, ha5, hk5⟩
          exact hK _ _ _ rfl trivial ⟨w0', _, { hE with st := ha5 }, fun h => by simp at h, R8, R9⟩ (by simp [Act.put, hpre])
        · go_simp
          first | exact hK _ _ _ rfl trivial HR.out rfl | exact hK _ _ _ rfl trivial HR.out (by simp [Act.put, hpre]) | exact hK undef _ _ trivial trivial HR.out (by simp [Act.put, hpre]) | exact hK _ _ _ trivial trivial HR.out rfl | exact hK _ _ _ trivial trivial HR.out (by simp [Act.put, hpre])
        · rw [if_pos (by rfl)]
          refine wp_store_mid 83 _ _ rfl w.heap.size 0 ([.string a1, .string b1, .string c1] : List Value).toArray rfl (by first | exact hpre.1.2 | exact hpre.2.1.2 | exact hpre.2 | exact hpre.1) hE.t9 (by kernel_rfl) (by simp [Value.oneCell']) ?_
          exact hK undef _ _ trivial trivial ⟨_, mm, hE.store (b := w.heap.size) [.string a1, .string b1, .string c1] (by omega) (by omega) (by omega) (by omega), hm0, fun _ => World.rangeAt_setCells_same _ _ _ _ hE.t9', fun h => World.rangeAt_setCells_apart (R9 h) _ _ _ (.inl (show w.heap.size + 1 ≠ w.heap.size by omega))⟩ rfl
        · rw [if_pos (by rfl)]
          refine wp_store_mid 83 _ _ rfl (w.heap.size + 1) 0 ([.string a2, .string b2, .string c2] : List Value).toArray rfl (by first | exact hpre.1.2 | exact hpre.2.1.2 | exact hpre.2 | exact hpre.1) hE.t10 (by kernel_rfl) (by simp [Value.oneCell']) ?_
          exact hK undef _ _ trivial trivial ⟨_, mm, hE.store (b := (w.heap.size + 1)) [.string a2, .string b2, .string c2] (by omega) (by omega) (by omega) (by omega), hm0, fun h => World.rangeAt_setCells_apart (R8 h) _ _ _ (.inl (show w.heap.size ≠ w.heap.size + 1 by omega)), fun _ => World.rangeAt_setCells_same _ _ _ _ hE.t10'⟩ rfl
        · go_simp
          first | exact hK _ _ _ rfl trivial HR.out rfl | exact hK _ _ _ rfl trivial HR.out (by simp [Act.put, hpre]) | exact hK undef _ _ trivial trivial HR.out (by simp [Act.put, hpre]) | exact hK _ _ _ trivial trivial HR.out rfl | exact hK _ _ _ trivial trivial HR.out (by simp [Act.put, hpre])
      · rintro L U W hL hφ hR
        have e7 : U 7 = .pointer (some ⟨w4.heap.size + 1, 0, none⟩) := hφ 7 (by decide)
        have e10 : U 10 = .bool r1 := hφ 10 (by decide)
        simp only [e7, e10]
        clear hφ
        obtain ⟨w0', mm, hE, _, h8, h9⟩ := hR
        have Z1 := Lib.hid (rangeAt_below (h8 (hL 8 (by decide))) (show w.heap.size < w0'.heap.size by have := hE.sz; have := hE.lw; omega) hE.st.1)
        have Z2 := Lib.hid (rangeAt_below (h9 (hL 9 (by decide))) (show w.heap.size + 1 < w0'.heap.size by have := hE.sz; have := hE.lw; omega) hE.st.1)
        have HEv := Lib.hid hE
        clear hL hE h8 h9
        go_wp2_with fail
        refine bodyPost_ret (v := .tuple #[.pointer (some ⟨w4.heap.size + 1, 0, none⟩), .agg ([.string a1, .string b1, .string c1] : List Value).toArray, .agg ([.string a2, .string b2, .string c2] : List Value).toArray, .bool r1]) ?_ rfl ?_
        · exact results_tcct Tryz.results90 _ _ w.heap.size (w.heap.size + 1) [.string a1, .string b1, .string c1] [.string a2, .string b2, .string c2] _ _ _ rfl rfl rfl rfl Z1.out Z2.out Tryz.underlying83 rfl (by kernel_rfl) (by kernel_rfl)
        · have hE := HEv.out
          have hs := hE.sz
          obtain ⟨s1, s2, s3, s4, s5, s6⟩ := hE.st
          rw [hs] at s2 s3 s4
          exact ⟨_, _, _, _, _, _, _, by rw [Hev.out], hE.be.trans (s1.mono hE.be.size), fun _ => ⟨_, _, k, l, xs, ys, w4.heap.size + 1, q1, q2, rfl, rfl, rfl, rfl, rfl, E1.out, E2.out, E3.out, E4.out, E5.out, E6.out, by have := hE.lw; omega, by omega, s3, s4, (hE.i1.below s1).mono (by omega), (hE.i2.below s1).mono (by omega)⟩⟩
theorem IePost.kinds {o1 o2 : Option (List Ty × Kd)} {w w' : World} {e : Ending} (h : IePost o1 o2 w e w') : ∃ (q : Option Addr) (a1 b1 c1 a2 b2 c2 : ByteArray), e = .returned (.tuple #[.pointer q, .agg #[.string a1, .string b1, .string c1], .agg #[.string a2, .string b2, .string c2], .bool (evolveL o1 o2)]) ∧ Below w.heap.size w w' := by
  obtain ⟨q, a1, b1, c1, a2, b2, c2, h1, h2, _⟩ := h
  exact ⟨q, a1, b1, c1, a2, b2, c2, h1, h2⟩

set_option maxHeartbeats 1000000 in
theorem iEvolve_any (s1 d1 s2 d2 : List UInt8) (w : World) (h1 : s1.length ≤ 4000000) (h2 : d1.length ≤ 4000000) (h3 : s2.length ≤ 4000000) (h4 : d2.length ≤ 4000000) :
    Calls Tryz.prog 57 #[.string ⟨s1.toArray⟩, .string ⟨d1.toArray⟩, .string ⟨s2.toArray⟩, .string ⟨d2.toArray⟩] w fun e w' => e = .returned (.bool (evolveL (bothL s1 d1) (bothL s2 d2))) ∧ Below w.heap.size w w' := by
  have Hr := Lib.hid (fun W => iEvolve_both s1 d1 s2 d2 W h1 h2 h3 h4)
  generalize bothL s1 d1 = o1 at *
  generalize bothL s2 d2 = o2 at *
  go_enter Tryz.func57, Tryz.ntmps57
  go_wp2_with fail
  refine (Hr.out _).mono ?_
  rintro e w1 hp
  obtain ⟨q, a1, b1, c1, a2, b2, c2, rfl, hb1⟩ := hp.kinds
  have Hb1 := Lib.hid hb1
  clear hb1 hp
  go_wp2_with fail
  go_ret
  exact ⟨rfl, (Hb1.out.alloc Hb1.out.size _).alloc (by simp; have := Hb1.out.size; omega) _⟩
end Go.Proofs.YtcjfgbcdlcdeaaaGreatDoor
/- The program's RegistryOk, and the law on it. -/
namespace Go.Proofs.YtcjfgbcdlcdeaaaGreatDoor
open Go.RowKit
set_option maxRecDepth 100000
set_option linter.unusedVariables false
set_option linter.unusedSimpArgs false
attribute [local go_sem] ba_get ba_toList ba_extract take_drop_all ByteArray.mk_append_mk

set_option maxHeartbeats 4000000 in
theorem iRegOk_any (v : Value) (vs : List Ver) (w : World) (h : VRow w v vs) (hn : vs.length ≤ 1048577) (hl : ∀ x ∈ vs, x.1.length ≤ 4000000 ∧ x.2.length ≤ 4000000) :
    Calls Tryz.prog 24 #[.agg #[v]] w fun e w' => e = .returned (.bool (regOk vs)) ∧ Below w.heap.size w w' := by
  obtain ⟨A, c, rfl, hcap, hvm, hr⟩ := h
  have Hr := Lib.hid hr
  have Hl := Lib.hid hl
  clear hr hl
  go_enter Tryz.func24, Tryz.ntmps24
  by_cases h5 : vs.length ≤ 5
  · have h5i : (vs.length : Int) ≤ 5 := by omega
    have h5j : ¬ (5 : Int) < (vs.length : Int) := by omega
    have H5 := Lib.hid h5
    go_wp2_with fail
    go_loopw [17] (fun q wr => ∃ k : Nat, q = .int .i64 k ∧ k ≤ vs.length ∧ Hid (∀ i', i' < k → ∀ k', k' ≤ i' → rdV (verAt vs i') (verAt vs k') = true) ∧ Hid (Below w.heap.size w wr) ∧ w.heap.size < wr.heap.size ∧ wr.cell? ⟨w.heap.size, 0, none⟩ = some (.slice A vs.length c)) (fun q _ => vs.length - (intOf q).toNat)
    case atStart => exact ⟨0, rfl, Nat.zero_le _, fun i' hi' => by omega, (Below.refl _ _).alloc (Nat.le_refl _) _, by simp, by simp⟩
    case round =>
      obtain ⟨i, rfl, hi, hin, hb, hsz, hc0⟩ := hrel
      have i1 : (0 : Int) ≤ (i : Int) := by omega
      by_cases hlt : i < vs.length
      · have i2 : (i : Int) < (vs.length : Int) := by omega
        obtain ⟨b1, o1, rfl, hbl1, x0, x1⟩ := VRow.at_ (Hr.out.below hb.out) hlt
        have hxl := Hl.out _ (List.getElem_mem hlt)
        have Hxv := Lib.hid (show verAt vs i = vs[i] from verAt_lt hlt)
        generalize vs[i] = x at x0 x1 hxl Hxv
        have Hbo := Lib.hid (fun W => iBoth_any x.1 x.2 W hxl.1 hxl.2)
        have Hev := Lib.hid (fun (y : Ver) (hy : y ∈ vs) W => iEvolve_any x.1 x.2 y.1 y.2 W hxl.1 hxl.2 (Hl.out y hy).1 (Hl.out y hy).2)
        have Hsz := Lib.hid hsz
        have Hc0 := Lib.hid hc0
        clear hxl hc0
        have hc0 := Hc0.out
        go_wp2_with fail
        refine (Hbo.out _).mono ?_
        rintro e w3 hp
        obtain ⟨qq, a1, b2, c2, rfl, hb3, _⟩ := hp.form
        have hwz : wr.heap.size < w3.heap.size := by have := hb3.size; simp at this; omega
        have y0 : w3.cell? ⟨wr.heap.size, 0, none⟩ = some (.string ⟨x.1.toArray⟩) := (hb3.cell (p := ⟨wr.heap.size, 0, none⟩) (by simp)).trans (by simp)
        have y1 : w3.cell? ⟨wr.heap.size, 1, none⟩ = some (.string ⟨x.2.toArray⟩) := (hb3.cell (p := ⟨wr.heap.size, 1, none⟩) (by simp)).trans (by simp)
        have Hb3 := Lib.hid (show Below wr.heap.size wr w3 from ((Below.refl _ _).alloc (Nat.le_refl _) _).trans (hb3.mono (by simp)))
        have Y0 := Lib.hid y0
        have Y1 := Lib.hid y1
        have C0 := Lib.hid ((Hb3.out.cell (p := ⟨w.heap.size, 0, none⟩) Hsz.out).trans Hc0.out)
        have Hbw := Lib.hid (hb.out.trans (Hb3.out.mono hb.out.size))
        have Hself := Lib.hid (fun (hs : (bothL x.1 x.2).isSome = true) => rdV_self (v := x) hs)
        have Hnone := Lib.hid (fun (hs : (bothL x.1 x.2).isSome = false) => rdV_no (v := x) (verAt vs i) hs)
        generalize (bothL x.1 x.2).isSome = ok at *
        clear hp hb3 x0 x1 y0 y1 hc0
        cases ok with
        | false =>
          have Hno := Lib.hid (regOk_no hlt (Nat.le_refl _) (by rw [Hxv.out] at *; exact Hnone.out rfl))
          go_wp2_with fail
          go_ret
          exact ⟨by rw [Hno.out]; rfl, Hbw.out.alloc Hbw.out.size _⟩
        | true =>
          have Hs := Lib.hid (Hself.out rfl)
          have c0' := C0.out
          have hzo : w.heap.size < w3.heap.size := by omega
          have hicap : (i : Int) ≤ (c : Int) := by omega
          go_wp2_with fail
          obtain ⟨W5, hW5⟩ : ∃ W5, W5 = w3.alloc (.cells #[.string a1, .string b2, .string c2] 83) := ⟨_, rfl⟩
          rw [← hW5]
          have hb5 : Below w3.heap.size w3 W5 := by rw [hW5]; exact (Below.refl _ _).alloc (Nat.le_refl _) _
          have hz5 : w3.heap.size < W5.heap.size := by rw [hW5]; simp
          have Hbw5 := Lib.hid (Hbw.out.trans (hb5.mono Hbw.out.size))
          have Z0 := Lib.hid ((hb5.cell (p := ⟨wr.heap.size, 0, none⟩) hwz).trans Y0.out)
          have Z1 := Lib.hid ((hb5.cell (p := ⟨wr.heap.size, 1, none⟩) hwz).trans Y1.out)
          have D0 := Lib.hid ((hb5.cell (p := ⟨w.heap.size, 0, none⟩) hzo).trans C0.out)
          obtain ⟨wo, hwo⟩ : ∃ wo : Nat, wo = wr.heap.size := ⟨_, rfl⟩
          rw [← hwo] at Z0 Z1 hwz ⊢
          clear hW5 hb5 c0' Y0 Y1 C0 hwo
          go_loopw [38] (fun q wr => ∃ k : Nat, q = .int .i64 k ∧ k ≤ i ∧ Hid (∀ k', k' < k → rdV (verAt vs i) (verAt vs k') = true) ∧ Hid (Below W5.heap.size W5 wr)) (fun q _ => i - (intOf q).toNat)
          case atStart => exact ⟨0, rfl, Nat.zero_le _, fun k' hk' => by omega, Below.refl _ _⟩
          case round =>
            obtain ⟨k, rfl, hk, hkin, hb'⟩ := hrel
            have k1 : (0 : Int) ≤ (k : Int) := by omega
            have z0 : wr.cell? ⟨wo, 0, none⟩ = some (.string ⟨x.1.toArray⟩) := (hb'.out.cell (p := ⟨wo, 0, none⟩) (show wo < W5.heap.size by omega)).trans Z0.out
            have z1 : wr.cell? ⟨wo, 1, none⟩ = some (.string ⟨x.2.toArray⟩) := (hb'.out.cell (p := ⟨wo, 1, none⟩) (show wo < W5.heap.size by omega)).trans Z1.out
            have Hbk := Lib.hid (Hbw5.out.trans (hb'.out.mono Hbw5.out.size))
            have hz' : wo < wr.heap.size := by have := hb'.out.size; omega
            have hzn : ¬ (wo = wr.heap.size) := by omega
            by_cases hkl : k < i
            · have k2 : (k : Int) < (i : Int) := by omega
              obtain ⟨b1', o1', e1, hbl', y0, y1⟩ := VRow.at_ (Hr.out.below Hbk.out) (show k < vs.length by omega)
              obtain ⟨rfl, rfl⟩ : b1 = b1' ∧ o1 = o1' := by injection e1 with e1; injection e1 with e1 e2; exact ⟨e1, e2⟩
              have hym := List.getElem_mem (show k < vs.length by omega)
              have Hyv := Lib.hid (show verAt vs k = vs[k]'(by omega) from verAt_lt (by omega))
              generalize vs[k]'(show k < vs.length by omega) = y at y0 y1 hym Hyv
              have Hcall := Lib.hid (Hev.out y hym)
              have Hrd : Hid (rdV x y = evolveL (bothL x.1 x.2) (bothL y.1 y.2)) := rfl
              generalize evolveL (bothL x.1 x.2) (bothL y.1 y.2) = r at Hcall Hrd
              clear hym e1
              go_wp2_with fail
              refine (Hcall.out _).mono ?_
              rintro e w9 ⟨rfl, hb9⟩
              have Hb9 := Lib.hid (show Below wr.heap.size wr w9 from ((Below.refl _ _).alloc (Nat.le_refl _) _).trans (hb9.mono (by simp)))
              have Hbz := Lib.hid (hb'.out.trans (Hb9.out.mono hb'.out.size))
              have Hbv := Lib.hid (Hbk.out.trans (Hb9.out.mono Hbk.out.size))
              clear hb9 y0 y1 z0 z1
              cases r with
              | false =>
                have Hno := Lib.hid (regOk_no hlt (Nat.le_of_lt hkl) (by rw [Hxv.out, Hyv.out]; exact Hrd.out))
                go_wp2_with fail
                go_ret
                exact ⟨by rw [Hno.out]; rfl, Hbv.out⟩
              | true =>
                have Hall := Lib.hid (show ∀ k', k' < k + 1 → rdV (verAt vs i) (verAt vs k') = true from fun k' hk' => by
                  rcases Nat.lt_or_ge k' k with h | h
                  · exact hkin.out k' h
                  · obtain rfl : k' = k := by omega
                    rw [Hxv.out, Hyv.out]; exact Hrd.out)
                go_wp2_with fail
                go_roundw
                case rel => exact ⟨k + 1, by go_num, by omega, Hall.out, Hbz.out⟩
                case measure => simp [intOf]; omega
            · have k2 : ¬ (k : Int) < (i : Int) := by omega
              have Hall := Lib.hid (show ∀ i', i' < i + 1 → ∀ k', k' ≤ i' → rdV (verAt vs i') (verAt vs k') = true from fun i' hi' k' hk' => by
                rcases Nat.lt_or_ge i' i with h | h
                · exact hin.out i' h k' hk'
                · obtain rfl : i' = i := by omega
                  rcases Nat.lt_or_ge k' i' with h2 | h2
                  · exact hkin.out k' (by omega)
                  · obtain rfl : k' = i' := by omega
                    rw [Hxv.out]; exact Hs.out)
              have d0 := Lib.hid ((hb'.out.cell (p := ⟨w.heap.size, 0, none⟩) (show w.heap.size < W5.heap.size by omega)).trans D0.out)
              clear z0 z1
              go_wp2_with fail
              go_roundw
              case rel => exact ⟨i + 1, by go_num, by omega, Hall.out, Hbk.out, by have := hb'.out.size; omega, d0.out⟩
              case measure => simp [intOf]; omega
      · obtain rfl : i = vs.length := by omega
        have Hfin := Lib.hid (regOk_iff.2 ⟨H5.out, hin.out⟩)
        go_wp2_with fail
        go_ret
        exact ⟨by rw [Hfin.out]; rfl, hb.out⟩
  · have h5i : (5 : Int) < (vs.length : Int) := by omega
    have Hno := Lib.hid (show regOk vs = false from by rw [Bool.eq_false_iff]; exact fun h => h5 (regOk_iff.1 h).1)
    go_wp2_with fail
    go_ret
    exact ⟨by rw [Hno.out]; rfl, (Below.refl _ _).alloc (Nat.le_refl _) _⟩
end Go.Proofs.YtcjfgbcdlcdeaaaGreatDoor
/- RegistryAdd of the program and of the reference. -/
namespace Go.Proofs.YtcjfgbcdlcdeaaaGreatDoor
open Go.RowKit
set_option maxRecDepth 100000
set_option linter.unusedVariables false
set_option linter.unusedSimpArgs false
attribute [local go_sem] ba_toList

/-- Append of a row to a row of the call's own, as one operation. -/
theorem wp_appG {P : Program} {o : Oper} {a : Act} {K : Act → World → Prop} {Q : Exit → Act → World → Prop} (W : World) (s x : Operand) (t : TypeId)
    (ho : o.op = .call { callee := .builtin .append, args := #[s, x], argTypes := #[t, t] })
    (base : Nat) (e : TypeId) (z : Value) (k bytes : Nat) (ht : P.underlying t = some (.slice e)) (hinfo : (P.info? e).map (fun i => (i.zero, i.size, i.bytes)) = some (some z, k, bytes))
    (hzs : z.cells.size = k) (hk : 0 < k) (us : List Value) (m : Nat) (hul : us.length = m * k) (hu : ∀ u ∈ us, u.oneCell' = true) (v : Value) (n : Nat) (xs : List Value) (hs : a.eval s = v) (p : Addr) (c : Nat) (hx : a.eval x = .slice (some p) m c)
    (hcells : ∀ j u, us[j]? = some u → W.cell? (p.add j) = some u) (hown : W.ownsRow base e k v n xs) (h63 : n + m ≤ maxLen) (hbytes : (n + m) * bytes ≤ 140737488355328) (hbase : base ≤ W.heap.size)
    (h : ∀ v' w', w'.ownsRow base e k v' (n + m) (xs ++ us) → W.grownBy w' v.ownBlock → K (a.put o.dst v') w') : Oper.wp P o a W K Q := by
  obtain ⟨i0, hi, hz0, hz1, hz2⟩ := info_parts hinfo
  obtain ⟨v', w', hrun, r1, r2, _⟩ := run_append_own (P := P) W base t o.type e i0 z k bytes ht hi hz0 hz1 hz2 hzs hk v n xs hown p m c us hul hcells hu h63 hbytes hbase
  unfold Oper.wp
  simp [execOp, ho, resolve, invoke, builtin, hs, hx, hrun, Result.andThen]
  exact h v' w' r1 r2
theorem vrow_cells {w : World} {g c : Nat} {vs : List Ver} (h : VRow w (.slice (some ⟨g, 0, none⟩) vs.length c) vs) : ∀ j u, (vs.flatMap verc)[j]? = some u → w.cell? ⟨g, 0 + j, none⟩ = some u := fun j u hj => by
  obtain ⟨A, c2, e, hc, hm, hr⟩ := h
  injection e with e1 _ _
  obtain ⟨b', off', e, hb, hcell⟩ := hr (Nat.lt_of_le_of_lt (Nat.zero_le _) (List.getElem?_eq_some_iff.1 hj).1)
  rw [← e1] at e
  injection e with e
  injection e with e1 e2
  subst e1 e2
  exact hcell j u hj
theorem iClone_any (g c : Nat) (vs : List Ver) (w : World) (h : VRow w (.slice (some ⟨g, 0, none⟩) vs.length c) vs) (hn : vs.length ≤ 1048576) :
    Calls Tryz.prog 48 #[.slice (some ⟨g, 0, none⟩) vs.length c] w fun e w' => ∃ v', e = .returned v' ∧ w'.ownsRow w.heap.size 35 2 v' vs.length (vs.flatMap verc) ∧ Below w.heap.size w w' := by
  obtain ⟨i0, hi, hz0, hz1, hz2⟩ := info_parts Tryz.infoVer
  have := AnyE.slices_Clone Tryz.laysE41 i0 (.agg #[.string ⟨#[]⟩, .string ⟨#[]⟩]) 2 32 hi hz0 hz1 hz2 rfl (by decide) Tryz.sizeOf35 g 0 vs.length c (vs.flatMap verc) w (flatMap_len verc_len vs) (by unfold maxLen; omega) (by omega) (vrow_cells h) (verc_one vs)
  exact this.mono fun e w' ⟨v', he, ho, _, hb⟩ => ⟨v', he, ho, hb⟩
theorem own_base {W : World} {b b' k n : Nat} {e : TypeId} {v : Value} {xs : List Value} (h : W.ownsRow b e k v n xs) (hb : b' ≤ b) : W.ownsRow b' e k v n xs := by
  obtain ⟨h0, h | ⟨g, cap, cur, h1, h2, h3⟩⟩ := h
  · exact ⟨h0, .inl h⟩
  · exact ⟨h0, .inr ⟨g, cap, cur, h1, Nat.le_trans hb h2, h3⟩⟩
theorem own_below {W W' : World} {base k n : Nat} {e : TypeId} {v : Value} {xs : List Value} (h : W.ownsRow base e k v n xs) (hb : Below W.heap.size W W') : W'.ownsRow base e k v n xs :=
  h.kept (row := none) ⟨hb.os, hb.tape, hb.output, hb.size, fun k hk _ => hb.block k hk⟩ (by cases v.ownBlock <;> simp)
theorem own_ne_box {W : World} {base n bx : Nat} {v u : Value} {xs : List Value} (h : W.ownsRow base 35 2 v n xs) (hx : W.heap[bx]? = some (.cells #[u] 31)) : v.ownBlock ≠ some bx := by
  intro e
  obtain ⟨_, ⟨rfl, _⟩ | ⟨g, cap, cur, rfl, _, h3, _⟩⟩ := h
  · cases e
  · injection e with e
    simp only at e
    subst e
    rw [hx] at h3
    injection h3 with h3
    injection h3 with _ h3
    exact absurd h3 (by decide)
theorem own_row {base : Nat} {W : World} {vs : List Ver} {v : Value} (hrow : W.ownsRow base 35 2 v vs.length (vs.flatMap verc)) : VRow W v vs := by
  rcases hrow.2 with ⟨rfl, h0⟩ | ⟨b, cap, cur, rfl, hb, hh, hnc, hcm, hsz, ht⟩
  · rw [List.eq_nil_of_length_eq_zero h0]
    exact ⟨none, 0, rfl, Nat.le_refl _, Nat.zero_le _, fun h => by simp at h⟩
  · refine ⟨_, cap, rfl, hnc, Nat.le_trans hnc hcm, fun _ => ⟨b, 0, rfl, (hrow.lt b rfl).2, fun j u hu => ?_⟩⟩
    have := hrow.cells (g := b) rfl j u hu
    rw [addr0] at this
    simpa using this
/-- RegistryAdd under way: the row ahead, the new element, the row with it, the registry's cell. -/
structure RaSt (vs : List Ver) (x : Ver) (wz W : World) (lp ls la ld ll lt : Bool) (up us ua ud ul : Value) : Prop where
  bel : Below wz.heap.size wz W
  pre : lp = true → la = false → W.ownsRow wz.heap.size 35 2 up vs.length (vs.flatMap verc)
  sl : ls = true → la = false → ∃ be, us = .slice (some ⟨be, 0, none⟩) 1 1 ∧ be < W.heap.size ∧ W.rangeAt be 0 (verc x)
  app : la = true → W.ownsRow wz.heap.size 35 2 ua (vs.length + 1) (vs.flatMap verc ++ verc x)
  bld : ld = true → ud = .agg #[ua]
  box : ll = true → ∃ bx u, ul = .pointer (some ⟨bx, 0, none⟩) ∧ wz.heap.size ≤ bx ∧ bx < W.heap.size ∧ W.heap[bx]? = some (.cells #[u] 31) ∧ (lt = true → u = ua)
section
variable {vs : List Ver} {x : Ver} {wz W W' : World} {lp ls la ld ll lt : Bool} {up us ua ud ul : Value}
theorem RaSt.below (h : RaSt vs x wz W lp ls la ld ll lt up us ua ud ul) (hb : Below W.heap.size W W') : RaSt vs x wz W' lp ls la ld ll lt up us ua ud ul := by
  refine ⟨h.bel.trans (hb.mono h.bel.size), fun h1 h2 => own_below (h.pre h1 h2) hb, fun h1 h2 => ?_, fun h1 => own_below (h.app h1) hb, h.bld, fun h1 => ?_⟩
  · obtain ⟨be, e1, e2, e3⟩ := h.sl h1 h2
    exact ⟨be, e1, Nat.lt_of_lt_of_le e2 hb.size, rangeAt_below e3 e2 hb⟩
  · obtain ⟨bx, u, e1, e2, e3, e4, e5⟩ := h.box h1
    exact ⟨bx, u, e1, e2, Nat.lt_of_lt_of_le e3 hb.size, (hb.block bx e3).trans e4, e5⟩
theorem RaSt.setPre (h : RaSt vs x wz W lp ls la ld ll lt up us ua ud ul) (hb : Below W.heap.size W W') {v' : Value} (ho : W'.ownsRow W.heap.size 35 2 v' vs.length (vs.flatMap verc)) : RaSt vs x wz W' true ls la ld ll lt v' us ua ud ul :=
  { h.below hb with pre := fun _ _ => own_base ho h.bel.size }
theorem RaSt.setSl (h : RaSt vs x wz W lp ls la ld ll lt up us ua ud ul) : RaSt vs x wz (W.alloc (.cells (verc x).toArray 35)) lp true la ld ll lt up (.slice (some ⟨W.heap.size, 0, none⟩) 1 1) ua ud ul :=
  { h.below ((Below.refl _ _).alloc (Nat.le_refl _) _) with sl := fun _ _ => ⟨W.heap.size, rfl, by simp, rangeAt_new W (verc x) 35⟩ }
theorem RaSt.setBld (h : RaSt vs x wz W lp ls la ld ll lt up us ua ud ul) : RaSt vs x wz W lp ls la true ll lt up us ua (.agg #[ua]) ul :=
  { h with bld := fun _ => rfl }
theorem RaSt.setBox (h : RaSt vs x wz W lp ls la ld ll lt up us ua ud ul) (hlt : lt = false) (u : Value) : RaSt vs x wz (W.alloc (.cells #[u] 31)) lp ls la ld true lt up us ua ud (.pointer (some ⟨W.heap.size, 0, none⟩)) :=
  { h.below ((Below.refl _ _).alloc (Nat.le_refl _) _) with box := fun _ => ⟨W.heap.size, u, rfl, h.bel.size, by simp, Array.getElem?_push_size, fun e => by rw [hlt] at e; cases e⟩ }
theorem RaSt.setApp (h : RaSt vs x wz W lp ls la ld ll lt up us ua ud ul) (hp : lp = true) (hla : la = false) (hld : ld = false) (hlt : lt = false) {v' : Value} (ho : W'.ownsRow wz.heap.size 35 2 v' (vs.length + 1) (vs.flatMap verc ++ verc x)) (hg : W.grownBy W' up.ownBlock) : RaSt vs x wz W' lp ls true ld ll lt up us v' ud ul := by
  have hpre := h.pre hp hla
  refine ⟨h.bel.grown hg h.bel.size (fun k hk => (hpre.lt k hk).1), fun _ e => (by cases e), fun _ e => (by cases e), fun _ => ho, fun e => (by rw [hld] at e; cases e), fun h1 => ?_⟩
  obtain ⟨bx, u, e1, e2, e3, e4, e5⟩ := h.box h1
  exact ⟨bx, u, e1, e2, Nat.lt_of_lt_of_le e3 hg.size, (hg.block bx e3 (fun e => own_ne_box hpre e4 e.symm)).trans e4, fun e => by rw [hlt] at e; cases e⟩
theorem RaSt.setSt (h : RaSt vs x wz W lp ls la ld ll lt up us ua ud ul) (hla : la = true) {bx : Nat} (hl : ll = true) (hul : ul = .pointer (some ⟨bx, 0, none⟩)) : RaSt vs x wz (W.setCell ⟨bx, 0, none⟩ ua) lp ls la ld ll true up us ua ud ul := by
  obtain ⟨bx', u, e1, e2, e3, e4, e5⟩ := h.box hl
  rw [hul] at e1
  injection e1 with e1
  injection e1 with e1
  injection e1 with e1
  subst e1
  have hg := grown_set W ⟨bx, 0, none⟩ ua
  refine ⟨h.bel.setCell e2 _, fun _ e => (by rw [hla] at e; cases e), fun _ e => (by rw [hla] at e; cases e), fun h1 => (h.app h1).kept hg (.inr (own_ne_box (h.app h1) e4)), h.bld, fun _ => ⟨bx, ua, hul, e2, by simpa using e3, ?_, fun _ => rfl⟩⟩
  simp [World.setCell, Array.getElem?_modify, e4]
end
/-- The empty row of the reference. -/
def RzSt (wz W : World) (lz lq : Bool) (uz : Value) : Prop := lz = true → lq = false → (∃ gz, uz = .slice (some ⟨gz, 0, none⟩) 0 0) ∧ W.ownsRow wz.heap.size 35 2 uz 0 []
theorem RzSt.below {wz W W' : World} {lz lq : Bool} {uz : Value} (h : RzSt wz W lz lq uz) (hb : Below W.heap.size W W') : RzSt wz W' lz lq uz := fun h1 h2 => ⟨(h h1 h2).1, own_below (h h1 h2).2 hb⟩
theorem RaSt.setPre2 {vs : List Ver} {x : Ver} {wz W W' : World} {lp ls la ld ll lt : Bool} {up us ua ud ul uz v' : Value} (h : RaSt vs x wz W lp ls la ld ll lt up us ua ud ul) (hla : la = false) {gz : Nat} (hz : W.ownsRow wz.heap.size 35 2 (.slice (some ⟨gz, 0, none⟩) 0 0) 0 [])
    (ho : W'.ownsRow wz.heap.size 35 2 v' vs.length (vs.flatMap verc)) (hg : W.grownBy W' (some gz)) : RaSt vs x wz W' true ls la ld ll lt v' us ua ud ul := by
  refine ⟨h.bel.grown hg h.bel.size (fun k hk => (hz.lt k hk).1), fun _ _ => ho, fun h1 h2 => ?_, fun e => (by rw [hla] at e; cases e), h.bld, fun h1 => ?_⟩
  · obtain ⟨be, e1, e2, e3⟩ := h.sl h1 h2
    have hne : some be ≠ some gz := fun e => by
      injection e with e
      subst e
      obtain ⟨_, ⟨q, _⟩ | ⟨g', cap, cur, q, _, q3, q4, q5, q6, _⟩⟩ := hz
      · cases q
      · injection q with q1 q2 q7
        injection q1 with q1
        injection q1 with q1
        subst q1 q7
        have := e3 0 _ rfl
        simp [World.cell?, q3] at this
        have hs : cur.size = 0 := by omega
        rw [Array.getElem?_eq_none (by omega)] at this
        cases this
    exact ⟨be, e1, Nat.lt_of_lt_of_le e2 hg.size, rangeAt_grown e3 hg hne⟩
  · obtain ⟨bx, u, e1, e2, e3, e4, e5⟩ := h.box h1
    exact ⟨bx, u, e1, e2, Nat.lt_of_lt_of_le e3 hg.size, (hg.block bx e3 (fun e => own_ne_box hz e4 e.symm)).trans e4, e5⟩
/-- What RegistryAdd returns: the registry with the version, if that is one; its row is new. -/
def RaPost (vs : List Ver) (x : Ver) (w : World) (e : Ending) (w' : World) : Prop := ∃ v', e = .returned (.tuple #[.agg #[v'], .bool (regOk (vs ++ [x]))]) ∧ w'.ownsRow (w.heap.size + 1) 35 2 v' (if regOk (vs ++ [x]) = true then vs.length + 1 else 0) (if regOk (vs ++ [x]) = true then (vs ++ [x]).flatMap verc else []) ∧ Below w.heap.size w w'

set_option maxHeartbeats 1000000 in
theorem iAdd_any (g c : Nat) (vs : List Ver) (a b : List UInt8) (w : World) (h : VRow w (.slice (some ⟨g, 0, none⟩) vs.length c) vs) (hn : vs.length ≤ 1048576) (hl : ∀ x ∈ vs ++ [(a, b)], x.1.length ≤ 4000000 ∧ x.2.length ≤ 4000000) :
    Calls Tryz.prog 18 #[.agg #[.slice (some ⟨g, 0, none⟩) vs.length c], .agg #[.string ⟨a.toArray⟩, .string ⟨b.toArray⟩]] w (RaPost vs (a, b) w) := by
  have Hv := Lib.hid h
  have Hl := Lib.hid hl
  clear h hl
  go_enter Tryz.func18, Tryz.ntmps18
  go_upto_region 1 with fail
  obtain ⟨wz, hwz⟩ : ∃ wz, wz = ((w.alloc (.cells #[.slice (some ⟨g, 0, none⟩) vs.length c] 31)).alloc (.cells #[.string ⟨a.toArray⟩, .string ⟨b.toArray⟩] 35)).alloc (.cells #[.slice none 0 0] 31) := ⟨_, rfl⟩
  rw [← hwz]
  have hz : wz.heap.size = w.heap.size + 3 := by rw [hwz]; simp
  have hBw : Below w.heap.size w wz := by
    rw [hwz]
    exact (((Below.refl _ _).alloc (Nat.le_refl _) _).alloc (by simp) _).alloc (by simp; omega) _
  have f0 : wz.cell? ⟨w.heap.size, 0, none⟩ = some (.slice (some ⟨g, 0, none⟩) vs.length c) := by rw [hwz]; simp [go_sem]
  have f1 : wz.cell? ⟨w.heap.size + 1, 0, none⟩ = some (.string ⟨a.toArray⟩) := by rw [hwz]; simp [go_sem]
  have f2 : wz.cell? ⟨w.heap.size + 1, 1, none⟩ = some (.string ⟨b.toArray⟩) := by rw [hwz]; simp [go_sem]
  have f3 : wz.cell? ⟨w.heap.size + 1 + 1, 0, none⟩ = some (.slice none 0 0) := by rw [hwz]; simp [go_sem]
  have f4 : wz.frozen? ⟨w.heap.size + 1 + 1, 0, none⟩ = false := by rw [hwz]; simp [go_sem]
  have F := Lib.hid (And.intro f0 (And.intro f1 (And.intro f2 (And.intro f3 f4))))
  have HBw := Lib.hid hBw
  have Hz := Lib.hid hz
  clear hwz f0 f1 f2 f3 f4 hBw hz
  refine wp_region_slots3 [7, 8, 9, 10, 11, 12, 13, 6, 999] (by kernel_rfl) (by kernel_rfl) (by kernel_rfl) (fun u => by dsimp only [frameOf, setMany, List.set, Nat.zero_add, Nat.reduceAdd])
    (fun ix v W => match ix with | 0 => v = .pointer (some ⟨w.heap.size, 0, none⟩) | 1 => v = .slice (some ⟨g, 0, none⟩) vs.length c | 2 => ∃ A n c, v = .slice A n c | 3 => v = .agg #[.string ⟨a.toArray⟩, .string ⟨b.toArray⟩] | 4 => ∃ b, v = .slice (some ⟨b, 0, none⟩) 1 1 | 5 => ∃ A n c, v = .slice A n c | 7 => ∃ b, v = .pointer (some ⟨b, 0, none⟩) | 8 => v = undef | _ => True)
    (fun L U W => RaSt vs (a, b) wz W (L 2) (L 4) (L 5) (L 6) (L 7) (L 8) (U 2) (U 4) (U 5) (U 6) (U 7)) (fun _ _ => True) (fun _ _ _ _ _ h => h) (⟨(Below.refl _ _).drew, fun h => Bool.noConfusion h, fun h => Bool.noConfusion h, fun h => Bool.noConfusion h, fun h => Bool.noConfusion h, fun h => Bool.noConfusion h⟩) ?_ ?_
  · repeat (first | exact Steps.nil | (refine Steps.cons ?_ ?_; rotate_left))
    all_goals
      rintro L U W hL hpre hR hun hdep K hK
      have HR := Lib.hid hR
      have hst := HR.out
      obtain ⟨g0, g1, g2, _, _⟩ := F.out
      have a0 : W.cell? ⟨w.heap.size, 0, none⟩ = some (.slice (some ⟨g, 0, none⟩) vs.length c) := (hst.bel.cell (p := ⟨w.heap.size, 0, none⟩) (by have := Hz.out; show w.heap.size < _; omega)).trans g0
      have a1 : W.cell? ⟨w.heap.size + 1, 0, none⟩ = some (.string ⟨a.toArray⟩) := (hst.bel.cell (p := ⟨w.heap.size + 1, 0, none⟩) (by have := Hz.out; show w.heap.size + 1 < _; omega)).trans g1
      have a2 : W.cell? ⟨w.heap.size + 1, 1, none⟩ = some (.string ⟨b.toArray⟩) := (hst.bel.cell (p := ⟨w.heap.size + 1, 1, none⟩) (by have := Hz.out; show w.heap.size + 1 < _; omega)).trans g2
      clear g0 g1 g2
      have Hdep := Lib.hid hdep
      clear hun hdep hR
      first | (simp [Region.binds] at hpre; done) | simp [Region.binds] at hpre | clear hpre
    iterate 2
      · go_simp
        first | exact hK _ _ _ rfl trivial HR.out rfl | exact hK _ _ _ rfl trivial HR.out (by simp [Act.put, hpre])
    · have u1 : U 1 = .slice (some ⟨g, 0, none⟩) vs.length c := by
        first | exact hpre.2 | exact hpre.1.2 | exact hpre.2.2 | exact hpre.2.1.2
      go_simp
      refine (iClone_any g c vs W (Hv.out.below (HBw.out.trans (hst.bel.mono HBw.out.size))) (by omega)).mono ?_
      rintro e w' ⟨v', rfl, ho, hb⟩
      have ho' := ho
      obtain ⟨A5, n5, c5, rfl⟩ := own_slice ho
      have hq := hst.setPre hb ho'
      exact hK _ _ _ ⟨A5, n5, c5, rfl⟩ trivial (by simpa using hq) (by simp [Act.put, hpre])
    · go_simp
      first | exact hK _ _ _ rfl trivial HR.out rfl | exact hK _ _ _ rfl trivial HR.out (by simp [Act.put, hpre])
    · have ul : U 3 = .agg #[.string ⟨a.toArray⟩, .string ⟨b.toArray⟩] := by
        first | exact hpre.2 | exact hpre.1.2 | exact hpre.2.2 | exact hpre.2.1.2
      have hba : Below W.heap.size W (W.alloc (.cells (verc (a, b)).toArray 35)) := (Below.refl _ _).alloc (Nat.le_refl _) _
      go_simp
      exact hK _ _ _ ⟨W.heap.size, rfl⟩ trivial (by have hq := hst.setSl; simpa [verc] using hq) (by simp [Act.put, hpre])
    · obtain ⟨lp, _⟩ : L 2 = true ∧ ∃ A n c, U 2 = .slice A n c := by
        first | exact hpre.1 | exact hpre.2.1 | exact hpre.2
      obtain ⟨ls, _⟩ : L 4 = true ∧ ∃ b, U 4 = .slice (some ⟨b, 0, none⟩) 1 1 := by
        first | exact hpre.2 | exact hpre.2.1 | exact hpre.1
      have h6 : L 6 = false := Hdep.out 6 _ rfl { on := 5, ground := Ground.data } (by simp) (by rfl) hL
      have h8 : L 8 = false := Hdep.out 8 _ rfl { on := 6, ground := Ground.data } (by simp) (by rfl) h6
      obtain ⟨be, us, be1, be2⟩ := hst.sl ls hL
      have hp0 := hst.pre lp hL
      rw [if_pos (by rfl)]
      refine wp_appG W (.tmp 9) (.tmp 11) 29 rfl wz.heap.size 35 (.agg #[.string ⟨#[]⟩, .string ⟨#[]⟩]) 2 32 Tryz.underlying29 Tryz.infoVer rfl (by decide) (verc (a, b)) 1 rfl (fun y hy => verc_one [(a, b)] y (by simpa using hy)) (U 2) vs.length (vs.flatMap verc) rfl ⟨be, 0, none⟩ 1 us (fun j u hj => by rw [addr0]; simpa using be2 j u hj) hp0 (by unfold maxLen; omega) (by omega) hst.bel.size ?_
      intro v' w' hown hg
      have hown' := hown
      obtain ⟨A5, n5, c5, rfl⟩ := own_slice hown
      exact hK _ _ _ ⟨A5, n5, c5, rfl⟩ trivial (by have hq := hst.setApp lp hL h6 h8 hown' hg; simpa using hq) rfl
    · obtain ⟨lx, A5, n5, c5, u5⟩ : L 5 = true ∧ ∃ A n c, U 5 = .slice A n c := by
        first | exact hpre | exact hpre.1 | exact hpre.2
      go_simp
      exact hK (.agg #[.slice A5 n5 c5]) _ _ trivial trivial (by have hq := hst.setBld; simpa [u5] using hq) (by simp [Act.put, u5])
    · have h8 : L 8 = false := Hdep.out 8 _ rfl { on := 7, ground := Ground.data } (by simp) (by rfl) hL
      have hba : Below W.heap.size W (W.alloc (.cells #[.slice none 0 0] 31)) := (Below.refl _ _).alloc (Nat.le_refl _) _
      go_simp
      exact hK _ _ _ ⟨W.heap.size, rfl⟩ trivial (by have hq := hst.setBox h8 (.slice none 0 0); simpa using hq) (by simp [Act.put])
    · obtain ⟨ll, bx, ul⟩ : L 7 = true ∧ ∃ b, U 7 = .pointer (some ⟨b, 0, none⟩) := by
        first | exact hpre.1 | exact hpre.2.1 | exact hpre.2
      have ld : L 6 = true := by
        first | exact hpre.2.1 | exact hpre.2 | exact hpre.1 | exact hpre.2.1.1
      have la : L 5 = true := by
        cases h : L 5 with
        | true => rfl
        | false => exact absurd (ld.symm.trans (Hdep.out 6 _ rfl { on := 5, ground := Ground.data } (by simp) (by rfl) h)) (by decide)
      have ud := hst.bld ld
      obtain ⟨bx', u, q1, q2, q3, q4, _⟩ := hst.box ll
      rw [ul] at q1
      injection q1 with q1
      injection q1 with q1
      injection q1 with q1
      subst q1
      have hcell : W.cell? ⟨bx, 0, none⟩ = some u := by simp [World.cell?, q4]
      have hfz : W.frozen? ⟨bx, 0, none⟩ = false := by simp [World.frozen?, q4]
      have hoa := hst.app la
      obtain ⟨A5, n5, c5, ua⟩ := own_slice hoa
      have hfin := hst.setSt la ll ul
      rw [ua] at ud
      go_simp
      exact hK undef _ _ rfl trivial (by have hq := hfin; simpa [ua] using hq) (by simp [Act.put, hpre, ul, ud, ua])
  · rintro L U W hL hφ hR
    clear hφ
    have hst := hR
    have hown := hst.app (hL 5 (by decide))
    obtain ⟨bx, u, q1, q2, q3, q4, q5⟩ := hst.box (hL 7 (by decide))
    have hu := q5 (hL 8 (by decide))
    have ud := hst.bld (hL 6 (by decide))
    obtain ⟨A5, n5, c5, ua⟩ := own_slice hown
    rw [ua] at hown hu ud
    subst hu
    have hown2 : W.ownsRow wz.heap.size 35 2 (.slice A5 n5 c5) (vs ++ [(a, b)]).length ((vs ++ [(a, b)]).flatMap verc) := by simpa [List.flatMap_append] using hown
    have Hvr := Lib.hid (own_row hown2)
    have Hown := Lib.hid hown2
    have hcell : W.cell? ⟨bx, 0, none⟩ = some (.slice A5 n5 c5) := by simp [World.cell?, q4]
    have HB := Lib.hid hst.bel
    have hn2 : (vs ++ [(a, b)]).length ≤ 1048577 := by simp; omega
    have hzv := Hz.out
    rw [q1]
    clear hL hR hst hown hown2 ua ud q4 q5 q1
    go_wp2_with fail
    refine (iRegOk_any (.slice A5 n5 c5) (vs ++ [(a, b)]) W Hvr.out hn2 Hl.out).mono ?_
    rintro e w2 ⟨rfl, hb2⟩
    obtain ⟨_, _, _, g3, g4⟩ := F.out
    have hB2 := HB.out.trans (hb2.mono HB.out.size)
    have r3 : w2.cell? ⟨w.heap.size + 1 + 1, 0, none⟩ = some (.slice none 0 0) := (hB2.cell (p := ⟨w.heap.size + 1 + 1, 0, none⟩) (by show w.heap.size + 1 + 1 < _; omega)).trans g3
    have r4 : w2.frozen? ⟨w.heap.size + 1 + 1, 0, none⟩ = false := ((bcell (hB2.mono (Nat.le_refl _))).2.1 (w.heap.size + 1 + 1) 0 (by omega)).trans g4
    have r5 : w2.cell? ⟨bx, 0, none⟩ = some (.slice A5 n5 c5) := (hb2.cell (p := ⟨bx, 0, none⟩) q3).trans hcell
    have Hown2 := Lib.hid (own_below Hown.out hb2)
    have HBf := Lib.hid (fun u => show Below w.heap.size w (w2.setCell ⟨w.heap.size + 1 + 1, 0, none⟩ u) from (HBw.out.trans (hB2.mono HBw.out.size)).setCell (show w.heap.size ≤ w.heap.size + 1 + 1 by omega) u)
    clear g3 g4 hb2 hB2 hcell
    cases hro : regOk (vs ++ [(a, b)]) with
    | false =>
      go_wp2_with fail
      refine bodyPost_ret (v := .tuple #[.agg #[.slice none 0 0], .bool false]) (by simp [results, Tryz.results18, go_sem, r3, r4]) rfl ?_
      exact ⟨_, by rw [hro], by rw [hro]; exact World.ownsRow_nil _ _ _ _, HBf.out _⟩
    | true =>
      go_wp2_with fail
      refine bodyPost_ret (v := .tuple #[.agg #[.slice A5 n5 c5], .bool true]) (by simp [results, Tryz.results18, go_sem, r3, r4]) rfl ?_
      refine ⟨_, by rw [hro], ?_, HBf.out _⟩
      rw [hro]
      have h1 := own_base Hown2.out (show w.heap.size + 1 ≤ wz.heap.size by omega)
      have h2 := h1.kept (grown_set w2 ⟨w.heap.size + 1 + 1, 0, none⟩ (.slice A5 n5 c5)) (.inr fun e => by have := (Hown2.out.lt _ e).1; simp at this; omega)
      simpa using h2

set_option maxHeartbeats 1000000 in
theorem sAdd_any (g c : Nat) (vs : List Ver) (a b : List UInt8) (w : World) (h : VRow w (.slice (some ⟨g, 0, none⟩) vs.length c) vs) (hn : vs.length ≤ 1048576) (hl : ∀ x ∈ vs ++ [(a, b)], x.1.length ≤ 4000000 ∧ x.2.length ≤ 4000000) :
    Calls Tryz.prog 15 #[.agg #[.slice (some ⟨g, 0, none⟩) vs.length c], .agg #[.string ⟨a.toArray⟩, .string ⟨b.toArray⟩]] w (RaPost vs (a, b) w) := by
  have Hv := Lib.hid h
  have Hl := Lib.hid hl
  clear h hl
  go_enter Tryz.func15, Tryz.ntmps15
  go_upto_region 1 with fail
  obtain ⟨wz, hwz⟩ : ∃ wz, wz = ((w.alloc (.cells #[.slice (some ⟨g, 0, none⟩) vs.length c] 31)).alloc (.cells #[.string ⟨a.toArray⟩, .string ⟨b.toArray⟩] 35)).alloc (.cells #[.slice none 0 0] 31) := ⟨_, rfl⟩
  rw [← hwz]
  have hz : wz.heap.size = w.heap.size + 3 := by rw [hwz]; simp
  have hBw : Below w.heap.size w wz := by
    rw [hwz]
    exact (((Below.refl _ _).alloc (Nat.le_refl _) _).alloc (by simp) _).alloc (by simp; omega) _
  have f0 : wz.cell? ⟨w.heap.size, 0, none⟩ = some (.slice (some ⟨g, 0, none⟩) vs.length c) := by rw [hwz]; simp [go_sem]
  have f1 : wz.cell? ⟨w.heap.size + 1, 0, none⟩ = some (.string ⟨a.toArray⟩) := by rw [hwz]; simp [go_sem]
  have f2 : wz.cell? ⟨w.heap.size + 1, 1, none⟩ = some (.string ⟨b.toArray⟩) := by rw [hwz]; simp [go_sem]
  have f3 : wz.cell? ⟨w.heap.size + 1 + 1, 0, none⟩ = some (.slice none 0 0) := by rw [hwz]; simp [go_sem]
  have f4 : wz.frozen? ⟨w.heap.size + 1 + 1, 0, none⟩ = false := by rw [hwz]; simp [go_sem]
  have F := Lib.hid (And.intro f0 (And.intro f1 (And.intro f2 (And.intro f3 f4))))
  have HBw := Lib.hid hBw
  have Hz := Lib.hid hz
  clear hwz f0 f1 f2 f3 f4 hBw hz
  refine wp_region_slots3 [7, 8, 9, 10, 11, 12, 13, 14, 6, 999] (by kernel_rfl) (by kernel_rfl) (by kernel_rfl) (fun u => by dsimp only [frameOf, setMany, List.set, Nat.zero_add, Nat.reduceAdd])
    (fun ix v W => match ix with | 0 => ∃ b, v = .slice (some ⟨b, 0, none⟩) 0 0 | 1 => v = .pointer (some ⟨w.heap.size, 0, none⟩) | 2 => v = .slice (some ⟨g, 0, none⟩) vs.length c | 3 => ∃ A n c, v = .slice A n c | 4 => v = .agg #[.string ⟨a.toArray⟩, .string ⟨b.toArray⟩] | 5 => ∃ b, v = .slice (some ⟨b, 0, none⟩) 1 1 | 6 => ∃ A n c, v = .slice A n c | 8 => ∃ b, v = .pointer (some ⟨b, 0, none⟩) | 9 => v = undef | _ => True)
    (fun L U W => (RaSt vs (a, b) wz W (L 3) (L 5) (L 6) (L 7) (L 8) (L 9) (U 3) (U 5) (U 6) (U 7) (U 8)) ∧ RzSt wz W (L 0) (L 3) (U 0)) (fun _ _ => True) (fun _ _ _ _ _ h => h) (⟨⟨(Below.refl _ _).drew, fun h => Bool.noConfusion h, fun h => Bool.noConfusion h, fun h => Bool.noConfusion h, fun h => Bool.noConfusion h, fun h => Bool.noConfusion h⟩, fun h => Bool.noConfusion h⟩) ?_ ?_
  · repeat (first | exact Steps.nil | (refine Steps.cons ?_ ?_; rotate_left))
    all_goals
      rintro L U W hL hpre hR hun hdep K hK
      have HR := Lib.hid hR
      obtain ⟨hst, hzt⟩ := HR.out
      obtain ⟨g0, g1, g2, _, _⟩ := F.out
      have a0 : W.cell? ⟨w.heap.size, 0, none⟩ = some (.slice (some ⟨g, 0, none⟩) vs.length c) := (hst.bel.cell (p := ⟨w.heap.size, 0, none⟩) (by have := Hz.out; show w.heap.size < _; omega)).trans g0
      have a1 : W.cell? ⟨w.heap.size + 1, 0, none⟩ = some (.string ⟨a.toArray⟩) := (hst.bel.cell (p := ⟨w.heap.size + 1, 0, none⟩) (by have := Hz.out; show w.heap.size + 1 < _; omega)).trans g1
      have a2 : W.cell? ⟨w.heap.size + 1, 1, none⟩ = some (.string ⟨b.toArray⟩) := (hst.bel.cell (p := ⟨w.heap.size + 1, 1, none⟩) (by have := Hz.out; show w.heap.size + 1 < _; omega)).trans g2
      clear g0 g1 g2
      have Hdep := Lib.hid hdep
      clear hun hdep hR
      first | (simp [Region.binds] at hpre; done) | simp [Region.binds] at hpre | clear hpre
    · have hba : Below W.heap.size W (W.alloc (.cells #[] 35)) := (Below.refl _ _).alloc (Nat.le_refl _) _
      go_simp
      exact hK _ _ _ ⟨W.heap.size, rfl⟩ trivial ⟨hst.below hba, fun _ _ => ⟨⟨W.heap.size, rfl⟩, World.ownsRow_lit (base := wz.heap.size) (e := 35) (size := 2) W #[] 0 hst.bel.size (Nat.zero_le _) rfl⟩⟩ (by simp [Act.put])
    iterate 2
      · go_simp
        first | exact hK _ _ _ rfl trivial HR.out rfl | exact hK _ _ _ rfl trivial HR.out (by simp [Act.put, hpre])
    · obtain ⟨l0, gz, u0⟩ : L 0 = true ∧ ∃ b, U 0 = .slice (some ⟨b, 0, none⟩) 0 0 := by
        first | exact hpre.1 | exact hpre.2 | exact hpre.2.1
      have u2 : U 2 = .slice (some ⟨g, 0, none⟩) vs.length c := by
        first | exact hpre.2.2 | exact hpre.1.2 | exact hpre.2.1.2
      have h6 : L 6 = false := Hdep.out 6 _ rfl { on := 3, ground := Ground.data } (by simp) (by rfl) hL
      obtain ⟨_, hz0⟩ := hzt l0 hL
      rw [u0] at hz0
      rw [if_pos (by rfl)]
      refine wp_appG W (.tmp 7) (.tmp 9) 29 rfl wz.heap.size 35 (.agg #[.string ⟨#[]⟩, .string ⟨#[]⟩]) 2 32 Tryz.underlying29 Tryz.infoVer rfl (by decide) (vs.flatMap verc) vs.length (flatMap_len verc_len vs) (verc_one vs) (.slice (some ⟨gz, 0, none⟩) 0 0) 0 [] u0 ⟨g, 0, none⟩ c u2 (fun j u hj => by rw [addr0]; simpa using vrow_cells (Hv.out.below (HBw.out.trans (hst.bel.mono HBw.out.size))) j u hj) hz0 (by unfold maxLen; omega) (by omega) hst.bel.size ?_
      intro v' w' hown hg
      have hown' : w'.ownsRow wz.heap.size 35 2 v' vs.length (vs.flatMap verc) := by simpa using hown
      obtain ⟨A5, n5, c5, rfl⟩ := own_slice hown
      exact hK _ _ _ ⟨A5, n5, c5, rfl⟩ trivial (by have hq := hst.setPre2 (uz := U 0) h6 hz0 hown' hg; exact ⟨by simpa using hq, fun _ e => by simp at e⟩) rfl
    · go_simp
      first | exact hK _ _ _ rfl trivial HR.out rfl | exact hK _ _ _ rfl trivial HR.out (by simp [Act.put, hpre])
    · have ul : U 4 = .agg #[.string ⟨a.toArray⟩, .string ⟨b.toArray⟩] := by
        first | exact hpre.2 | exact hpre.1.2 | exact hpre.2.2 | exact hpre.2.1.2
      have hba : Below W.heap.size W (W.alloc (.cells (verc (a, b)).toArray 35)) := (Below.refl _ _).alloc (Nat.le_refl _) _
      go_simp
      exact hK _ _ _ ⟨W.heap.size, rfl⟩ trivial ⟨(by have hq := hst.setSl; simpa [verc] using hq), (by simpa [verc] using hzt.below hba)⟩ (by simp [Act.put, hpre])
    · obtain ⟨lp, _⟩ : L 3 = true ∧ ∃ A n c, U 3 = .slice A n c := by
        first | exact hpre.1 | exact hpre.2.1 | exact hpre.2
      obtain ⟨ls, _⟩ : L 5 = true ∧ ∃ b, U 5 = .slice (some ⟨b, 0, none⟩) 1 1 := by
        first | exact hpre.2 | exact hpre.2.1 | exact hpre.1
      have h7 : L 7 = false := Hdep.out 7 _ rfl { on := 6, ground := Ground.data } (by simp) (by rfl) hL
      have h9 : L 9 = false := Hdep.out 9 _ rfl { on := 7, ground := Ground.data } (by simp) (by rfl) h7
      obtain ⟨be, us, be1, be2⟩ := hst.sl ls hL
      have hp0 := hst.pre lp hL
      rw [if_pos (by rfl)]
      refine wp_appG W (.tmp 10) (.tmp 12) 29 rfl wz.heap.size 35 (.agg #[.string ⟨#[]⟩, .string ⟨#[]⟩]) 2 32 Tryz.underlying29 Tryz.infoVer rfl (by decide) (verc (a, b)) 1 rfl (fun y hy => verc_one [(a, b)] y (by simpa using hy)) (U 3) vs.length (vs.flatMap verc) rfl ⟨be, 0, none⟩ 1 us (fun j u hj => by rw [addr0]; simpa using be2 j u hj) hp0 (by unfold maxLen; omega) (by omega) hst.bel.size ?_
      intro v' w' hown hg
      have hown' := hown
      obtain ⟨A5, n5, c5, rfl⟩ := own_slice hown
      exact hK _ _ _ ⟨A5, n5, c5, rfl⟩ trivial ⟨(by have hq := hst.setApp lp hL h7 h9 hown' hg; simpa using hq), fun h1 h2 => absurd (lp.symm.trans (by simpa using h2)) (by decide)⟩ rfl
    · obtain ⟨lx, A5, n5, c5, u5⟩ : L 6 = true ∧ ∃ A n c, U 6 = .slice A n c := by
        first | exact hpre | exact hpre.1 | exact hpre.2
      go_simp
      exact hK (.agg #[.slice A5 n5 c5]) _ _ trivial trivial ⟨(by have hq := hst.setBld; simpa [u5] using hq), (by simpa [u5] using hzt)⟩ (by simp [Act.put, u5])
    · have h9 : L 9 = false := Hdep.out 9 _ rfl { on := 8, ground := Ground.data } (by simp) (by rfl) hL
      have hba : Below W.heap.size W (W.alloc (.cells #[.slice none 0 0] 31)) := (Below.refl _ _).alloc (Nat.le_refl _) _
      go_simp
      exact hK _ _ _ ⟨W.heap.size, rfl⟩ trivial ⟨(by have hq := hst.setBox h9 (.slice none 0 0); simpa using hq), (by simpa using hzt.below hba)⟩ (by simp [Act.put])
    · obtain ⟨ll, bx, ul⟩ : L 8 = true ∧ ∃ b, U 8 = .pointer (some ⟨b, 0, none⟩) := by
        first | exact hpre.1 | exact hpre.2.1 | exact hpre.2
      have ld : L 7 = true := by
        first | exact hpre.2.1 | exact hpre.2 | exact hpre.1 | exact hpre.2.1.1
      have la : L 6 = true := by
        cases h : L 6 with
        | true => rfl
        | false => exact absurd (ld.symm.trans (Hdep.out 7 _ rfl { on := 6, ground := Ground.data } (by simp) (by rfl) h)) (by decide)
      have ud := hst.bld ld
      obtain ⟨bx', u, q1, q2, q3, q4, _⟩ := hst.box ll
      rw [ul] at q1
      injection q1 with q1
      injection q1 with q1
      injection q1 with q1
      subst q1
      have hcell : W.cell? ⟨bx, 0, none⟩ = some u := by simp [World.cell?, q4]
      have hfz : W.frozen? ⟨bx, 0, none⟩ = false := by simp [World.frozen?, q4]
      have hoa := hst.app la
      obtain ⟨A5, n5, c5, ua⟩ := own_slice hoa
      have hfin := hst.setSt la ll ul
      rw [ua] at ud
      have lpre : L 3 = true := by
        cases h : L 3 with
        | true => rfl
        | false => exact absurd (la.symm.trans (Hdep.out 6 _ rfl { on := 3, ground := Ground.data } (by simp) (by rfl) h)) (by decide)
      go_simp
      exact hK undef _ _ rfl trivial ⟨(by have hq := hfin; simpa [ua] using hq), fun h1 h2 => absurd (lpre.symm.trans (by simpa using h2)) (by decide)⟩ (by simp [Act.put, hpre, ul, ud, ua])
  · rintro L U W hL hφ hR
    clear hφ
    have hst := hR.1
    have hown := hst.app (hL 6 (by decide))
    obtain ⟨bx, u, q1, q2, q3, q4, q5⟩ := hst.box (hL 8 (by decide))
    have hu := q5 (hL 9 (by decide))
    have ud := hst.bld (hL 7 (by decide))
    obtain ⟨A5, n5, c5, ua⟩ := own_slice hown
    rw [ua] at hown hu ud
    subst hu
    have hown2 : W.ownsRow wz.heap.size 35 2 (.slice A5 n5 c5) (vs ++ [(a, b)]).length ((vs ++ [(a, b)]).flatMap verc) := by simpa [List.flatMap_append] using hown
    have Hvr := Lib.hid (own_row hown2)
    have Hown := Lib.hid hown2
    have hcell : W.cell? ⟨bx, 0, none⟩ = some (.slice A5 n5 c5) := by simp [World.cell?, q4]
    have HB := Lib.hid hst.bel
    have hn2 : (vs ++ [(a, b)]).length ≤ 1048577 := by simp; omega
    have hzv := Hz.out
    rw [q1]
    clear hL hR hst hown hown2 ua ud q4 q5 q1
    go_wp2_with fail
    refine (sRegOk_any (.slice A5 n5 c5) (vs ++ [(a, b)]) W Hvr.out hn2 Hl.out).mono ?_
    rintro e w2 ⟨rfl, hb2⟩
    obtain ⟨_, _, _, g3, g4⟩ := F.out
    have hB2 := HB.out.trans (hb2.mono HB.out.size)
    have r3 : w2.cell? ⟨w.heap.size + 1 + 1, 0, none⟩ = some (.slice none 0 0) := (hB2.cell (p := ⟨w.heap.size + 1 + 1, 0, none⟩) (by show w.heap.size + 1 + 1 < _; omega)).trans g3
    have r4 : w2.frozen? ⟨w.heap.size + 1 + 1, 0, none⟩ = false := ((bcell (hB2.mono (Nat.le_refl _))).2.1 (w.heap.size + 1 + 1) 0 (by omega)).trans g4
    have r5 : w2.cell? ⟨bx, 0, none⟩ = some (.slice A5 n5 c5) := (hb2.cell (p := ⟨bx, 0, none⟩) q3).trans hcell
    have Hown2 := Lib.hid (own_below Hown.out hb2)
    have HBf := Lib.hid (fun u => show Below w.heap.size w (w2.setCell ⟨w.heap.size + 1 + 1, 0, none⟩ u) from (HBw.out.trans (hB2.mono HBw.out.size)).setCell (show w.heap.size ≤ w.heap.size + 1 + 1 by omega) u)
    clear g3 g4 hb2 hB2 hcell
    cases hro : regOk (vs ++ [(a, b)]) with
    | false =>
      go_wp2_with fail
      refine bodyPost_ret (v := .tuple #[.agg #[.slice none 0 0], .bool false]) (by simp [results, Tryz.results15, go_sem, r3, r4]) rfl ?_
      exact ⟨_, by rw [hro], by rw [hro]; exact World.ownsRow_nil _ _ _ _, HBf.out _⟩
    | true =>
      go_wp2_with fail
      refine bodyPost_ret (v := .tuple #[.agg #[.slice A5 n5 c5], .bool true]) (by simp [results, Tryz.results15, go_sem, r3, r4]) rfl ?_
      refine ⟨_, by rw [hro], ?_, HBf.out _⟩
      rw [hro]
      have h1 := own_base Hown2.out (show w.heap.size + 1 ≤ wz.heap.size by omega)
      have h2 := h1.kept (grown_set w2 ⟨w.heap.size + 1 + 1, 0, none⟩ (.slice A5 n5 c5)) (.inr fun e => by have := (Hown2.out.lt _ e).1; simp at this; omega)
      simpa using h2
end Go.Proofs.YtcjfgbcdlcdeaaaGreatDoor
