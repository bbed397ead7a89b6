/- l91Stream: a stream is drawn; it returns a text of at most 480 bytes, and only the reader turns. -/
import Derived.Test.YtjbpjpakcpjheaaOpen
import Derived.Test.YtjbpjpakcpjheaaMany
import Derived.Test.YtjbpjpakcpjheaaFrame2
import Derived.Test.YtjbpjpakcpjheaaRegion
namespace Go.Proofs.Ytjbpjpakcpjheaa
open Go.RowKit
set_option maxRecDepth 100000
set_option linter.unusedVariables false
attribute [local go_sem] ba_get ba_toList ba_extract take_drop_all ByteArray.mk_append_mk

theorem only_of_below {a w : World} (h : Below a.heap.size a w) (row : Option Nat) : a.grownBy w row := ⟨h.os, h.tape, h.output, h.size, fun i hi _ => h.block i hi⟩
theorem grown_trans' {a b c : World} {row : Option Nat} (h : a.grownBy b row) (k : b.grownBy c row) : a.grownBy c row :=
  ⟨k.os.trans h.os, k.tape.trans h.tape, k.output.trans h.output, Nat.le_trans h.size k.size, fun i hi hne => (k.block i (Nat.lt_of_lt_of_le hi h.size) hne).trans (h.block i hi hne)⟩
theorem grown_drewN {a b : World} {row : Option Nat} (h : a.grownBy b row) (n : Nat) : a.grownBy (b.drewN n) row := ⟨h.os, h.tape, h.output, h.size, h.block⟩
theorem grown_drew {a b : World} {row : Option Nat} (h : a.grownBy b row) : a.grownBy b.drew row := ⟨h.os, h.tape, h.output, h.size, h.block⟩
theorem Rdr.drew {w : World} {g p : Nat} (h : Rdr w g p) : Rdr w.drew g p := h
theorem Rdr.drewN {w : World} {g p : Nat} (h : Rdr w g p) (n : Nat) : Rdr (w.drewN n) g p := h
theorem Rdr.alloc {w : World} {g p : Nat} (h : Rdr w g p) (o : Obj) : Rdr (w.alloc o) g p := h.below ((Below.refl _ _).alloc (Nat.le_refl _) o)

/-- A row of texts in a block of its own. -/
def TextRow (W : World) (g n top : Nat) : Prop := ∃ cs, W.heap[g]? = some (.cells cs 9 (0, 0)) ∧ ∀ j, j < n → ∃ l : List UInt8, cs[j]? = some (.string ⟨l.toArray⟩) ∧ l.length ≤ top
theorem TextRow.lt {W : World} {g n top : Nat} (h : TextRow W g n top) : g < W.heap.size := by
  obtain ⟨cs, hh, _⟩ := h
  rcases Nat.lt_or_ge g W.heap.size with h1 | h1
  · exact h1
  · rw [Array.getElem?_eq_none h1] at hh; cases hh
theorem TextRow.grown {W W' : World} {g n top r : Nat} (h : TextRow W g n top) (hg : W.grownBy W' (some r)) (hne : g ≠ r) : TextRow W' g n top := by
  have hlt := h.lt
  obtain ⟨cs, hh, hc⟩ := h
  exact ⟨cs, (hg.block g hlt (fun e => hne (Option.some.inj e))).trans hh, hc⟩
theorem TextRow.cell {W : World} {g n top j : Nat} (h : TextRow W g n top) (hj : j < n) : ∃ l : List UInt8, W.cell? ⟨g, j, none⟩ = some (.string ⟨l.toArray⟩) ∧ l.length ≤ top := by
  obtain ⟨cs, hh, hc⟩ := h
  obtain ⟨l, e, hl⟩ := hc j hj
  exact ⟨l, by simp [World.cell?, hh, e], hl⟩

theorem conv_three (W : World) (g c : Nat) (h0 : W.cell? ⟨g, 0, none⟩ = some (.int .u8 126)) (h1 : W.cell? ⟨g, 1, none⟩ = some (.int .u8 2)) (h2 : W.cell? ⟨g, 2, none⟩ = some (.int .u8 3)) :
    (convert 26 9 (.slice (some ⟨g, 0, none⟩) 3 c)).run Try.prog W = .ok (.string ⟨([126, 2, 3] : List UInt8).toArray⟩) W := by
  have h := run_convert_bytes_arg (P := Try.prog) W 26 5 Try.underlying26 Try.underlying5 g 0 3 c [126, 2, 3] rfl (fun i hi => by
    rcases (show i = 0 ∨ i = 1 ∨ i = 2 by omega) with rfl | rfl | rfl
    · simpa using h0
    · simpa using h1
    · simpa using h2) 9 Try.underlying9
  rw [h]; rfl

/-- What a call on the reader leaves of the world. -/
def RdrTo (w : World) (g p : Nat) (w' : World) : Prop := Rdr w' g p ∧ w.grownBy w' (some g)

/-- What each operation of the drawn region in l91Stream has yielded. -/
def phi5 (g : Nat) (i : Nat) (v : Value) (W : World) : Prop :=
  match i with
  | 0 => ∃ b, v = .slice (some ⟨b, 0, none⟩) 3 3 ∧ b ≠ g ∧ W.heap[b]? = some (.cells #[.int .u8 126, .int .u8 2, .int .u8 3] 5 (0, 0))
  | 1 => v = .string ⟨([126, 2, 3] : List UInt8).toArray⟩
  | 2 => ∃ l : List UInt8, v = .string ⟨l.toArray⟩ ∧ l.length ≤ 100
  | 3 => ∃ l : List UInt8, v = .string ⟨l.toArray⟩ ∧ l.length ≤ 100
  | 4 => ∃ b, v = .slice (some ⟨b, 0, none⟩) 7 7 ∧ b ≠ g ∧ TextRow W b 7 100
  | 5 => v = .pointer (some ⟨g, 0, none⟩)
  | 6 => ∃ x : Nat, v = .int .i64 (x : Int) ∧ x < 7
  | 7 => ∃ b x, v = .pointer (some ⟨b, x, none⟩) ∧ b ≠ g ∧ x < 7 ∧ TextRow W b 7 100
  | 8 => ∃ l : List UInt8, v = .string ⟨l.toArray⟩ ∧ l.length ≤ 100
  | 9 => ∃ l : List UInt8, v = .tuple #[.string ⟨(frameB l).toArray⟩, .bool true] ∧ l.length ≤ 100
  | 10 => ∃ l : List UInt8, v = .tuple #[.string ⟨(frameB l).toArray⟩, .bool true] ∧ l.length ≤ 100
  | 11 => ∃ l : List UInt8, v = .string ⟨(frameB l).toArray⟩ ∧ l.length ≤ 100
  | 12 => v = .bool true
  | 13 => ∃ l : List UInt8, v = .string ⟨(frameB l).toArray⟩ ∧ l.length ≤ 100
  | _ => True

theorem block_grown {W W' : World} {g b : Nat} {o : Obj} (h : W.heap[b]? = some o) (hg : W.grownBy W' (some g)) (hne : b ≠ g) : W'.heap[b]? = some o := by
  have hlt : b < W.heap.size := by
    rcases Nat.lt_or_ge b W.heap.size with h1 | h1
    · exact h1
    · rw [Array.getElem?_eq_none h1] at h; cases h
  exact (hg.block b hlt (fun e => hne (Option.some.inj e))).trans h

theorem phi5_kept (g : Nat) (W W' : World) (h : W.grownBy W' (some g)) (i : Nat) (v : Value) (hp : phi5 g i v W) : phi5 g i v W' := by
  unfold phi5 at *
  split at hp
  case h_1 => obtain ⟨b, e, hne, hh⟩ := hp; exact ⟨b, e, hne, block_grown hh h hne⟩
  case h_5 => obtain ⟨b, e, hne, hh⟩ := hp; exact ⟨b, e, hne, hh.grown h hne⟩
  case h_8 => obtain ⟨b, x, e, hne, hx, hh⟩ := hp; exact ⟨b, x, e, hne, hx, hh.grown h hne⟩
  all_goals exact hp

/-- What each operation of the second drawn region has yielded: a byte of s is drawn anew at z. -/
def phi11 (g z : Nat) (s : List UInt8) (i : Nat) (v : Value) (W : World) : Prop :=
  match i with
  | 0 => v = .string ⟨s.toArray⟩
  | 1 => v = .int .i64 (z : Int)
  | 2 => v = .string ⟨(s.take z).toArray⟩
  | 3 => v = .pointer (some ⟨g, 0, none⟩)
  | 4 => ∃ y : Nat, v = .int .i64 (y : Int) ∧ y < 256
  | 5 => ∃ y : Nat, v = .int .u8 (y : Int) ∧ y < 256
  | 6 => ∃ b, ∃ y : Nat, v = .slice (some ⟨b, 0, none⟩) 1 1 ∧ b ≠ g ∧ W.heap[b]? = some (.cells #[.int .u8 (y : Int)] 5 (0, 0)) ∧ y < 256
  | 7 => ∃ l : List UInt8, v = .string ⟨l.toArray⟩ ∧ l.length = 1
  | 8 => ∃ l : List UInt8, v = .string ⟨l.toArray⟩ ∧ l.length = z + 1
  | 9 => v = .string ⟨s.toArray⟩
  | 10 => v = .int .i64 (z : Int)
  | 11 => v = .int .i64 ((z : Int) + 1)
  | 12 => v = .string ⟨(s.drop (z + 1)).toArray⟩
  | 13 => ∃ l : List UInt8, v = .string ⟨l.toArray⟩ ∧ l.length = s.length
  | 14 => ∃ l : List UInt8, v = .string ⟨l.toArray⟩ ∧ l.length = s.length
  | _ => True
theorem phi11_kept (g z : Nat) (s : List UInt8) (W W' : World) (h : W.grownBy W' (some g)) (i : Nat) (v : Value) (hp : phi11 g z s i v W) : phi11 g z s i v W' := by
  unfold phi11 at *
  split at hp
  case h_7 => obtain ⟨b, y, e, hne, hh, hy⟩ := hp; exact ⟨b, y, e, hne, block_grown hh h hne, hy⟩
  all_goals exact hp

theorem text7 (W : World) (l2 l3 : List UInt8) (h2 : l2.length ≤ 100) (h3 : l3.length ≤ 100) :
    TextRow (W.alloc (.cells #[.string ⟨#[]⟩, .string ⟨#[104, 105]⟩, .string ⟨#[97, 126, 98]⟩, .string ⟨#[126]⟩, .string ⟨#[126, 2, 3]⟩, .string ⟨l2.toArray⟩, .string ⟨l3.toArray⟩] 9)) W.heap.size 7 100 := by
  refine ⟨_, heap_alloc_new W _, fun j hj => ?_⟩
  match j, hj with
  | 0, _ => exact ⟨[], rfl, by simp⟩
  | 1, _ => exact ⟨[104, 105], rfl, by simp⟩
  | 2, _ => exact ⟨[97, 126, 98], rfl, by simp⟩
  | 3, _ => exact ⟨[126], rfl, by simp⟩
  | 4, _ => exact ⟨[126, 2, 3], rfl, by simp⟩
  | 5, _ => exact ⟨l2, rfl, h2⟩
  | 6, _ => exact ⟨l3, rfl, h3⟩

set_option maxHeartbeats 1000000 in
theorem l91Stream_any (g p : Nat) (w : World) (h : Rdr w g p) (hp : p ≤ 1000000) :
    Calls Try.prog 43 #[.pointer (some ⟨g, 0, none⟩)] w fun e w' => ∃ (l : List UInt8) (q : Nat), e = .returned (.string ⟨l.toArray⟩) ∧ l.length ≤ 480 ∧ q ≤ p + 20 ∧ Rdr w' g q ∧ w.grownBy w' (some g) := by
  have Hk := Lib.hid (phi5_kept g)
  go_enter Try.func43, Try.ntmps43
  go_wp2_with fail
  refine (pick_any g p 5 _ h (by omega) (by omega) (by omega)).mono ?_
  rintro e w1 ⟨x, rfl, hx1, hx0, hR1, hg1⟩
  have HR1 := Lib.hid hR1
  clear hR1 h
  go_wp2_with fail
  go_loopw [3, 4] (fun o k wr => ∃ (out : List UInt8) (x q : Nat), o = .string ⟨out.toArray⟩ ∧ k = .int .i64 x ∧ x ≤ 4 ∧ out.length + 120 * x ≤ 480 ∧ q + 4 * x ≤ p + 17 ∧ Rdr wr g q ∧ w.grownBy wr (some g)) (fun _ k _ => (intOf k).toNat)
  case atStart => exact ⟨[], x, p + 1, rfl, rfl, by omega, by simp; omega, by omega, HR1.out, hg1⟩
  case round =>
    obtain ⟨out, x, q, rfl, rfl, hx4, hlen, hq, hR, hg⟩ := hrel
    have HR := Lib.hid hR
    clear hR
    by_cases hx : 0 < x
    · go_wp2_with fail
      refine wp_region_slots [15, 16, 17, 18, 19, 20, 21, 22, 23, 24, 14, 25, 26, 5, 6] (by kernel_rfl) (by kernel_rfl) (by kernel_rfl) (fun u => by dsimp only [frameOf, setMany, List.set])
        (phi5 g) (fun L W => Rdr W g (if L 6 = true then q + 1 else q) ∧ wr.grownBy W (some g)) (fun W W' => W.grownBy W' (some g)) Hk.out ⟨by simpa using HR.out.drew, grown_drew (World.grownBy.refl _ _)⟩ ?_ ?_
      · repeat (first | exact Steps.nil | (refine Steps.cons ?_ ?_; rotate_left))
        all_goals
          rintro L u W hL hpre ⟨hR2, hG2⟩ K hK
          first | (simp [Region.binds, phi5] at hpre; done) | simp [Region.binds, phi5] at hpre | clear hpre
        · have hgl := hR2.lt
          go_simp
          exact hK _ _ _ ⟨W.heap.size, rfl, by omega, heap_alloc_new W _⟩ (World.grownBy_alloc W _ _) ⟨hR2.alloc _, grown_trans' hG2 (World.grownBy_alloc W _ _)⟩ rfl
        · obtain ⟨_, b, hu, hne, hh⟩ := hpre
          have hcv := conv_three W b 3 (by simp [World.cell?, hh]) (by simp [World.cell?, hh]) (by simp [World.cell?, hh])
          go_simp
          exact hK _ _ _ rfl (World.grownBy.refl _ _) ⟨hR2, hG2⟩ (by simp [Act.put, hu])
        · go_simp
          refine (l6Many_any [120] 100 W (by simp) (by omega)).mono ?_
          rintro e w' ⟨⟨l, rfl, hl⟩, rfl⟩
          exact hK _ _ _ ⟨l, rfl, by simp at hl; omega⟩ (World.grownBy.refl _ _) ⟨hR2, hG2⟩ rfl
        · go_simp
          refine (l6Many_any [97, 98] 30 W (by simp) (by omega)).mono ?_
          rintro e w' ⟨⟨l, rfl, hl⟩, rfl⟩
          exact hK _ _ _ ⟨l, rfl, by simp at hl; omega⟩ (World.grownBy.refl _ _) ⟨hR2, hG2⟩ rfl
        · have hgl := hR2.lt
          obtain ⟨⟨_, e1⟩, ⟨_, l2, e2, h2⟩, _, l3, e3, h3⟩ := hpre
          go_simp
          exact hK _ _ _ ⟨W.heap.size, rfl, by omega, text7 W l2 l3 h2 h3⟩ (World.grownBy_alloc W _ _) ⟨hR2.alloc _, grown_trans' hG2 (World.grownBy_alloc W _ _)⟩ (by simp [Act.put, e1, e2, e3])
        · go_simp
          exact hK _ _ _ rfl (World.grownBy.refl _ _) ⟨hR2, hG2⟩ rfl
        · obtain ⟨⟨_, e5⟩, _⟩ := hpre
          go_simp
          have hR3 : Rdr W g q := by simpa [hL] using hR2
          refine (pick_any g q 7 W hR3 (by omega) (by omega) (by omega)).mono ?_
          rintro e w' ⟨y, rfl, hy1, _, hRy, hgy⟩
          exact hK _ _ _ ⟨y, rfl, by omega⟩ hgy ⟨by simpa using hRy, grown_trans' hG2 hgy⟩ (by simp [Act.put, e5])
        · obtain ⟨⟨_, b, e1, hne, hT⟩, _, y, e2, hy⟩ := hpre
          have i1 : (0 : Int) ≤ (y : Int) := by omega
          have i2 : (y : Int) < 7 := by omega
          go_simp
          exact hK _ _ _ ⟨b, y, rfl, hne, hy, hT⟩ (World.grownBy.refl _ _) ⟨hR2, hG2⟩ (by simp [Act.put, e1, e2])
        · obtain ⟨_, b, y, e1, hne, hy, hT⟩ := hpre
          obtain ⟨l, hc, hl⟩ := hT.cell hy
          go_simp
          exact hK _ _ _ ⟨l, rfl, hl⟩ (World.grownBy.refl _ _) ⟨hR2, hG2⟩ (by simp [Act.put, e1])
        · obtain ⟨⟨_, l, e1, hl⟩, _⟩ := hpre
          go_simp
          refine (specFramePut_any l W hl).mono ?_
          rintro e w' ⟨rfl, hb⟩
          exact hK _ _ _ ⟨l, rfl, hl⟩ (only_of_below hb _) ⟨hR2.below hb, grown_trans' hG2 (only_of_below hb _)⟩ (by simp [Act.put, e1])
        · obtain ⟨_, l, e1, hl⟩ := hpre
          go_simp
          exact hK _ _ _ ⟨l, rfl, hl⟩ (World.grownBy.refl _ _) ⟨hR2, hG2⟩ (by simp [Act.put, e1])
        · obtain ⟨_, l, e1, hl⟩ := hpre
          go_simp
          exact hK _ _ _ ⟨l, rfl, hl⟩ (World.grownBy.refl _ _) ⟨hR2, hG2⟩ (by simp [Act.put, e1])
        · obtain ⟨_, l, e1, hl⟩ := hpre
          go_simp
          exact hK _ _ _ rfl (World.grownBy.refl _ _) ⟨hR2, hG2⟩ (by simp [Act.put, e1])
        · obtain ⟨⟨_, l, e1, hl⟩, hrest⟩ := hpre
          go_simp
          exact hK _ _ _ ⟨l, rfl, hl⟩ (World.grownBy.refl _ _) ⟨hR2, hG2⟩ (by simp [Act.put, e1, hrest])
        · obtain ⟨⟨_, e1⟩, hrest⟩ := hpre
          go_simp
          exact hK (.bool true) _ _ trivial (World.grownBy.refl _ _) ⟨hR2, hG2⟩ (by simp [Act.put, e1, hrest])
      · rintro L u W hL hφ ⟨hR2, hG2⟩
        have h6 : L 6 = true := hL 6 (by decide)
        have c13 := hφ 13 (by decide)
        simp only [h6, if_true] at hR2
        obtain ⟨l, e13, hl⟩ := c13
        clear hφ hL
        simp only [e13]
        have hfl := frameB_le l
        have hfp := frameB_pos l
        generalize frameB l = s at hfl hfp
        have HR2 := Lib.hid hR2
        have HG2 := Lib.hid (grown_trans' hg hG2)
        clear hR2 hG2 hg
        go_wp2_with fail
        refine (pick_any g (q + 1) 6 W HR2.out (by omega) (by omega) (by omega)).mono ?_
        rintro e w2 ⟨y, rfl, hy1, _, hRy, hgy⟩
        have HR3 := Lib.hid hRy
        have HG3 := Lib.hid (grown_trans' HG2.out hgy)
        clear hRy hgy
        rcases (show y = 0 ∨ y = 1 ∨ y = 2 ∨ 3 ≤ y by omega) with rfl | rfl | rfl | hy3
        · go_wp2_with fail
          refine (pick_any g (q + 2) _ w2 HR3.out (by omega) (by omega) (by omega)).mono ?_
          rintro e w3 ⟨z, rfl, hz1, _, hRz, hgz⟩
          have hz2 : z ≤ s.length := by omega
          have HR4 := Lib.hid hRz
          have HG4 := Lib.hid (grown_trans' HG3.out hgz)
          clear hRz hgz
          go_wp2_with fail
          go_roundw
          case rel => exact ⟨out ++ s.take z, x - 1, q + 3, by simp, by go_num, by omega, by simp; omega, by omega, HR4.out, HG4.out⟩
          case measure => simp [intOf]; omega
        · go_wp2_with fail
          refine (pick_any g (q + 2) _ w2 HR3.out (by omega) (by omega) (by omega)).mono ?_
          rintro e w3 ⟨z, rfl, hz1, _, hRz, hgz⟩
          have hz2 : z < s.length := by omega
          have HR4 := Lib.hid hRz
          have HG4 := Lib.hid (grown_trans' HG3.out hgz)
          clear hRz hgz
          have Hk2 := Lib.hid (phi11_kept g z s)
          have a1 : IntKind.i64.wrap ((z : Int) + 1) = (z : Int) + 1 := IntWalk.i64_in _ (by omega)
          have a2 : ((z : Int) + 1).toNat = z + 1 := by omega
          have a3 : (0 : Int) ≤ (z : Int) + 1 := by omega
          have a4 : (z : Int) + 1 ≤ (s.length : Int) := by omega
          have a5 : (z : Int) ≤ (s.length : Int) := by omega
          have a6 : (0 : Int) ≤ (z : Int) := by omega
          go_wp2_with fail
          refine wp_region_slots2 [44, 45, 46, 47, 48, 49, 50, 51, 52, 53, 54, 55, 56, 57, 5] (by kernel_rfl) (by kernel_rfl) (by kernel_rfl) (fun u => by dsimp only [frameOf, setMany, List.set])
            (phi11 g z s) (fun L W => Rdr W g (if L 4 = true then q + 4 else q + 3) ∧ w3.grownBy W (some g)) (fun W W' => W.grownBy W' (some g)) Hk2.out ⟨by simpa using HR4.out.drew, grown_drew (World.grownBy.refl _ _)⟩ ?_ ?_
          · repeat (first | exact Steps.nil | (refine Steps.cons ?_ ?_; rotate_left))
            all_goals
              rintro L u W hL hpre ⟨hR2, hG2⟩ hinit hdown K hK
              first | (simp [Region.binds, phi11] at hpre; done) | simp [Region.binds, phi11] at hpre | clear hpre
            · have e14 : u 14 = .string ⟨s.toArray⟩ := hinit 14 (hdown 14 _ rfl ⟨0, .phase⟩ (by simp) rfl hL)
              clear hinit hdown
              go_simp
              exact hK _ _ _ rfl (World.grownBy.refl _ _) ⟨hR2, hG2⟩ (by simp [Act.put, e14])
            · clear hinit hdown
              go_simp
              exact hK _ _ _ rfl (World.grownBy.refl _ _) ⟨hR2, hG2⟩ rfl
            · clear hinit hdown
              obtain ⟨⟨_, e1⟩, _, e2⟩ := hpre
              go_simp
              exact hK _ _ _ rfl (World.grownBy.refl _ _) ⟨hR2, hG2⟩ (by simp [Act.put, e1, e2])
            · go_simp
              exact hK _ _ _ rfl (World.grownBy.refl _ _) ⟨hR2, hG2⟩ rfl
            · clear hinit hdown
              have e5 := hpre.2
              go_simp
              have hR3 : Rdr W g (q + 3) := by simpa [hL] using hR2
              refine (pick_any g (q + 3) 256 W hR3 (by omega) (by omega) (by omega)).mono ?_
              rintro e w' ⟨y, rfl, hy1, _, hRy, hgy⟩
              exact hK _ _ _ ⟨y, rfl, by omega⟩ hgy ⟨by simpa using hRy, grown_trans' hG2 hgy⟩ (by simp [Act.put, e5])
            · clear hinit hdown
              obtain ⟨_, y, e1, hy⟩ := hpre
              have b1 : IntKind.u8.wrap (y : Int) = (y : Int) := IntWalk.u8_in _ (by omega)
              go_simp
              exact hK _ _ _ ⟨y, rfl, hy⟩ (World.grownBy.refl _ _) ⟨hR2, hG2⟩ (by simp [Act.put, e1])
            · clear hinit hdown
              have hgl := hR2.lt
              obtain ⟨_, y, e1, hy⟩ := hpre
              go_simp
              exact hK _ _ _ ⟨W.heap.size, y, rfl, by omega, heap_alloc_new W _, hy⟩ (World.grownBy_alloc W _ _) ⟨hR2.alloc _, grown_trans' hG2 (World.grownBy_alloc W _ _)⟩ (by simp [Act.put, e1])
            · clear hinit hdown
              obtain ⟨_, b, e1, hne, y, hh, hy⟩ := hpre
              have hcv := Try.conv1 W b 1 (byteOf y)
              rw [byteOf_toNat hy] at hcv
              have hcv2 := hcv (by simp [World.cell?, hh])
              clear hcv
              go_simp
              exact hK _ _ _ ⟨[byteOf y], rfl, rfl⟩ (World.grownBy.refl _ _) ⟨hR2, hG2⟩ (by simp [Act.put, e1])
            · clear hinit hdown
              obtain ⟨⟨_, e1⟩, _, l, e2, hl⟩ := hpre
              go_simp
              rw [if_neg (by omega)]
              go_simp
              exact hK _ _ _ ⟨s.take z ++ l, rfl, by simp; omega⟩ (World.grownBy.refl _ _) ⟨hR2, hG2⟩ (by simp [Act.put, e1, e2])
            · have e14 : u 14 = .string ⟨s.toArray⟩ := hinit 14 (hdown 14 _ rfl ⟨9, .phase⟩ (by simp) rfl hL)
              clear hinit hdown
              go_simp
              exact hK _ _ _ rfl (World.grownBy.refl _ _) ⟨hR2, hG2⟩ (by simp [Act.put, e14])
            · clear hinit hdown
              go_simp
              exact hK _ _ _ rfl (World.grownBy.refl _ _) ⟨hR2, hG2⟩ rfl
            · clear hinit hdown
              have e1 := hpre.2
              go_simp
              exact hK _ _ _ rfl (World.grownBy.refl _ _) ⟨hR2, hG2⟩ (by simp [Act.put, e1])
            · clear hinit hdown
              obtain ⟨⟨_, e1⟩, _, e2⟩ := hpre
              go_simp
              exact hK _ _ _ rfl (World.grownBy.refl _ _) ⟨hR2, hG2⟩ (by simp [Act.put, e1, e2])
            · clear hinit hdown
              obtain ⟨⟨_, l, e1, hl⟩, _, e2⟩ := hpre
              go_simp
              rw [if_neg (by omega)]
              go_simp
              exact hK _ _ _ ⟨l ++ s.drop (z + 1), rfl, by simp; omega⟩ (World.grownBy.refl _ _) ⟨hR2, hG2⟩ (by simp [Act.put, e1, e2])
            · clear hinit hdown
              obtain ⟨⟨_, l, e1, hl⟩, hrest⟩ := hpre
              go_simp
              exact hK _ _ _ ⟨l, rfl, hl⟩ (World.grownBy.refl _ _) ⟨hR2, hG2⟩ (by simp [Act.put, e1, hrest])
          · rintro L u W hL hφ ⟨hR2, hG2⟩
            have h4 : L 4 = true := hL 4 (by decide)
            have c14 := hφ 14 (by decide)
            simp only [h4, if_true] at hR2
            obtain ⟨l, e14, hl⟩ := c14
            clear hφ hL
            simp only [e14]
            have HR5 := Lib.hid hR2
            have HG5 := Lib.hid (grown_trans' HG4.out hG2)
            clear hR2 hG2
            go_wp2_with fail
            go_roundw
            case rel => exact ⟨out ++ l, x - 1, q + 4, by simp, by go_num, by omega, by simp; omega, by omega, HR5.out, HG5.out⟩
            case measure => simp [intOf]; omega
        · go_wp2_with fail
          go_roundw
          case rel => exact ⟨out ++ ([106, 117, 110, 107, 126] ++ s), x - 1, q + 2, by simp, by go_num, by omega, by simp; omega, by omega, HR3.out, HG3.out⟩
          case measure => simp [intOf]; omega
        · have t0 : ((y : Int) == 0) = false := by simp; omega
          have t1 : ((y : Int) == 1) = false := by simp; omega
          have t2 : ((y : Int) == 2) = false := by simp; omega
          go_wp2_with fail
          go_roundw
          case rel => exact ⟨out ++ s, x - 1, q + 2, by simp, by go_num, by omega, by simp; omega, by omega, HR3.out, HG3.out⟩
          case measure => simp [intOf]; omega
    · obtain rfl : x = 0 := by omega
      go_wp2_with fail
      go_ret
      exact ⟨out, q, rfl, by omega, by omega, HR.out, hg⟩
end Go.Proofs.Ytjbpjpakcpjheaa
