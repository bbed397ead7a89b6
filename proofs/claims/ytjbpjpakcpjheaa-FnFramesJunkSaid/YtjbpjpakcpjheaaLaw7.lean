/- The walks of the laws FnFramesJunk and FnFramesAhead. -/
import Derived.Test.YtjbpjpakcpjheaaLaw6
namespace Go.Proofs.Ytjbpjpakcpjheaa
open Go.RowKit
set_option maxRecDepth 100000
set_option linter.unusedVariables false
attribute [local go_sem] ba_get ba_toList ba_extract take_drop_all ByteArray.mk_append_mk

theorem framesB_len : ∀ ls : List (List UInt8), (framesB ls).length = lensB ls
  | [] => rfl
  | b :: ls => by rw [framesB_cons, List.length_append, framesB_len ls, lensB_cons]
theorem lensB_take (ls : List (List UInt8)) (k : Nat) : lensB (ls.take k) ≤ lensB ls := by
  have e := lensB_append (ls.take k) (ls.drop k)
  rw [List.take_append_drop] at e
  omega
/-- The junk of at most four bytes. -/
def junkB (p : Nat) : List UInt8 := ([106, 117, 110, 107, 106, 117, 110, 107] : List UInt8).take p
theorem junkB_no (p : Nat) : ∀ c ∈ junkB p, c.toNat ≠ 126 := by
  intro c hc
  have := List.mem_of_mem_take hc
  simp at this
  rcases this with rfl | rfl | rfl | rfl | rfl | rfl | rfl | rfl <;> decide
theorem junkB_len (p : Nat) (h : p ≤ 8) : (junkB p).length = p := by simp [junkB]; omega

set_option maxHeartbeats 2000000 in
theorem FnFramesJunk_walk (w : World) (A : Option Addr) (n c : Nat) (l : List UInt8) (h : RowAt w A n (bcells l)) (hc : n ≤ c) (hcm : c ≤ maxLen)
    (B : Option Addr) (m d : Nat) (l2 : List UInt8) (h2 : RowAt w B m (bcells l2)) (hd : m ≤ d) (hdm : d ≤ maxLen) :
    Calls Try.prog 8 #[.slice A n c, .slice B m d] w fun e w' => e = .returned (.bool true) ∧ Below w.heap.size w w' := by
  clear h2
  by_cases hn : n ≤ 1048576
  · by_cases hm : m ≤ 1048576
    · go_enter Try.func8, Try.ntmps8
      go_wp2_with fail
      refine (DrawFramesPut_any A n c l w h hc hcm).mono ?_
      rintro e w1 ⟨v, ls, rfl, ho1, hls, hb1⟩
      have Ho1 := Lib.hid ho1
      have Hb1 := Lib.hid hb1
      clear ho1 hb1 h
      have hr : fpR ls = ([], false) ∨ ∃ f, fpR ls = (f, true) ∧ f.length = lensB ls ∧ (∀ b ∈ ls, b.length ≤ 100) ∧ f.length ≤ 2000 := by
        rcases hf : fpF ls [] with _ | f
        · exact .inl (by unfold fpR; rw [hf])
        · obtain ⟨e1, e2, e3⟩ := fpF_some ls [] f hf
          simp at e1
          exact .inr ⟨f, by unfold fpR; rw [hf], by rw [e1, framesB_len], e2, e3 (by simp)⟩
      have Hi := Lib.hid (fun W u m b1 => implPut_own b1 m u ls W)
      have Hs := Lib.hid (fun W u m b1 => specPut_own b1 m u ls W)
      rcases hr with hr | ⟨f, hr, hfl, h100, hf2⟩
      · rw [hr] at Hi Hs
        clear hr
        go_wp2_with fail
        refine (Hi.out _ _ _ _ Ho1.out).mono ?_
        rintro e w2 ⟨rfl, hb2⟩
        have Ho2 := Lib.hid (ownsRow_below Ho1.out hb2)
        have Hb2 := Lib.hid (Hb1.out.trans (hb2.mono Hb1.out.size))
        clear hb2
        go_wp2_with fail
        refine (Hs.out _ _ _ _ Ho2.out).mono ?_
        rintro e w3 ⟨rfl, hb3⟩
        have Hb3 := Lib.hid (Hb2.out.trans (hb3.mono Hb2.out.size))
        clear hb3
        go_wp2_with fail
        go_ret
        exact ⟨rfl, Hb3.out⟩
      · rw [hr] at Hi Hs
        have Hfl := Lib.hid hfl
        have H100 := Lib.hid h100
        clear hr hfl h100
        by_cases hf15 : f.length ≤ 1500
        · go_wp2_with fail
          refine (Hi.out _ _ _ _ Ho1.out).mono ?_
          rintro e w2 ⟨rfl, hb2⟩
          have Ho2 := Lib.hid (ownsRow_below Ho1.out hb2)
          have Hb2 := Lib.hid (Hb1.out.trans (hb2.mono Hb1.out.size))
          clear hb2
          go_wp2_with fail
          refine (Hs.out _ _ _ _ Ho2.out).mono ?_
          rintro e w3 ⟨rfl, hb3⟩
          have Ho3 := Lib.hid (ownsRow_below Ho2.out hb3)
          have Hb3 := Lib.hid (Hb2.out.trans (hb3.mono Hb2.out.size))
          obtain ⟨D, dc, hv, hrow⟩ := RowAt.own Ho3.out
          subst hv
          have Hrow := Lib.hid hrow
          clear hb3 hrow
          go_wp2_with fail
          go_loopw [10, 11, 12] (fun y x i wr => ∃ (k j : Nat) (t : List UInt8), i = .int .i64 k ∧ k ≤ ls.length ∧ x = .string ⟨t.toArray⟩ ∧ y = .int .i64 j ∧ j ≤ 4 * k ∧ t.length ≤ 4 * k + lensB (ls.take k) ∧
              Hid (∀ z, getL (t ++ z) = (ls.take k ++ (getL z).1, (getL z).2.1 + j, (getL z).2.2)) ∧ Hid (Below w3.heap.size w3 wr)) (fun _ _ i _ => ls.length - (intOf i).toNat)
          case atStart => exact ⟨0, 0, [], rfl, Nat.zero_le _, rfl, rfl, by omega, by simp, (fun z => rfl), Below.refl _ _⟩
          case round =>
            obtain ⟨k, j, t, rfl, hk, rfl, rfl, hj, ht, hinv, hbk⟩ := hrel
            have hle := lensB_take ls k
            have hfl := Hfl.out
            have ht2 : t.length ≤ 1520 := by omega
            by_cases hlt : k < ls.length
            · obtain ⟨b, o, rfl, hbl, hcell⟩ := (Hrow.out.below hbk.out).at_ hlt
              have hx : wr.cell? ⟨b, o + k, none⟩ = some (.string ⟨(ls[k]).toArray⟩) := by rw [hcell]; simp [scells]
              have h1 : (ls[k]).length ≤ 100 := H100.out _ (List.getElem_mem hlt)
              have Hts := Lib.hid (take_snoc ls k hlt)
              generalize ls[k] = s at hx h1 Hts
              have hp : (m + k) % 5 < 5 := Nat.mod_lt _ (by omega)
              have hpk : ((m : Int) + (k : Int)) % 5 = (((m + k) % 5 : Nat) : Int) := by omega
              generalize (m + k) % 5 = p at hp hpk
              have p1 : (0 : Int) ≤ ((m : Int) + (k : Int)) % 5 := by omega
              have p2 : ((m : Int) + (k : Int)) % 5 ≤ 8 := by omega
              have p3 : (((m : Int) + (k : Int)) % 5).toNat = p := by omega
              have Hpk := Lib.hid hpk
              clear hpk
              have Hj := Lib.hid (junkB_len p (by omega))
              have Hjn := Lib.hid (junkB_no p)
              have Hfb := Lib.hid (frameB_le s)
              clear hcell hfl hle
              go_wp2_with fail
              refine (implFramePut_any s _ h1).mono ?_
              rintro e w5 ⟨rfl, hb5⟩
              have Hb5 := Lib.hid (hbk.out.trans (hb5.mono hbk.out.size))
              have hjb : (⟨#[106, 117, 110, 107, 106, 117, 110, 107]⟩ : ByteArray).extract 0 p = ⟨(junkB p).toArray⟩ := by
                have := ba_extract [106, 117, 110, 107, 106, 117, 110, 107] 0 p
                rw [List.drop_zero, Nat.sub_zero] at this
                exact this
              clear hb5
              have hjl : (junkB p).length ≤ 8 := by have := Hj.out; omega
              have hfb := Hfb.out
              go_wp2_with fail
              go_roundw
              case rel =>
                refine ⟨k + 1, j + p, t ++ (junkB p ++ frameB s), by go_num, by omega, ?_, (by have := Hpk.out; exact vint (by omega)), by omega, ?_, ?_, Hb5.out⟩
                · first | rfl | (simp [hjb]; done) | (simp [junkB]; done)
                · rw [Hts.out, lensB_snoc, List.length_append, List.length_append, Hj.out]; omega
                · intro z
                  rw [List.append_assoc, List.append_assoc, hinv.out, getL_others _ _ Hjn.out, getL_frameB _ _ h1, Hts.out, Hj.out]
                  simp; omega
              case measure => simp [intOf]; omega
            · obtain rfl : k = ls.length := by omega
              have e1 : ls.take ls.length = ls := List.take_length
              have e2 := hinv.out []
              rw [List.append_nil, e1, getL_nil] at e2
              simp at e2
              have hR : getR t = (ls, j, [], true) := by unfold getR; rw [if_pos (by rw [e1] at ht; omega), e2]
              have Hg := Lib.hid (fun W => implGet_post t W)
              rw [hR] at Hg
              clear hR e1 e2 hfl hle
              go_wp2_with fail
              refine (Hg.out _).mono ?_
              rintro e w5 ⟨u, rfl, own5, hb5⟩
              have hb35 := hbk.out.trans (hb5.mono hbk.out.size)
              have Ho5 := Lib.hid own5
              have Ho6 := Lib.hid (ownsRow_below Ho3.out hb35)
              have Hb5 := Lib.hid (Hb3.out.trans (hb35.mono Hb3.out.size))
              clear hb35 own5 hb5
              go_wp2_with fail
              refine (wf_own _ _ _ _ _ _ ls ls _ Ho5.out Ho6.out).mono ?_
              rintro e w6 ⟨rfl, q, rfl⟩
              go_wp2_with fail
              go_ret
              exact ⟨rfl, below_drewN Hb5.out q⟩
        · go_wp2_with fail
          refine (Hi.out _ _ _ _ Ho1.out).mono ?_
          rintro e w2 ⟨rfl, hb2⟩
          have Ho2 := Lib.hid (ownsRow_below Ho1.out hb2)
          have Hb2 := Lib.hid (Hb1.out.trans (hb2.mono Hb1.out.size))
          clear hb2
          go_wp2_with fail
          refine (Hs.out _ _ _ _ Ho2.out).mono ?_
          rintro e w3 ⟨rfl, hb3⟩
          have Hb3 := Lib.hid (Hb2.out.trans (hb3.mono Hb2.out.size))
          clear hb3
          go_wp2_with fail
          go_ret
          exact ⟨rfl, Hb3.out⟩
    · clear h
      go_enter Try.func8, Try.ntmps8
      go_wp2_with fail
      go_ret
      exact ⟨rfl, Below.refl _ _⟩
  · clear h
    go_enter Try.func8, Try.ntmps8
    go_wp2_with fail
    go_ret
    exact ⟨rfl, Below.refl _ _⟩
end Go.Proofs.Ytjbpjpakcpjheaa
