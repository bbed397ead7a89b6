/- Texts joined: IType2, IHas, IEnds, AppW, ISchema. Conditions: as each theorem names them. -/
import Derived.Laws.Append
import Derived.Test.YtdhinlhafoiaiaaGreatDoorK01
import Derived.Test.YtdhinlhafoiaiaaGreatDoorK09
import Derived.Test.YtdhinlhafoiaiaaGreatDoorK14
/- readType of the program: a line with fields. -/
namespace Go.Proofs.YtdhinlhafoiaiaaGreatDoor
open Go.RowKit
set_option maxRecDepth 100000
set_option linter.unusedVariables false
set_option linter.unusedSimpArgs false
attribute [local go_sem] ba_get ba_toList ba_extract take_drop_all ByteArray.mk_append_mk

set_option maxHeartbeats 2000000 in
theorem iType_full (c : UInt8) (r nm rest : List UInt8) (w : World) (hs : r.length ≤ 3999999) (hc : sortOk c) (h : cutL 61 r = (nm, rest, true)) (hn : nameOk nm = true) (hr : rest ≠ []) :
    Calls Tryz.prog 113 #[.string ⟨(c :: r).toArray⟩] w (ItPost (typeI (c :: r)) w) := by
  have HF := Lib.hid (typeI_fields hc h hn hr)
  have Hc := Lib.hid (fun W => (show Calls Tryz.prog 150 #[.string ⟨#[82, 85, 69]⟩, .string ⟨#[c]⟩] W fun e w' => e = .returned (.bool true) ∧ W = w' from by
    have := Contains_any [82, 85, 69] c W
    rw [sort_mem, decide_eq_true hc] at this
    exact this))
  have Hcut := Lib.hid (fun W => Cut_any r 61 W (by omega))
  have hcl := cutL_len 61 r
  have Hcut2 := Lib.hid h
  rw [h] at Hcut hcl
  simp only at hcl
  have hcl1 := hcl.1
  have hcl2 := hcl.2
  have Hname := Lib.hid (fun W => isName_any nm W (by omega))
  rw [hn] at Hname
  have Hsp := Lib.hid (fun W => Split_any rest 44 W (by omega))
  have hne := splitL_ne 44 rest
  have Hpl := Lib.hid (splitL_plen 44 rest)
  have Hln := Lib.hid (splitL_len 44 rest)
  generalize splitL 44 rest = ps at HF Hsp hne Hpl Hln
  have Hcs := Lib.hid hc
  have hpsl : ps.length ≤ 4000000 := by have := Hln.out; omega
  have hr1 : rest.isEmpty = false := by simpa using hr
  have hr2 : (rest == []) = false := by simpa using hr
  clear h hn hr hc hcl
  go_enter Tryz.func113, Tryz.ntmps113
  go_wp2_with fail
  refine (Hc.out _).mono ?_
  rintro e w' ⟨rfl, rfl⟩
  go_wp2_with fail
  refine (Hcut.out _).mono ?_
  rintro e w1 ⟨rfl, k1, rfl⟩
  unfold cutV
  go_wp2_with fail
  refine (Hname.out _).mono ?_
  rintro e w2 ⟨rfl, hb2⟩
  have Hb2 := Lib.hid (show Below w.heap.size w w2 from (below_drewN (Below.refl _ _) k1).trans (by simpa using hb2))
  have hz2 := Hb2.out.size
  clear hb2
  go_wp2_with fail
  refine (Hsp.out _).mono ?_
  rintro e w3 ⟨v, rfl, ho, hb3⟩
  obtain ⟨g, cg, rfl, hg1, hg2, hcells⟩ := own_texts ho hne
  have hg1' : w2.heap.size + 1 ≤ g := by simpa using hg1
  have hz3 : w2.heap.size < w3.heap.size := by omega
  have HT0 := Lib.hid (show w3.rangeAt w2.heap.size 0 [.int .u8 (c.toNat : Int), .string ⟨nm.toArray⟩, .slice none 0 0, .string ⟨(c :: r).toArray⟩] from rangeAt_below (rangeAt_new w2 _ _) (by simp) hb3)
  have HK0 := Lib.hid (show w3.there w2.heap.size 0 4 from there_below (there_new w2 [.int .u8 (c.toNat : Int), .string ⟨nm.toArray⟩, .slice none 0 0, .string ⟨(c :: r).toArray⟩] _) (by simp) hb3)
  have HB0 := Lib.hid (show Blk w3 w2.heap.size from (Blk.new w2 _ _).belowAt (by simp) hb3)
  have Hb3 := Lib.hid (show Below w.heap.size w w3 from (Hb2.out.alloc Hb2.out.size _).trans (hb3.mono (by simp; omega)))
  have Hcells := Lib.hid (show ∀ j (hj : j < ps.length), w3.cell? ⟨g, j, none⟩ = some (.string ⟨ps[j].toArray⟩) from hcells)
  have Hown0 := Lib.hid (World.ownsRow_nil w3 w3.heap.size 94 6)
  clear ho hb3 hcells hg1 hne
  go_wp2_with fail
  go_loopw [53] (fun i wr => ∃ (k : Nat) (acc : List Fd) (fv : Value), i = .int .i64 k ∧ k ≤ ps.length ∧ acc.length ≤ 8 ∧ Hid (typeI (c :: r) = finP c nm (fieldsI c (ps.drop k) acc)) ∧
      Hid (wr.ownsRow w3.heap.size 94 6 fv acc.length (acc.flatMap ifc)) ∧ Hid (Below w.heap.size w wr) ∧ w3.heap.size ≤ wr.heap.size ∧
      Hid (∀ j (hj : j < ps.length), wr.cell? ⟨g, j, none⟩ = some (.string ⟨ps[j].toArray⟩)) ∧
      Hid (wr.rangeAt w2.heap.size 0 [.int .u8 (c.toNat : Int), .string ⟨nm.toArray⟩, fv, .string ⟨(c :: r).toArray⟩]) ∧ Hid (wr.there w2.heap.size 0 4) ∧ Hid (Blk wr w2.heap.size)) (fun i _ => ps.length - (intOf i).toNat)
  case atStart => exact ⟨0, [], .slice none 0 0, rfl, Nat.zero_le _, by simp, HF.out, Hown0.out, Hb3.out, Nat.le_refl _, Hcells.out, HT0.out, HK0.out, HB0.out⟩
  case round =>
    obtain ⟨wo, rfl⟩ : ∃ wo : World, wo = wr := ⟨_, rfl⟩
    obtain ⟨k, acc, fv, rfl, hk, ha8, hft, hown, hbr, hzr, hpr, hT, hK, hB⟩ := hrel
    have i1 : (0 : Int) ≤ (k : Int) := by omega
    obtain ⟨A, cA, rfl, hrow⟩ := RowAt.ownK hown.out (by unfold maxLen; omega)
    have Hrow := Lib.hid hrow
    have t0 : wo.cell? ⟨w2.heap.size, 0, none⟩ = some (.int .u8 (c.toNat : Int)) := by simpa using rangeAt_cell hT.out 0 rfl
    have t2 : wo.cell? ⟨w2.heap.size, 2, none⟩ = some (.slice A acc.length cA) := by simpa using rangeAt_cell hT.out 2 rfl
    clear hrow
    by_cases hlt : k < ps.length
    · have i2 : (k : Int) < (ps.length : Int) := by omega
      have cell := hpr.out k hlt
      have hft2 := Lib.hid ((fieldsI_step (c := c) (acc := acc) hlt) ▸ hft.out)
      have hplk := Hpl.out _ (List.getElem_mem hlt)
      generalize ps[k] = p at cell hft2 hplk
      have Hread := Lib.hid (fun W => readField_any c Hcs.out p W (by omega))
      generalize fieldI c p = o at hft2 Hread
      go_wp2_with fail
      refine (Hread.out _).mono ?_
      rintro e w4 ⟨hcase, hb4⟩
      have Hb4 := Lib.hid (hbr.out.trans (hb4.mono hbr.out.size))
      cases o with
      | none =>
        obtain ⟨n, a1, a2, a3, a4, a5, rfl⟩ := hcase
        have Hend := Lib.hid (show typeI (c :: r) = none from hft2.out)
        go_wp2_with fail
        go_ret2
        exact ItPost.no Hend.out rfl (Hb4.out.alloc Hb4.out.size _)
      | some f =>
        have hcase' : e = .returned (.tuple #[.agg #[.int .i64 (f.tag : Int), .string ⟨f.name.toArray⟩, .string ⟨f.kind.signs.toArray⟩, .string ⟨f.kind.base.toArray⟩, .string ⟨f.kind.name.toArray⟩, .string ⟨f.given.toArray⟩], .bool true]) := hcase
        subst hcase'
        clear hcase
        have s0 := (hb4.cell (p := ⟨w2.heap.size, 0, none⟩) (show w2.heap.size < wo.heap.size by omega)).trans t0
        have s2 := (hb4.cell (p := ⟨w2.heap.size, 2, none⟩) (show w2.heap.size < wo.heap.size by omega)).trans t2
        have hz4 : wo.heap.size ≤ w4.heap.size := hb4.size
        have hn4 : ¬ (w2.heap.size = w4.heap.size) := by omega
        have hn5 : w2.heap.size < w4.heap.size := by omega
        have Hb4r := Lib.hid hb4
        clear t0 t2 hb4
        have hft3 := Lib.hid (show typeI (c :: r) = finP c nm (if acc.length = 8 ∨ fitsIn acc f = false then none else fieldsI c (ps.drop (k + 1)) (acc ++ [f])) from hft2.out)
        clear hft2
        rcases Nat.eq_or_lt_of_le ha8 with h8 | h8
        · have q1 : ((acc.length : Int) == 8) = true := by simp [h8]
          have Hend := Lib.hid (hft3.out.trans (by rw [if_pos (.inl h8)]))
          clear h8
          go_wp2_with fail
          go_ret2
          exact ItPost.no Hend.out rfl (Hb4.out.alloc Hb4.out.size _)
        · have q1 : ((acc.length : Int) == 8) = false := by rw [beq_eq_false_iff_ne]; omega
          go_wp2_with fail
          have f0 : (w4.alloc (.cells #[.int .i64 (f.tag : Int), .string ⟨f.name.toArray⟩, .string ⟨f.kind.signs.toArray⟩, .string ⟨f.kind.base.toArray⟩, .string ⟨f.kind.name.toArray⟩, .string ⟨f.given.toArray⟩] 94)).cell? ⟨w4.heap.size, 0, none⟩ = some (.int .i64 (f.tag : Int)) := by simp
          have f1 : (w4.alloc (.cells #[.int .i64 (f.tag : Int), .string ⟨f.name.toArray⟩, .string ⟨f.kind.signs.toArray⟩, .string ⟨f.kind.base.toArray⟩, .string ⟨f.kind.name.toArray⟩, .string ⟨f.given.toArray⟩] 94)).cell? ⟨w4.heap.size, 1, none⟩ = some (.string ⟨f.name.toArray⟩) := by simp
          have HR0 := Lib.hid (rangeAt_new w4 [.int .i64 (f.tag : Int), .string ⟨f.name.toArray⟩, .string ⟨f.kind.signs.toArray⟩, .string ⟨f.kind.base.toArray⟩, .string ⟨f.kind.name.toArray⟩, .string ⟨f.given.toArray⟩] 94)
          go_loopw [81] (fun jj wq => ∃ j : Nat, jj = .int .i64 j ∧ j ≤ acc.length ∧ Hid (∀ x ∈ acc.take j, x.name ≠ f.name ∧ x.tag < f.tag) ∧ Hid (Below w4.heap.size w4 wq) ∧ w4.heap.size < wq.heap.size ∧ Hid (wq.rangeAt w4.heap.size 0 [.int .i64 (f.tag : Int), .string ⟨f.name.toArray⟩, .string ⟨f.kind.signs.toArray⟩, .string ⟨f.kind.base.toArray⟩, .string ⟨f.kind.name.toArray⟩, .string ⟨f.given.toArray⟩])) (fun jj _ => acc.length - (intOf jj).toNat)
          case atStart => exact ⟨0, rfl, Nat.zero_le _, by intro x hx; simp at hx, (Below.refl _ _).alloc (Nat.le_refl _) _, by simp, HR0.out⟩
          case round =>
            clear f0 f1
            obtain ⟨j, rfl, hj, hin, hbq, hzq, hfr⟩ := hrel
            have j1 : (0 : Int) ≤ (j : Int) := by omega
            have f0 : wr.cell? ⟨w4.heap.size, 0, none⟩ = some (.int .i64 (f.tag : Int)) := by simpa using rangeAt_cell hfr.out 0 rfl
            have f1 : wr.cell? ⟨w4.heap.size, 1, none⟩ = some (.string ⟨f.name.toArray⟩) := by simpa using rangeAt_cell hfr.out 1 rfl
            have hnq : ¬ (w4.heap.size = wr.heap.size) := by omega
            have Hbq := Lib.hid (Hb4.out.trans (hbq.out.mono Hb4.out.size))
            by_cases hjl : j < acc.length
            · have j2 : (j : Int) < (acc.length : Int) := by omega
              obtain ⟨bA, oA, rfl, hbA, hrg⟩ := IFds.range ((Hrow.out.below Hb4r.out).below hbq.out) hjl
              have Hts := Lib.hid (take_snoc acc j hjl)
              have Hmem := Lib.hid (List.getElem_mem hjl)
              have Hrg := Lib.hid (show wr.rangeAt bA (oA + j * 6) [.int .i64 (acc[j].tag : Int), .string ⟨acc[j].name.toArray⟩, .string ⟨acc[j].kind.signs.toArray⟩, .string ⟨acc[j].kind.base.toArray⟩, .string ⟨acc[j].kind.name.toArray⟩, .string ⟨acc[j].given.toArray⟩] from hrg)
              clear hrg
              generalize acc[j] = x at Hts Hmem Hrg
              rcases Decidable.em (x.name = f.name) with hnm | hnm
              · have q2 : (x.name == f.name) = true := by simp [hnm]
                have Hend := Lib.hid (hft3.out.trans (by rw [if_pos (.inr (fits_no' Hmem.out (.inr hnm)))]))
                clear hnm
                go_wp2_with ((with_reducible refine wpList_load_mid (op := ⟨_, .load 94 _, _, _, _, none⟩) rfl 94 _ rfl bA (oA + j * 6) ?_ _ _ Hrg.out Tryz.underlying94 ?_ ?_ ?_); rfl; rfl; kernel_rfl)
                go_ret2
                exact ItPost.no Hend.out rfl (Hbq.out.alloc Hbq.out.size _)
              · have q2 : (x.name == f.name) = false := by simp [hnm]
                rcases Nat.lt_or_ge x.tag f.tag with ht | ht
                · have q3 : decide ((f.tag : Int) ≤ (x.tag : Int)) = false := by rw [decide_eq_false_iff_not]; omega
                  have Hin := Lib.hid (show ∀ y ∈ acc.take (j + 1), y.name ≠ f.name ∧ y.tag < f.tag from by
                    intro y hy
                    rw [Hts.out] at hy
                    rcases List.mem_append.1 hy with hy | hy
                    · exact hin.out y hy
                    · simp at hy; subst hy; exact ⟨hnm, ht⟩)
                  clear hnm
                  go_wp2_with ((with_reducible refine wpList_load_mid (op := ⟨_, .load 94 _, _, _, _, none⟩) rfl 94 _ rfl bA (oA + j * 6) ?_ _ _ Hrg.out Tryz.underlying94 ?_ ?_ ?_); rfl; rfl; kernel_rfl)
                  go_roundw
                  case rel => exact ⟨j + 1, by go_num, by omega, Hin.out, hbq.out.alloc (Nat.le_of_lt hzq) _, by simp; omega, rangeAt_below hfr.out hzq ((Below.refl wr.heap.size wr).alloc (Nat.le_refl _) _)⟩
                  case measure => simp [intOf]; omega
                · have q3 : decide ((f.tag : Int) ≤ (x.tag : Int)) = true := by rw [decide_eq_true_iff]; omega
                  have Hend := Lib.hid (hft3.out.trans (by rw [if_pos (.inr (fits_no' Hmem.out (.inl ht)))]))
                  clear hnm
                  go_wp2_with ((with_reducible refine wpList_load_mid (op := ⟨_, .load 94 _, _, _, _, none⟩) rfl 94 _ rfl bA (oA + j * 6) ?_ _ _ Hrg.out Tryz.underlying94 ?_ ?_ ?_); rfl; rfl; kernel_rfl)
                  go_ret2
                  exact ItPost.no Hend.out rfl (Hbq.out.alloc Hbq.out.size _)
            · have j2 : ¬ (j : Int) < (acc.length : Int) := by omega
              have Hft4 := Lib.hid (show typeI (c :: r) = finP c nm (fieldsI c (ps.drop (k + 1)) (acc ++ [f])) from by
                rw [hft3.out, if_neg]
                rintro (h | h)
                · omega
                · rw [fitsIn_all (fun y hy => hin.out y (by rw [List.take_of_length_le (by omega)]; exact hy))] at h; cases h)
              have hb1 : Below wo.heap.size wo wr := Hb4r.out.trans (hbq.out.mono hz4)
              have Hown := Lib.hid (ownsRow_below hown.out hb1)
              have Hpr := Lib.hid (show ∀ j (hj : j < ps.length), wr.cell? ⟨g, j, none⟩ = some (.string ⟨ps[j].toArray⟩) from fun j hj => (hb1.cell (p := ⟨g, j, none⟩) (show g < wo.heap.size by omega)).trans (hpr.out j hj))
              have HT1 := Lib.hid (rangeAt_below hT.out (show w2.heap.size < wo.heap.size by omega) hb1)
              have HB1 := Lib.hid (hB.out.belowAt (show w2.heap.size < wo.heap.size by omega) hb1)
              have HK1 := Lib.hid (there_below hK.out (show w2.heap.size < wo.heap.size by omega) hb1)
              have hz5 : w3.heap.size ≤ wr.heap.size := by omega
              have hz6 : w.heap.size ≤ w3.heap.size := by omega
              clear hb1 f0 f1
              go_wp2_with fail
              refine wp_region_slots3 [98, 99, 100, 101, 102, 103, 104, 105, 106, 107, 999] (by kernel_rfl) (by kernel_rfl) (by kernel_rfl) (fun u => by dsimp only [frameOf, setMany, List.set, Nat.zero_add, Nat.reduceAdd])
                (fun i v W => match i with | 0 => v = .pointer (some ⟨w2.heap.size, 0, none⟩) | 1 => v = .pointer (some ⟨w2.heap.size, 0, none⟩) | 2 => v = .pointer (some ⟨w2.heap.size, 0, none⟩) | 3 => v = .pointer (some ⟨w2.heap.size, 2, none⟩) | 4 => v = .slice A acc.length cA | 5 => v = .agg #[.int .i64 (f.tag : Int), .string ⟨f.name.toArray⟩, .string ⟨f.kind.signs.toArray⟩, .string ⟨f.kind.base.toArray⟩, .string ⟨f.kind.name.toArray⟩, .string ⟨f.given.toArray⟩] | 8 => v = .pointer (some ⟨w2.heap.size, 0, none⟩) | 9 => v = .pointer (some ⟨w2.heap.size, 2, none⟩) | _ => True)
                (fun L U W => Below w.heap.size w W ∧ w3.heap.size ≤ W.heap.size ∧ (∀ j (hj : j < ps.length), W.cell? ⟨g, j, none⟩ = some (.string ⟨ps[j].toArray⟩)) ∧ (W.there w2.heap.size 0 4 ∧ Blk W w2.heap.size) ∧
                  (L 10 = false → W.rangeAt w2.heap.size 0 [.int .u8 (c.toNat : Int), .string ⟨nm.toArray⟩, .slice A acc.length cA, .string ⟨(c :: r).toArray⟩]) ∧ (L 10 = true → W.rangeAt w2.heap.size 0 [.int .u8 (c.toNat : Int), .string ⟨nm.toArray⟩, U 7, .string ⟨(c :: r).toArray⟩]) ∧
                  (L 5 = false → W.rangeAt w4.heap.size 0 [.int .i64 (f.tag : Int), .string ⟨f.name.toArray⟩, .string ⟨f.kind.signs.toArray⟩, .string ⟨f.kind.base.toArray⟩, .string ⟨f.kind.name.toArray⟩, .string ⟨f.given.toArray⟩]) ∧ (L 7 = false → W.ownsRow w3.heap.size 94 6 (.slice A acc.length cA) acc.length (acc.flatMap ifc)) ∧ (L 7 = true → W.ownsRow w3.heap.size 94 6 (U 7) (acc.length + 1) (acc.flatMap ifc ++ ifc f)) ∧
                  (L 6 = true → L 7 = false → ∃ q, U 6 = .slice (some ⟨q, 0, none⟩) 1 1 ∧ W.rangeAt q 0 [.int .i64 (f.tag : Int), .string ⟨f.name.toArray⟩, .string ⟨f.kind.signs.toArray⟩, .string ⟨f.kind.base.toArray⟩, .string ⟨f.kind.name.toArray⟩, .string ⟨f.given.toArray⟩]))
                (fun _ _ => True) (fun w w' _ i v h => by revert h; exact fun h => h) ⟨Hbq.out.drew, hz5, Hpr.out, ⟨HK1.out, HB1.out⟩, fun _ => HT1.out, by simp, fun _ => hfr.out, fun _ => Hown.out, by simp, by simp⟩ ?_ ?_
              · repeat (first | exact Steps.nil | (refine Steps.cons ?_ ?_; rotate_left))
                all_goals
                  rintro L U W hL hpre hR hun hdep K hK
                  have Hdep := Lib.hid hdep
                  have HR := Lib.hid hR
                  clear hun hdep hR
                  first | (simp [Region.binds] at hpre; done) | simp [Region.binds] at hpre | clear hpre
                · go_simp
                  exact hK _ _ _ rfl trivial HR.out rfl
                · go_simp
                  exact hK _ _ _ rfl trivial HR.out rfl
                · have u1 := hpre.2
                  go_simp
                  exact hK (.pointer (some ⟨w2.heap.size, 0, none⟩)) _ _ rfl trivial HR.out (by simp [Act.put, u1])
                · have u2 := hpre.2
                  go_simp
                  exact hK (.pointer (some ⟨w2.heap.size, 2, none⟩)) _ _ rfl trivial HR.out (by simp [Act.put, u2])
                · have h10 := (Hdep.out 10 _ rfl { on := 7, ground := Ground.data } (by simp) (by rfl) (Hdep.out 7 _ rfl { on := 4, ground := Ground.data } (by simp) (by rfl) hL))
                  obtain ⟨r1, r2, r3, r4, r5, r6, r7, r8, r9, r0⟩ := HR.out
                  have u3 := hpre.2
                  have c2 : W.cell? ⟨w2.heap.size, 2, none⟩ = some (.slice A acc.length cA) := by simpa using rangeAt_cell (r5 h10) 2 rfl
                  clear r1 r2 r3 r4 r5 r6 r7 r8 r9 r0
                  go_simp
                  exact hK (.slice A acc.length cA) _ _ rfl trivial HR.out (by simp [Act.put, u3])
                · obtain ⟨r1, r2, r3, r4, r5, r6, r7, r8, r9, r0⟩ := HR.out
                  rw [if_pos (by rfl)]
                  refine wp_load_mid 94 _ rfl w4.heap.size 0 rfl [.int .i64 (f.tag : Int), .string ⟨f.name.toArray⟩, .string ⟨f.kind.signs.toArray⟩, .string ⟨f.kind.base.toArray⟩, .string ⟨f.kind.name.toArray⟩, .string ⟨f.given.toArray⟩] _ (r7 hL) Tryz.underlying94 rfl (by kernel_rfl) ?_
                  exact hK (.agg ([.int .i64 (f.tag : Int), .string ⟨f.name.toArray⟩, .string ⟨f.kind.signs.toArray⟩, .string ⟨f.kind.base.toArray⟩, .string ⟨f.kind.name.toArray⟩, .string ⟨f.given.toArray⟩] : List Value).toArray) _ _ rfl trivial ⟨r1, r2, r3, r4, r5, r6, fun h => by simp at h, r8, r9, r0⟩ rfl
                · obtain ⟨r1, r2, r3, r4, r5, r6, r7, r8, r9, r0⟩ := HR.out
                  have R1 := Lib.hid r1
                  have u5 := hpre.2
                  have HF5 := Lib.hid (rangeAt_new W [.int .i64 (f.tag : Int), .string ⟨f.name.toArray⟩, .string ⟨f.kind.signs.toArray⟩, .string ⟨f.kind.base.toArray⟩, .string ⟨f.kind.name.toArray⟩, .string ⟨f.given.toArray⟩] 94)
                  have HRR := Lib.hid (show (∀ j (hj : j < ps.length), (W.alloc (.cells #[.int .i64 (f.tag : Int), .string ⟨f.name.toArray⟩, .string ⟨f.kind.signs.toArray⟩, .string ⟨f.kind.base.toArray⟩, .string ⟨f.kind.name.toArray⟩, .string ⟨f.given.toArray⟩] 94)).cell? ⟨g, j, none⟩ = some (.string ⟨ps[j].toArray⟩)) ∧ ((W.alloc (.cells #[.int .i64 (f.tag : Int), .string ⟨f.name.toArray⟩, .string ⟨f.kind.signs.toArray⟩, .string ⟨f.kind.base.toArray⟩, .string ⟨f.kind.name.toArray⟩, .string ⟨f.given.toArray⟩] 94)).there w2.heap.size 0 4 ∧ Blk (W.alloc (.cells #[.int .i64 (f.tag : Int), .string ⟨f.name.toArray⟩, .string ⟨f.kind.signs.toArray⟩, .string ⟨f.kind.base.toArray⟩, .string ⟨f.kind.name.toArray⟩, .string ⟨f.given.toArray⟩] 94)) w2.heap.size) ∧
                    (L 10 = false → (W.alloc (.cells #[.int .i64 (f.tag : Int), .string ⟨f.name.toArray⟩, .string ⟨f.kind.signs.toArray⟩, .string ⟨f.kind.base.toArray⟩, .string ⟨f.kind.name.toArray⟩, .string ⟨f.given.toArray⟩] 94)).rangeAt w2.heap.size 0 [.int .u8 (c.toNat : Int), .string ⟨nm.toArray⟩, .slice A acc.length cA, .string ⟨(c :: r).toArray⟩]) ∧ (L 10 = true → (W.alloc (.cells #[.int .i64 (f.tag : Int), .string ⟨f.name.toArray⟩, .string ⟨f.kind.signs.toArray⟩, .string ⟨f.kind.base.toArray⟩, .string ⟨f.kind.name.toArray⟩, .string ⟨f.given.toArray⟩] 94)).rangeAt w2.heap.size 0 [.int .u8 (c.toNat : Int), .string ⟨nm.toArray⟩, U 7, .string ⟨(c :: r).toArray⟩]) ∧
                    (L 5 = false → (W.alloc (.cells #[.int .i64 (f.tag : Int), .string ⟨f.name.toArray⟩, .string ⟨f.kind.signs.toArray⟩, .string ⟨f.kind.base.toArray⟩, .string ⟨f.kind.name.toArray⟩, .string ⟨f.given.toArray⟩] 94)).rangeAt w4.heap.size 0 [.int .i64 (f.tag : Int), .string ⟨f.name.toArray⟩, .string ⟨f.kind.signs.toArray⟩, .string ⟨f.kind.base.toArray⟩, .string ⟨f.kind.name.toArray⟩, .string ⟨f.given.toArray⟩]) ∧ (L 7 = false → (W.alloc (.cells #[.int .i64 (f.tag : Int), .string ⟨f.name.toArray⟩, .string ⟨f.kind.signs.toArray⟩, .string ⟨f.kind.base.toArray⟩, .string ⟨f.kind.name.toArray⟩, .string ⟨f.given.toArray⟩] 94)).ownsRow w3.heap.size 94 6 (.slice A acc.length cA) acc.length (acc.flatMap ifc)) ∧ (L 7 = true → (W.alloc (.cells #[.int .i64 (f.tag : Int), .string ⟨f.name.toArray⟩, .string ⟨f.kind.signs.toArray⟩, .string ⟨f.kind.base.toArray⟩, .string ⟨f.kind.name.toArray⟩, .string ⟨f.given.toArray⟩] 94)).ownsRow w3.heap.size 94 6 (U 7) (acc.length + 1) (acc.flatMap ifc ++ ifc f))
                    from ⟨fun j hj => by rw [World.cell?_alloc_old _ _ _ (show g ≠ W.heap.size by omega)]; exact r3 j hj, ⟨World.there_alloc r4.1 _, r4.2.belowAt (show w2.heap.size < W.heap.size by omega) ((Below.refl _ _).alloc (Nat.le_refl _) _)⟩, fun h => World.rangeAt_alloc (r5 h) _, fun h => World.rangeAt_alloc (r6 h) _, fun h => World.rangeAt_alloc (r7 h) _, fun h => (r8 h).alloc _, fun h => (r9 h).alloc _⟩)
                  clear r1 r3 r4 r5 r6 r7 r8 r9 r0
                  go_simp
                  refine hK (.slice (some ⟨W.heap.size, 0, none⟩) 1 1) _ _ trivial trivial ⟨R1.out.alloc R1.out.size _, by simp; omega, HRR.out.1, HRR.out.2.1, HRR.out.2.2.1, HRR.out.2.2.2.1, HRR.out.2.2.2.2.1, HRR.out.2.2.2.2.2.1, HRR.out.2.2.2.2.2.2, fun _ _ => ⟨W.heap.size, rfl, HF5.out⟩⟩ (by simp [Act.put, u5])
                · obtain ⟨r1, r2, r3, r4, r5, r6, r7, r8, r9, r0⟩ := HR.out
                  have h10 := (Hdep.out 10 _ rfl { on := 7, ground := Ground.data } (by simp) (by rfl) hL)
                  have h7 := r8 hL
                  obtain ⟨q, e1, e2⟩ := r0 hpre.2 hL
                  obtain ⟨i0, hi, hz0, hz1, hz2'⟩ := info_parts Tryz.infoIf
                  rw [if_pos (by rfl)]
                  refine wp_append_own W (.tmp 102) (.tmp 104) 76 rfl w3.heap.size 94 i0 (.agg #[.int .i64 0, .string ⟨#[]⟩, .string ⟨#[]⟩, .string ⟨#[]⟩, .string ⟨#[]⟩, .string ⟨#[]⟩]) 6 88 Tryz.underlying76 hi hz0 hz1 hz2' rfl (by decide) (.slice A acc.length cA) acc.length (acc.flatMap ifc) hpre.1.2 h7 ⟨q, 0, none⟩ 1 1 (ifc f) e1 (by simp [ifc]) ?_ (fun y hy => ifc_one [f] y (by simpa using hy)) (by unfold maxLen; omega) (by omega) r2 ?_
                  · intro i x hx
                    rw [addr0]
                    have := e2 i x hx
                    simpa using this
                  · intro v' w' hown' hgr _
                    have hbw : Below w3.heap.size W w' := (Below.refl _ _).grown hgr r2 (fun k hk => (h7.lt k hk).1)
                    refine hK v' w' _ trivial trivial ⟨r1.trans (hbw.mono hz6), Nat.le_trans r2 hbw.size, fun j hj => (hbw.cell (p := ⟨g, j, none⟩) (show g < w3.heap.size by omega)).trans (r3 j hj), ⟨there_below r4.1 hz3 hbw, r4.2.belowAt hz3 hbw⟩, fun h => rangeAt_below (r5 h) hz3 hbw, fun h => absurd h10 (by rw [show L 10 = true from h]; decide), fun h => absurd hpre.2 (by rw [Hdep.out 6 _ rfl { on := 5, ground := Ground.data } (by simp) (by rfl) h]; decide), fun h => by simp at h, fun _ => hown', fun _ h => by simp at h⟩ rfl
                · have u0 := hpre.1.2
                  go_simp
                  exact hK (.pointer (some ⟨w2.heap.size, 0, none⟩)) _ _ rfl trivial HR.out (by simp [Act.put, hpre])
                · have u8 := hpre.2
                  go_simp
                  exact hK (.pointer (some ⟨w2.heap.size, 2, none⟩)) _ _ rfl trivial HR.out (by simp [Act.put, hpre])
                · obtain ⟨r1, r2, r3, r4, r5, r6, r7, r8, r9, r0⟩ := HR.out
                  have R1 := Lib.hid r1
                  have l7 : L 7 = true := by first | exact hpre.2.1 | exact hpre.2.1.1
                  have h5 := r5 hL
                  have h9 := r9 l7
                  obtain ⟨A7, n7, c7, e7⟩ := own_slice h9
                  rw [e7] at h9
                  obtain ⟨y2, c2⟩ := Option.isSome_iff_exists.1 (r4.1 2 (by decide)).1
                  rw [Nat.zero_add] at c2
                  have z2 : W.frozen? ⟨w2.heap.size, 2, none⟩ = false := by simpa using (r4.1 2 (by decide)).2
                  have hT10 := Lib.hid (show (W.setCell ⟨w2.heap.size, 2, none⟩ (.slice A7 n7 c7)).rangeAt w2.heap.size 0 [.int .u8 (c.toNat : Int), .string ⟨nm.toArray⟩, (.slice A7 n7 c7), .string ⟨(c :: r).toArray⟩] from rangeAt_setCells_in [.int .u8 (c.toNat : Int), .string ⟨nm.toArray⟩] [.slice A acc.length cA] [.string ⟨(c :: r).toArray⟩] [.slice A7 n7 c7] h5 rfl)
                  have hK10 := Lib.hid (show (W.setCell ⟨w2.heap.size, 2, none⟩ (.slice A7 n7 c7)).there w2.heap.size 0 4 from World.there_setCells r4.1 w2.heap.size 2 [.slice A7 n7 c7])
                  have hBk10 := Lib.hid (r4.2.set (o := 2) (.slice A7 n7 c7))
                  have hP10 := Lib.hid (show ∀ j (hj : j < ps.length), (W.setCell ⟨w2.heap.size, 2, none⟩ (.slice A7 n7 c7)).cell? ⟨g, j, none⟩ = some (.string ⟨ps[j].toArray⟩) from fun j hj => by
                    rw [World.cell?_setCell_other _ _ _ _ (by intro e; injection e with e; omega)]; exact r3 j hj)
                  have hO10 := Lib.hid (show (W.setCell ⟨w2.heap.size, 2, none⟩ (.slice A7 n7 c7)).ownsRow w3.heap.size 94 6 (.slice A7 n7 c7) (acc.length + 1) (acc.flatMap ifc ++ ifc f) from h9.kept (grown_set W _ (.slice A7 n7 c7)) (.inr (fun e => by have := (h9.lt _ e).1; simp at this; omega)))
                  have hz10 : w3.heap.size ≤ (W.setCell ⟨w2.heap.size, 2, none⟩ (.slice A7 n7 c7)).heap.size := by simpa using r2
                  have hB10 := Lib.hid (show Below w.heap.size w (W.setCell ⟨w2.heap.size, 2, none⟩ (.slice A7 n7 c7)) from r1.setCell hz2 _)
                  clear r1 r3 r4 r5 r6 r7 r8 r9 r0 h5 h9
                  go_simp
                  exact hK undef _ _ trivial trivial ⟨hB10.out, hz10, hP10.out, ⟨hK10.out, hBk10.out⟩, fun h => by simp at h, fun _ => by show World.rangeAt _ _ _ [_, _, U 7, _]; rw [e7]; exact hT10.out, fun h => absurd l7 (by rw [(Hdep.out 7 _ rfl { on := 6, ground := Ground.data } (by simp) (by rfl) (Hdep.out 6 _ rfl { on := 5, ground := Ground.data } (by simp) (by rfl) h))]; decide), fun h => absurd l7 (by rw [show L 7 = false from h]; decide), fun _ => by show World.ownsRow _ _ _ _ (U 7) _ _; rw [e7]; exact hO10.out, fun _ h => absurd l7 (by rw [show L 7 = false from h]; decide)⟩ (by simp [Act.put, hpre, e7])
              · rintro L U W hL hφ hR
                obtain ⟨hbW, hzW, hprW, hKW, _, hTW, _, _, hoW, _⟩ := hR
                have hTW' := hTW (hL 10 (by decide))
                have hoW' := hoW (hL 7 (by decide))
                generalize U 7 = V at hTW' hoW'
                have HbW := Lib.hid hbW
                have HprW := Lib.hid hprW
                have HKW := Lib.hid hKW.1
                have HBW := Lib.hid hKW.2
                have HTW := Lib.hid hTW'
                have HoW := Lib.hid hoW'
                clear hL hφ hbW hprW hKW hTW hoW hTW' hoW'
                go_wp2_with fail
                go_roundw
                case rel => exact ⟨k + 1, acc ++ [f], V, by go_num, by omega, by simp; omega, Hft4.out, by rw [List.length_append, List.flatMap_append, show [f].flatMap ifc = ifc f from by simp]; exact HoW.out, HbW.out, hzW, HprW.out, HTW.out, HKW.out, HBW.out⟩
                case measure => simp [intOf]; omega
    · have i2 : ¬ (k : Int) < (ps.length : Int) := by omega
      have Hfin := Lib.hid (show typeI (c :: r) = some ⟨c, nm, acc⟩ by rw [hft.out, List.drop_of_length_le (by omega)]; rfl)
      go_wp2_with fail
      go_ret2
      refine ItPost.yes Hfin.out (b := w2.heap.size) (fv := .slice A acc.length cA) rfl hz2 ?_ (fun k hk => by have := (hown.out.lt k hk).1; omega) hbr.out
      refine ⟨show w2.heap.size < wo.heap.size by omega, hB.out, by simpa using rangeAt_cell hT.out 0 rfl, by simpa using rangeAt_cell hT.out 1 rfl, by simpa using rangeAt_cell hT.out 2 rfl, ?_, A, cA, rfl, ha8, Hrow.out⟩
      have hB := (typeI_some.1 Hfin.out).2
      show _ = some (Value.string ⟨(tyB ⟨c, nm, acc⟩).toArray⟩)
      rw [hB]
      simpa using rangeAt_cell hT.out 3 rfl

theorem readType_any (s : List UInt8) (w : World) (hs : s.length ≤ 4000000) :
    Calls Tryz.prog 113 #[.string ⟨s.toArray⟩] w (ItPost (typeI s) w) := by
  cases s with
  | nil => exact iType_nil w
  | cons c r =>
    simp at hs
    by_cases hc : sortOk c
    · by_cases h : (cutL 61 r).2.2 = false ∨ nameOk (cutL 61 r).1 = false ∨ (cutL 61 r).2.1 = []
      · exact iType_head c r w (by omega) hc h
      · simp only [not_or] at h
        exact iType_full c r (cutL 61 r).1 (cutL 61 r).2.1 w (by omega) hc (Prod.ext rfl (Prod.ext rfl (by simpa using h.1))) (by simpa using h.2.1) h.2.2
    · exact iType_sort c r w (by omega) hc
end Go.Proofs.YtdhinlhafoiaiaaGreatDoor
/- has, ends and both of the program. -/
namespace Go.Proofs.YtdhinlhafoiaiaaGreatDoor
open Go.RowKit
set_option maxRecDepth 100000
set_option linter.unusedVariables false
set_option linter.unusedSimpArgs false
attribute [local go_sem] ba_get ba_toList ba_extract take_drop_all ByteArray.mk_append_mk

/-- What the program's map knows while a schema is read: some block that reads as a map of names. -/
def IMap (w : World) (p : Value) (xs : List PT) : Prop :=
  ∃ b mb, p = .pointer (some ⟨b, 0, none⟩) ∧ b < w.heap.size ∧ w.cell? ⟨b, 1, none⟩ = some (.map (some mb)) ∧ INamed w mb xs
theorem ISc.map {w : World} {p : Value} {xs : List PT} (h : ISc w p xs) : IMap w p xs := by
  obtain ⟨b, A, c, mb, e, h0, h1, h2, h3, h4, _⟩ := h
  exact ⟨b, mb, e, h0, h2, h4⟩
theorem named_look {w : World} {mb : Nat} {xs : List PT} (h : INamed w mb xs) (n : Name) (hn : n.length ≤ 9223372036854775807) :
    (Instr.lookup 130 (.map (some mb)) (.string ⟨n.toArray⟩) false).run Tryz.prog w = .ok (ptrP (findP xs n)) w :=
  FMap.lookup h Tryz.keyStr Tryz.underlying130 (Tryz.zeroPtr w) (keyName hn)
theorem name_short {k : Kd} (h : kdOk k) : k.name.length ≤ 3 := by
  rcases h.2.1 with ⟨_, hn⟩ | ⟨_, hn⟩
  · exact (nameOk_iff.1 hn).2.1
  · rw [hn]; simp

set_option maxHeartbeats 1000000 in
theorem iHas_any (p : Value) (xs : List PT) (k : Kd) (w : World) (h : IMap w p xs) (hk : k.name.length ≤ 100) :
    Calls Tryz.prog 91 #[p, kdV k] w fun e w' => e = .returned (.bool (decide (refOk (ptysOf xs) k))) ∧ Below w.heap.size w w' := by
  obtain ⟨b, mb, rfl, hb, hm, hn⟩ := h
  have Hn := Lib.hid hn
  clear hn
  unfold kdV
  generalize hd : (.cells #[.string ⟨k.signs.toArray⟩, .string ⟨k.base.toArray⟩, .string ⟨k.name.toArray⟩] 70 : Obj) = ob
  have hl0 : w.heap.size < (w.alloc ob).heap.size := by simp
  have x1 : (w.alloc ob).cell? ⟨w.heap.size, 1, none⟩ = some (.string ⟨k.base.toArray⟩) := by rw [← hd]; simp
  have x2 : (w.alloc ob).cell? ⟨w.heap.size, 2, none⟩ = some (.string ⟨k.name.toArray⟩) := by rw [← hd]; simp
  have x3 : (w.alloc ob).cell? ⟨b, 1, none⟩ = some (.map (some mb)) := by rw [World.cell?_alloc_old _ _ _ (show b ≠ w.heap.size by omega)]; exact hm
  have hlook : ∀ q, (Instr.lookup 130 (.map (some mb)) (.string ⟨k.name.toArray⟩) false).run Tryz.prog ((w.alloc ob).drewN q) = .ok (ptrP (findP xs k.name)) ((w.alloc ob).drewN q) := fun q => named_look (FMap.below (Hn.out.alloc _) (below_drewN (Below.refl _ _) q)) k.name (by omega)
  have Hd := Lib.hid hd
  have Hr := Lib.hid (show decide (refOk (ptysOf xs) k) = (decide (k.base ≠ [64]) || (findP xs k.name).isSome) by
    have e : refOk (ptysOf xs) k ↔ (k.base = [64] → (findP xs k.name).isSome = true) := by unfold refOk; rw [findP_ty]; simp
    by_cases h : k.base = [64]
    · cases hf : findP xs k.name with
      | none => rw [decide_eq_false (fun h2 => by have := e.1 h2 h; rw [hf] at this; cases this)]; simp [h]
      | some x => rw [decide_eq_true (e.2 (fun _ => by rw [hf]; rfl))]; simp
    · rw [decide_eq_true (e.2 (fun h2 => absurd h2 h))]; simp [h])
  have Hb := Lib.hid (show Below w.heap.size w (w.alloc ob) from (Below.refl _ _).alloc (Nat.le_refl _) _)
  go_enter Tryz.func91, Tryz.ntmps91
  rcases Decidable.em (k.base = [64]) with h64 | h64
  · have t1 : (k.base != [64]) = false := by simp [h64]
    have H64 := Lib.hid h64
    clear h64 hd hl0
    go_wp2_with fail
    rw [Hd.out]
    cases hf : findP xs k.name with
    | none =>
      rw [hf] at hlook
      have Hf := Lib.hid hf
      clear hf
      unfold ptrP at hlook
      refine wp_region_slots3 [5, 6, 7, 8, 9, 10, 11, 12, 13, 14, 15, 16, 17, 4] (by kernel_rfl) (by kernel_rfl) (by kernel_rfl) (fun u => by dsimp only [frameOf, setMany, List.set, Nat.zero_add, Nat.reduceAdd])
        (fun i v W => match i with | 0 => v = .pointer (some ⟨w.heap.size, 1, none⟩) | 1 => v = .string ⟨k.base.toArray⟩ | 2 => v = .bool false | 3 => v = .bool false | 4 => v = .pointer (some ⟨b, 0, none⟩) | 5 => v = .pointer (some ⟨b, 0, none⟩) | 6 => v = .pointer (some ⟨b, 1, none⟩) | 7 => v = .map (some mb) | 8 => v = .pointer (some ⟨w.heap.size, 2, none⟩) | 9 => v = .string ⟨k.name.toArray⟩ | 10 => v = .pointer none | 11 => v = .bool false | 12 => v = .bool false | 13 => v = .bool false | _ => True) (fun L U W => ∃ q, W = (w.alloc ob).drewN q) (fun _ _ => True) (fun _ _ _ _ _ h => h) ⟨1, rfl⟩ ?_ ?_
      · repeat (first | exact Steps.nil | (refine Steps.cons ?_ ?_; rotate_left))
        all_goals
          rintro L U W hL hpre ⟨q, rfl⟩ hun hdep K hK
          have hlq := hlook q
          clear hun hdep
          first | (simp [Region.binds] at hpre; done) | simp [Region.binds] at hpre | clear hpre
          go_simp
          first | exact hK _ _ _ rfl trivial ⟨q, rfl⟩ rfl | exact hK _ _ _ rfl trivial ⟨q, rfl⟩ (by simp [Act.put, hpre, H64.out]) | exact hK undef _ _ trivial trivial ⟨q, rfl⟩ (by simp [Act.put, hpre, H64.out]) | exact hK _ _ _ trivial trivial ⟨q, rfl⟩ rfl | exact hK _ _ _ trivial trivial ⟨q, rfl⟩ (by simp [Act.put, hpre, H64.out])
      · rintro L U W hL hφ ⟨q, rfl⟩
        have e13 : U 13 = .bool false := hφ 13 (by decide)
        simp only [e13]
        go_wp2_with fail
        go_ret
        exact ⟨ret1 (vbool (by rw [Hr.out, Hf.out]; simp [H64.out])), below_drewN Hb.out _⟩
    | some x =>
      rw [hf] at hlook
      have Hf := Lib.hid hf
      clear hf
      unfold ptrP PT.ptr at hlook
      refine wp_region_slots3 [5, 6, 7, 8, 9, 10, 11, 12, 13, 14, 15, 16, 17, 4] (by kernel_rfl) (by kernel_rfl) (by kernel_rfl) (fun u => by dsimp only [frameOf, setMany, List.set, Nat.zero_add, Nat.reduceAdd])
        (fun i v W => match i with | 0 => v = .pointer (some ⟨w.heap.size, 1, none⟩) | 1 => v = .string ⟨k.base.toArray⟩ | 2 => v = .bool false | 3 => v = .bool false | 4 => v = .pointer (some ⟨b, 0, none⟩) | 5 => v = .pointer (some ⟨b, 0, none⟩) | 6 => v = .pointer (some ⟨b, 1, none⟩) | 7 => v = .map (some mb) | 8 => v = .pointer (some ⟨w.heap.size, 2, none⟩) | 9 => v = .string ⟨k.name.toArray⟩ | 10 => v = .pointer (some ⟨x.blk, 0, none⟩) | 11 => v = .bool true | 12 => v = .bool true | 13 => v = .bool true | _ => True) (fun L U W => ∃ q, W = (w.alloc ob).drewN q) (fun _ _ => True) (fun _ _ _ _ _ h => h) ⟨1, rfl⟩ ?_ ?_
      · repeat (first | exact Steps.nil | (refine Steps.cons ?_ ?_; rotate_left))
        all_goals
          rintro L U W hL hpre ⟨q, rfl⟩ hun hdep K hK
          have hlq := hlook q
          clear hun hdep
          first | (simp [Region.binds] at hpre; done) | simp [Region.binds] at hpre | clear hpre
          go_simp
          first | exact hK _ _ _ rfl trivial ⟨q, rfl⟩ rfl | exact hK _ _ _ rfl trivial ⟨q, rfl⟩ (by simp [Act.put, hpre, H64.out]) | exact hK undef _ _ trivial trivial ⟨q, rfl⟩ (by simp [Act.put, hpre, H64.out]) | exact hK _ _ _ trivial trivial ⟨q, rfl⟩ rfl | exact hK _ _ _ trivial trivial ⟨q, rfl⟩ (by simp [Act.put, hpre, H64.out])
      · rintro L U W hL hφ ⟨q, rfl⟩
        have e13 : U 13 = .bool true := hφ 13 (by decide)
        simp only [e13]
        go_wp2_with fail
        go_ret
        exact ⟨ret1 (vbool (by rw [Hr.out, Hf.out]; simp)), below_drewN Hb.out _⟩
  · have t1 : (k.base != [64]) = true := by simp [h64]
    have H64 := Lib.hid h64
    clear h64 hd hl0
    go_wp2_with fail
    rw [Hd.out]
    refine wp_region_slots3 [5, 6, 7, 8, 9, 10, 11, 12, 13, 14, 15, 16, 17, 4] (by kernel_rfl) (by kernel_rfl) (by kernel_rfl) (fun u => by dsimp only [frameOf, setMany, List.set, Nat.zero_add, Nat.reduceAdd])
      (fun i v W => match i with | 0 => v = .pointer (some ⟨w.heap.size, 1, none⟩) | 1 => v = .string ⟨k.base.toArray⟩ | 2 => v = .bool true | 3 => v = .bool true | 12 => v = .bool true | 13 => v = .bool true | _ => True) (fun L U W => ∃ q, W = (w.alloc ob).drewN q) (fun _ _ => True) (fun _ _ _ _ _ h => h) ⟨1, rfl⟩ ?_ ?_
    · repeat (first | exact Steps.nil | (refine Steps.cons ?_ ?_; rotate_left))
      all_goals
        rintro L U W hL hpre ⟨q, rfl⟩ hun hdep K hK
        have hlq := hlook q
        clear hun hdep
        first | (simp [Region.binds] at hpre; done) | simp [Region.binds] at hpre | clear hpre
        go_simp
        first | exact hK _ _ _ rfl trivial ⟨q, rfl⟩ rfl | exact hK _ _ _ rfl trivial ⟨q, rfl⟩ (by simp [Act.put, hpre, H64.out]) | exact hK undef _ _ trivial trivial ⟨q, rfl⟩ (by simp [Act.put, hpre, H64.out]) | exact hK _ _ _ trivial trivial ⟨q, rfl⟩ rfl | exact hK _ _ _ trivial trivial ⟨q, rfl⟩ (by simp [Act.put, hpre, H64.out])
    · rintro L U W hL hφ ⟨q, rfl⟩
      have e13 : U 13 = .bool true := hφ 13 (by decide)
      simp only [e13]
      go_wp2_with fail
      go_ret
      exact ⟨ret1 (vbool (by rw [Hr.out]; simp [H64.out])), below_drewN Hb.out _⟩
end Go.Proofs.YtdhinlhafoiaiaaGreatDoor
/- ends of the program. -/
namespace Go.Proofs.YtdhinlhafoiaiaaGreatDoor
open Go.RowKit
set_option maxRecDepth 100000
set_option linter.unusedVariables false
set_option linter.unusedSimpArgs false
attribute [local go_sem] ba_get ba_toList ba_extract take_drop_all ByteArray.mk_append_mk

theorem ends_stop {S : List Ty} {n : Nat} {t : Ty} (h : nextTy S t = none) : endsN S (n + 1) t = true := by rw [endsN, h]
theorem ends_go {S : List Ty} {n : Nat} {t u : Ty} (h : nextTy S t = some u) : endsN S (n + 1) t = endsN S n u := by rw [endsN, h]
theorem next_sort {S : List Ty} {t : Ty} (h : t.sort ≠ 85) : nextTy S t = none := if_neg h
theorem next_kind {S : List Ty} {t : Ty} {f : Fd} {fs : List Fd} (h : t.sort = 85) (hf : t.fields = f :: fs) : nextTy S t = if f.kind.signs = [] ∧ f.kind.base = [64] then findTy S f.kind.name else none := by
  unfold nextTy; rw [if_pos h, hf]
theorem first_field {t : Ty} (h : tyOk t) (hs : t.sort = 85) : ∃ f fs, t.fields = f :: fs ∧ kdOk f.kind := by
  obtain ⟨_, _, h3, _, h5⟩ := h
  cases hf : t.fields with
  | nil => have := h5 hf; rw [hs] at this; exact absurd this (by decide)
  | cons f fs => exact ⟨f, fs, rfl, ((h3.1 f (by rw [hf]; simp)).2.2.2.2 (by rw [hs]; decide)).1⟩

set_option maxHeartbeats 1000000 in
theorem iEnds_any (p : Value) (xs : List PT) (x : PT) (w : World) (h : IMap w p xs) (hT : ∀ y ∈ xs, ITy w y) (hok : ∀ y ∈ xs, tyOk y.ty) (hS : kindsOk (ptysOf xs)) (hx : x ∈ xs) :
    Calls Tryz.prog 114 #[p, x.ptr] w fun e w' => e = .returned (.bool (endsN (ptysOf xs) 9 x.ty)) ∧ Below w.heap.size w w' := by
  have Hmap := Lib.hid h
  obtain ⟨b, mb, rfl, hb, hm, hn⟩ := h
  have HT := Lib.hid hT
  have Hok := Lib.hid hok
  have HS := Lib.hid hS
  have Hx := Lib.hid hx
  have Hn := Lib.hid hn
  have Hm := Lib.hid hm
  clear hT hok hS hx hn hm
  unfold PT.ptr
  go_enter Tryz.func114, Tryz.ntmps114
  go_wp2_with fail
  go_loopw [1, 6] (fun t i wr => ∃ (n : Nat) (y : PT), i = .int .i64 n ∧ n ≤ 9 ∧ t = .pointer (some ⟨y.blk, 0, none⟩) ∧ Hid (y ∈ xs) ∧ Hid (endsN (ptysOf xs) 9 x.ty = endsN (ptysOf xs) (9 - n) y.ty) ∧ Hid (Below w.heap.size w wr)) (fun _ i _ => 9 - (intOf i).toNat)
  case atStart => exact ⟨0, x, rfl, by omega, rfl, Hx.out, rfl, Below.refl _ _⟩
  case round =>
    obtain ⟨n, y, rfl, hn9, rfl, hy, he, hbr⟩ := hrel
    have n1 : (0 : Int) ≤ (n : Int) := by omega
    obtain ⟨hyb, _, y0, y1, y2, y3, A, cA, hyf, hl8, hrow⟩ := (HT.out y hy.out).below hbr.out
    have Hrow := Lib.hid hrow
    have hzw := hbr.out.size
    rw [hyf] at y2
    clear hrow hyf y1 y3
    by_cases hlt : n < 9
    · have n2 : (n : Int) < 9 := by omega
      have he2 := Lib.hid (show endsN (ptysOf xs) 9 x.ty = endsN (ptysOf xs) (8 - n + 1) y.ty by rw [he.out, show 9 - n = 8 - n + 1 by omega])
      by_cases h85 : y.ty.sort = 85
      · have t1 : ((y.ty.sort.toNat : Int) != 85) = false := bne_byte_no (d := 85) h85
        obtain ⟨f, fs, hf, hkd⟩ := first_field (Hok.out y hy.out) h85
        have Hnext := Lib.hid (next_kind (S := ptysOf xs) h85 hf)
        have hpos : 0 < y.ty.fields.length := by rw [hf]; simp
        obtain ⟨bA, oA, rfl, hbA, hrg⟩ := IFds.range Hrow.out hpos
        have hf0 : y.ty.fields[0] = f := by simp [hf]
        rw [hf0, Nat.zero_mul, Nat.add_zero] at hrg
        have Hrg := Lib.hid (show wr.rangeAt bA (oA + 2) [.string ⟨f.kind.signs.toArray⟩, .string ⟨f.kind.base.toArray⟩, .string ⟨f.kind.name.toArray⟩] from rangeAt_part [.int .i64 (f.tag : Int), .string ⟨f.name.toArray⟩] _ [.string ⟨f.given.toArray⟩] hrg)
        have hp1 : (0 : Int) < (y.ty.fields.length : Int) := by omega
        have Href := Lib.hid (HS.out y.ty (List.mem_map_of_mem (f := (·.ty)) hy.out) (by rw [h85]; decide) f (by rw [hf]; simp))
        have Hkd := Lib.hid hkd
        have hnl := name_short hkd
        clear h85 hf hf0 hrg hkd
        have hbb := Lib.hid ((Hm.out))
        by_cases hsg : f.kind.signs = []
        · have s1 : (f.kind.signs != []) = false := by simp [hsg]
          have s2 : f.kind.signs.isEmpty = true := by simp [hsg]
          have s4 : (!f.kind.signs.isEmpty) = false := by simp [hsg]
          by_cases h64 : f.kind.base = [64]
          · have s3 : (f.kind.base == [64]) = true := by simp [h64]
            have s5 : (f.kind.base != [64]) = false := by simp [h64]
            have hsome := Href.out h64
            rw [findP_ty] at hsome
            cases hz : findP xs f.kind.name with
            | none => rw [hz] at hsome; cases hsome
            | some z =>
              have Hz := Lib.hid (show endsN (ptysOf xs) 9 x.ty = endsN (ptysOf xs) (8 - n) z.ty from by
                rw [he2.out]
                exact ends_go (by rw [Hnext.out, if_pos ⟨hsg, h64⟩, findP_ty, hz]; rfl))
              have Hzm := Lib.hid (findP_mem hz).1
              generalize hd : (.cells #[.string ⟨f.kind.signs.toArray⟩, .string ⟨f.kind.base.toArray⟩, .string ⟨f.kind.name.toArray⟩] 70 : Obj) = ob
              have x2 : (wr.alloc ob).cell? ⟨wr.heap.size, 2, none⟩ = some (.string ⟨f.kind.name.toArray⟩) := by rw [← hd]; simp
              have x3 : (wr.alloc ob).cell? ⟨b, 1, none⟩ = some (.map (some mb)) := by
                rw [World.cell?_alloc_old _ _ _ (show b ≠ wr.heap.size by omega)]
                exact (hbr.out.cell (p := ⟨b, 1, none⟩) hb).trans Hm.out
              have hlook : ∀ q, (Instr.lookup 130 (.map (some mb)) (.string ⟨f.kind.name.toArray⟩) false).run Tryz.prog ((wr.alloc ob).drewN q) = .ok (.pointer (some ⟨z.blk, 0, none⟩)) ((wr.alloc ob).drewN q) := fun q => by
                have := named_look (FMap.below (FMap.alloc (FMap.below Hn.out hbr.out) ob) (below_drewN (Below.refl _ _) q)) f.kind.name (by omega)
                rw [hz] at this
                exact this
              have Hbb := Lib.hid (show Below w.heap.size w (wr.alloc ob) from hbr.out.alloc hzw _)
              have Hd := Lib.hid hd
              clear hd hsg h64 hz hsome
              go_wp2_with ((with_reducible refine wpList_load_mid (op := ⟨_, .load 70 _, _, _, _, none⟩) rfl 70 _ rfl bA (oA + 2) ?_ _ _ Hrg.out Tryz.underlying70 ?_ ?_ ?_); rfl; rfl; kernel_rfl)
              rw [Hd.out]
              refine wp_region_slots3 [28, 29, 30, 31, 32, 33, 34, 1] (by kernel_rfl) (by kernel_rfl) (by kernel_rfl) (fun u => by dsimp only [frameOf, setMany, List.set, Nat.zero_add, Nat.reduceAdd])
                (fun i v W => match i with | 0 => v = .pointer (some ⟨b, 0, none⟩) | 1 => v = .pointer (some ⟨b, 0, none⟩) | 2 => v = .pointer (some ⟨b, 1, none⟩) | 3 => v = .map (some mb) | 4 => v = .pointer (some ⟨wr.heap.size, 2, none⟩) | 5 => v = .string ⟨f.kind.name.toArray⟩ | 6 => v = .pointer (some ⟨z.blk, 0, none⟩) | 7 => v = .pointer (some ⟨z.blk, 0, none⟩) | _ => True) (fun L U W => ∃ q, W = (wr.alloc ob).drewN q) (fun _ _ => True) (fun _ _ _ _ _ h => h) ⟨1, rfl⟩ ?_ ?_
              · repeat (first | exact Steps.nil | (refine Steps.cons ?_ ?_; rotate_left))
                all_goals
                  rintro L U W hL hpre ⟨q, rfl⟩ hun hdep K hK
                  have hlq := hlook q
                  clear hun hdep
                  first | (simp [Region.binds] at hpre; done) | simp [Region.binds] at hpre | clear hpre
                  go_simp
                  first | exact hK _ _ _ rfl trivial ⟨q, rfl⟩ rfl | exact hK _ _ _ rfl trivial ⟨q, rfl⟩ (by simp [Act.put, hpre])
              · rintro L U W hL hφ ⟨q, rfl⟩
                have e7 : U 7 = .pointer (some ⟨z.blk, 0, none⟩) := hφ 7 (by decide)
                simp only [e7]
                clear hφ hL hlook x2 x3
                go_wp2_with fail
                go_roundw
                case rel => exact ⟨n + 1, z, by go_num, by omega, rfl, Hzm.out, by show _ = endsN (ptysOf xs) (9 - (n + 1)) z.ty; rw [Hz.out, show 9 - (n + 1) = 8 - n by omega], below_drewN Hbb.out _⟩
                case measure => simp [intOf]; omega
          · have s3 : (f.kind.base == [64]) = false := by simp [h64]
            have s5 : (f.kind.base != [64]) = true := by simp [h64]
            have Hend := Lib.hid (he2.out.trans (ends_stop (by rw [Hnext.out, if_neg (fun h => h64 h.2)])))
            clear hsg h64
            go_wp2_with ((with_reducible refine wpList_load_mid (op := ⟨_, .load 70 _, _, _, _, none⟩) rfl 70 _ rfl bA (oA + 2) ?_ _ _ Hrg.out Tryz.underlying70 ?_ ?_ ?_); rfl; rfl; kernel_rfl)
            go_ret
            exact ⟨ret1 (vbool Hend.out.symm), hbr.out.alloc hzw _⟩
        · have s1 : (f.kind.signs != []) = true := by simp [hsg]
          have s2 : f.kind.signs.isEmpty = false := by simp [hsg]
          have s4 : (!f.kind.signs.isEmpty) = true := by simp [hsg]
          have Hend := Lib.hid (he2.out.trans (ends_stop (by rw [Hnext.out, if_neg (fun h => hsg h.1)])))
          clear hsg
          go_wp2_with ((with_reducible refine wpList_load_mid (op := ⟨_, .load 70 _, _, _, _, none⟩) rfl 70 _ rfl bA (oA + 2) ?_ _ _ Hrg.out Tryz.underlying70 ?_ ?_ ?_); rfl; rfl; kernel_rfl)
          go_ret
          exact ⟨ret1 (vbool Hend.out.symm), hbr.out.alloc hzw _⟩
      · have t1 : ((y.ty.sort.toNat : Int) != 85) = true := bne_byte (d := 85) h85
        have Hend := Lib.hid (he2.out.trans (ends_stop (next_sort h85)))
        clear h85
        go_wp2_with fail
        go_ret
        exact ⟨ret1 (vbool Hend.out.symm), hbr.out⟩
    · obtain rfl : n = 9 := by omega
      have Hend := Lib.hid (show endsN (ptysOf xs) 9 x.ty = false from he.out)
      go_wp2_with fail
      go_ret
      exact ⟨ret1 (vbool Hend.out.symm), hbr.out⟩
end Go.Proofs.YtdhinlhafoiaiaaGreatDoor
/- Append of one element to a row of the call's own: and where the row lies then. -/
namespace Go.Proofs.YtdhinlhafoiaiaaGreatDoor
open Go.RowKit
set_option linter.unusedVariables false

section
variable {P : Program}
theorem run_append_where (w : World) (base : Nat) (t ty e : TypeId) (i : TypeInfo) (z : Value) (size bytes : Nat) (ht : P.underlying t = some (.slice e)) (hi : P.info? e = some i) (hz : i.zero = some z)
    (hsize : i.size = size) (hby : i.bytes = bytes) (hzs : z.cells.size = size) (hsz : 0 < size)
    (v : Value) (n : Nat) (xs : List Value) (hown : w.ownsRow base e size v n xs)
    (a : Addr) (m c : Nat) (news : List Value) (hl : news.length = m * size) (hnews : ∀ j u, news[j]? = some u → w.cell? (a.add j) = some u) (h1 : ∀ u ∈ news, u.oneCell' = true)
    (hm : 0 < m) (h63 : n + m ≤ maxLen) (hbytes : (n + m) * bytes ≤ 140737488355328) (hbase : base ≤ w.heap.size) :
    ∃ v' w', (Builtin.append_ #[t, t] ty #[v, .slice (some a) m c]).run P w = .ok v' w' ∧ w'.ownsRow base e size v' (n + m) (xs ++ news) ∧ w.grownBy w' v.ownBlock ∧
      (v'.ownBlock = v.ownBlock ∨ ∃ k, v'.ownBlock = some k ∧ w.heap.size ≤ k) := by
  obtain ⟨v', w', hr, h2, h3, _⟩ := run_append_own (P := P) w base t ty e i z size bytes ht hi hz hsize hby hzs hsz v n xs hown a m c news hl hnews h1 h63 hbytes hbase
  refine ⟨v', w', hr, h2, h3, ?_⟩
  subst hsize
  subst hby
  have h63' : n + m ≤ 9223372036854775807 := by simp only [maxLen] at h63; omega
  rcases hown.2 with ⟨rfl, rfl⟩ | ⟨g, cap, cur, rfl, hbg, hg, hnc, hcm, hcs, htake⟩
  · have hq := run_append_nil (P := P) w t ty e i z ht hi hz a m c news hl hnews hm (by omega) (by have hb := hbytes; simp only [Nat.zero_add] at hb; omega)
    rw [hq] at hr
    injection hr with e1 _
    subst e1
    exact .inr ⟨_, rfl, Nat.le_refl _⟩
  · by_cases hroom : n + m ≤ cap
    · have hfit : n * i.size + news.length ≤ cur.size := by rw [hl, hcs, ← Nat.add_mul]; exact Nat.mul_le_mul_right _ hroom
      have hq := run_append_room (P := P) w t ty e i ht hi g n cap cur hg a m c news hl hnews h1 hroom hfit
      rw [hq] at hr
      injection hr with e1 _
      subst e1
      exact .inl rfl
    · have holds : ∀ j u, xs[j]? = some u → w.cell? ((⟨g, 0, none⟩ : Addr).add j) = some u := hown.cells (g := g) rfl
      have hq := run_append_grow (P := P) w t ty e i z ht hi hz ⟨g, 0, none⟩ n cap xs hown.1 holds a m c news hl hnews (by omega) (by omega) (growslice_fits (by omega) hbytes)
      rw [hq] at hr
      injection hr with e1 _
      subst e1
      exact .inr ⟨_, rfl, Nat.le_refl _⟩
/-- wpList_app1, and what else it keeps, and where the row lies. -/
theorem wpList_app1W (w : World) {ops : Array Oper} {rest : List Oper} {o : Oper} {a : Act} {Q : Exit → Act → World → Prop} (hgd : o.guard = none) (s x : Operand) (t : TypeId)
    (ho : o.op = .call { callee := .builtin .append, args := #[s, x], argTypes := #[t, t] })
    (base : Nat) (e : TypeId) (z : Value) (bytes : Nat) (ht : P.underlying t = some (.slice e)) (hinfo : (P.info? e).map (fun i => (i.zero, i.size, i.bytes)) = some (some z, 1, bytes))
    (hzs : z.cells.size = 1) (W : World) (u : Value) (hw : w = W.alloc (.cells #[u] e)) (hu : u.oneCell' = true) (v : Value) (n : Nat) (xs : List Value) (hs : a.eval s = v) (hx : a.eval x = .slice (some ⟨W.heap.size, 0, none⟩) 1 1)
    (hown : W.ownsRow base e 1 v n xs)
    (h63 : n + 1 ≤ maxLen) (hbytes : (n + 1) * bytes ≤ 140737488355328) (hbase : base ≤ W.heap.size)
    (h : ∀ v' w', w'.ownsRow base e 1 v' (n + 1) (xs ++ [u]) → W.grownBy w' v.ownBlock → (v'.ownBlock = v.ownBlock ∨ ∃ k, v'.ownBlock = some k ∧ W.heap.size ≤ k) → wpList P ops Q rest (a.put o.dst v') w') : wpList P ops Q (o :: rest) a w := by
  subst hw
  obtain ⟨i0, hi, hz0, hz1, hz2⟩ := info_parts hinfo
  obtain ⟨v', w', hrun, r1, r2, r3⟩ := run_append_where (P := P) (W.alloc (.cells #[u] e)) base t o.type e i0 z 1 bytes ht hi hz0 hz1 hz2 hzs (by decide) v n xs (hown.alloc _) ⟨W.heap.size, 0, none⟩ 1 1 [u] rfl (by
    intro j y hj
    match j, hj with
    | 0, hj => simp at hj; subst hj; simp [Addr.add, World.cell?_alloc_new]) (by intro y hy; simp at hy; subst hy; exact hu) (by decide) h63 hbytes (by simp; omega)
  refine wpList_plain hgd fun K' hK' => ?_
  unfold Oper.wp
  simp [execOp, ho, resolve, invoke, builtin, hs, hx, hrun, Result.andThen]
  refine hK' _ _ (h v' w' r1 ?_ ?_)
  · exact ⟨r2.os, r2.tape, r2.output, Nat.le_trans (by simp) r2.size, fun k hk hne => (r2.block k (by simp; omega) hne).trans (heap_alloc_old W _ hk)⟩
  · rcases r3 with r3 | ⟨k, r3, r4⟩
    · exact .inl r3
    · exact .inr ⟨k, r3, by simp at r4; omega⟩
end
end Go.Proofs.YtdhinlhafoiaiaaGreatDoor
/- readSchema of the program. -/
namespace Go.Proofs.YtdhinlhafoiaiaaGreatDoor
open Go.RowKit
set_option maxRecDepth 100000
set_option linter.unusedVariables false
set_option linter.unusedSimpArgs false
attribute [local go_sem] ba_get ba_toList ba_extract take_drop_all ByteArray.mk_append_mk

/-- A type that stays as it is while one row is written. -/
theorem ITy.kept {w w' : World} {x : PT} {row : Option Nat} (h : ITy w x) (hg : w.grownBy w' row) (h1 : row ≠ some x.blk) (h2 : ∀ k, 0 < x.ty.fields.length → x.fv.ownBlock = some k → row ≠ some k) : ITy w' x := by
  obtain ⟨h0, hk, a0, a1, a2, a3, A, c, e, hl, hr⟩ := h
  have hne : some x.blk ≠ row := fun e => h1 e.symm
  refine ⟨Nat.lt_of_lt_of_le h0 hg.size, hk.grown h0 hg hne, hg.cell a0 hne, hg.cell a1 hne, hg.cell a2 hne, hg.cell a3 hne, A, c, e, hl, hr.1, hr.2.1, fun hn => ?_⟩
  obtain ⟨b, off, eA, hb, hc⟩ := hr.2.2 hn
  have hne2 : some b ≠ row := fun e2 => h2 b (by omega) (by rw [e, eA]; rfl) e2.symm
  exact ⟨b, off, eA, Nat.lt_of_lt_of_le hb hg.size, fun j u hu => hg.cell (hc j u hu) hne2⟩
theorem ITy.fvlt {w : World} {x : PT} (h : ITy w x) {k : Nat} (hn : 0 < x.ty.fields.length) (hk : x.fv.ownBlock = some k) : k < w.heap.size := by
  obtain ⟨_, _, _, _, _, _, A, c, e, _, hr⟩ := h
  obtain ⟨b, off, eA, hb, _⟩ := hr.2.2 (by omega)
  rw [e, eA] at hk
  simp only [Value.ownBlock, Option.some.injEq] at hk
  omega
/-- A type that lies in blocks from lo on. -/
def TyFrom (lo : Nat) (x : PT) : Prop := lo ≤ x.blk ∧ ∀ k, 0 < x.ty.fields.length → x.fv.ownBlock = some k → lo ≤ k
/-- .. that lies beside a row. -/
def TyOff (v : Value) (x : PT) : Prop := v.ownBlock ≠ some x.blk ∧ ∀ k, 0 < x.ty.fields.length → x.fv.ownBlock = some k → v.ownBlock ≠ some k

/-- The types that were read. -/
def ITys (w : World) (lo : Nat) (v : Value) (xs : List PT) : Prop := (∀ x ∈ xs, ITy w x ∧ TyFrom lo x ∧ TyOff v x) ∧ xs.Pairwise fun x y => x.blk ≠ y.blk
theorem ITys.far {w w' : World} {lo b : Nat} {v : Value} {xs : List PT} (h : ITys w lo v xs) (hg : w.grownBy w' (some b)) (hb : b < lo) : ITys w' lo v xs :=
  ⟨fun x hx => by
    obtain ⟨h1, h2, h3⟩ := h.1 x hx
    refine ⟨h1.kept hg (fun e => ?_) (fun k hn hk e => ?_), h2, h3⟩
    · injection e with e; have := h2.1; omega
    · injection e with e; have := h2.2 k hn hk; omega, h.2⟩
theorem ITys.below {w w' : World} {lo : Nat} {v : Value} {xs : List PT} (h : ITys w lo v xs) (hb : Below w.heap.size w w') : ITys w' lo v xs :=
  ⟨fun x hx => ⟨(h.1 x hx).1.below hb, (h.1 x hx).2⟩, h.2⟩
theorem ITys.push {wo w3 w5 : World} {lo base n k1 : Nat} {e : TypeId} {v v5 : Value} {cs : List Value} {xs : List PT} {x : PT} (h : ITys wo lo v xs) (hb : Below wo.heap.size wo w3) (hown : wo.ownsRow base e k1 v n cs) (hx : ITy w3 x) (hxb : wo.heap.size ≤ x.blk)
    (hxf : ∀ k, x.fv.ownBlock = some k → wo.heap.size ≤ k) (hlo : lo ≤ wo.heap.size) (hg : w3.grownBy w5 v.ownBlock) (hwh : v5.ownBlock = v.ownBlock ∨ ∃ k, v5.ownBlock = some k ∧ w3.heap.size ≤ k) : ITys w5 lo v5 (xs ++ [x]) := by
  have hall : ∀ y ∈ xs ++ [x], ITy w3 y ∧ TyFrom lo y ∧ TyOff v y := by
    intro y hy
    rcases List.mem_append.1 hy with hy | hy
    · obtain ⟨h1, h2⟩ := h.1 y hy
      exact ⟨h1.below hb, h2⟩
    · simp at hy; subst hy
      refine ⟨hx, ⟨by omega, fun k _ hk => by have := hxf k hk; omega⟩, fun e => ?_, fun k _ hk e => ?_⟩
      · have := (hown.lt _ e).2; omega
      · have := (hown.lt _ e).2; have := hxf k hk; omega
  refine ⟨fun y hy => ?_, ?_⟩
  · obtain ⟨h1, h2, h3⟩ := hall y hy
    refine ⟨h1.kept hg h3.1 h3.2, h2, ?_⟩
    rcases hwh with hwh | ⟨k, hwh, hk⟩
    · unfold TyOff; rw [hwh]; exact h3
    · refine ⟨fun e => ?_, fun k2 hn hk2 e => ?_⟩
      · rw [hwh] at e; injection e with e; have := h1.1; omega
      · rw [hwh] at e; injection e with e; have := h1.fvlt hn hk2; omega
  · rw [List.pairwise_append]
    refine ⟨h.2, by simp, fun y hy z hz => ?_⟩
    simp at hz; subst hz
    have := (h.1 y hy).1.1
    omega
/-- A schema that lies in blocks from lo on. -/
def ISL (lo : Nat) (w : World) (p : Value) (xs : List PT) : Prop :=
  ∃ b A c mb, p = .pointer (some ⟨b, 0, none⟩) ∧ b < w.heap.size ∧ w.cell? ⟨b, 0, none⟩ = some (.slice A xs.length c) ∧ w.cell? ⟨b, 1, none⟩ = some (.map (some mb)) ∧ RowAt w A xs.length (xs.map (·.ptr)) ∧ INamed w mb xs ∧ (∀ x ∈ xs, ITy w x) ∧ (xs.Pairwise fun x y => x.blk ≠ y.blk) ∧
    lo ≤ b ∧ lo ≤ mb ∧ (∀ g o, 0 < xs.length → A = some ⟨g, o, none⟩ → lo ≤ g) ∧ ∀ x ∈ xs, TyFrom lo x
theorem ISL.isc {lo : Nat} {w : World} {p : Value} {xs : List PT} (h : ISL lo w p xs) : ISc w p xs := by
  obtain ⟨b, A, c, mb, h0, h1, h2, h3, h4, h5, h6, h7, _⟩ := h
  exact ⟨b, A, c, mb, h0, h1, h2, h3, h4, h5, h6, h7⟩
theorem ISL.below {lo : Nat} {w w' : World} {p : Value} {xs : List PT} (h : ISL lo w p xs) (hb : Below w.heap.size w w') : ISL lo w' p xs := by
  obtain ⟨b, A, c, mb, e, h0, h1, h2, h3, h4, h5, h6, h7⟩ := h
  obtain ⟨hc, _, hz⟩ := bcell hb
  exact ⟨b, A, c, mb, e, hz _ h0, (hc _ _ h0).trans h1, (hc _ _ h0).trans h2, h3.below hb, FMap.below h4 hb, fun x hx => (h5 x hx).below hb, h6, h7⟩
theorem ISL.far {lo b0 : Nat} {w w' : World} {p : Value} {xs : List PT} (h : ISL lo w p xs) (hg : w.grownBy w' (some b0)) (hb0 : b0 < lo) : ISL lo w' p xs := by
  obtain ⟨b, A, c, mb, e, h0, h1, h2, h3, h4, h5, h6, l1, l2, l3, l4⟩ := h
  have hne : some b ≠ some b0 := by intro e; injection e with e; omega
  refine ⟨b, A, c, mb, e, Nat.lt_of_lt_of_le h0 hg.size, hg.cell h1 hne, hg.cell h2 hne, ⟨h3.1, h3.2.1, fun hn => ?_⟩, FMap.kept h4 hg (by intro e; injection e with e; omega), fun x hx => (h5 x hx).kept hg (fun e => ?_) (fun k hn hk e => ?_), h6, l1, l2, l3, l4⟩
  · obtain ⟨g, o, eA, hgl, hc⟩ := h3.2.2 hn
    have := l3 g o hn eA
    exact ⟨g, o, eA, Nat.lt_of_lt_of_le hgl hg.size, fun j u hu => hg.cell (hc j u hu) (by intro e; injection e with e; simp at e; omega)⟩
  · injection e with e; have := (l4 x hx).1; omega
  · injection e with e; have := (l4 x hx).2 k hn hk; omega
/-- What reading a schema leaves. -/
def IsPost (o : Option (List Ty)) (w : World) (e : Ending) (w' : World) : Prop :=
  (match o with
    | some S => ∃ p xs, ptysOf xs = S ∧ e = .returned (.tuple #[p, .bool true]) ∧ ISL w.heap.size w' p xs
    | none => ∃ p : Option Addr, e = .returned (.tuple #[.pointer p, .bool false])) ∧ Below w.heap.size w w'
theorem IsPost.no {w w' : World} {e : Ending} {o : Option (List Ty)} (ho : o = none) {p : Option Addr} (he : e = .returned (.tuple #[.pointer p, .bool false])) (hb : Below w.heap.size w w') : IsPost o w e w' := by
  rw [ho]; exact ⟨⟨p, he⟩, hb⟩
theorem IsPost.yes {w w' : World} {e : Ending} {o : Option (List Ty)} {p : Value} {xs : List PT} (ho : o = some (ptysOf xs)) (he : e = .returned (.tuple #[p, .bool true])) (hs : ISL w.heap.size w' p xs) (hb : Below w.heap.size w w') : IsPost o w e w' := by
  rw [ho]; exact ⟨⟨p, xs, rfl, he, hs⟩, hb⟩

theorem namedF_snoc {xs : List PT} {x : PT} (h : findP xs x.ty.name = none) (l : Lit) (hl : WideAt.IsKeyLit l) : (if l.sameKey (.string x.ty.name) = true then x.ptr else namedF xs l) = namedF (xs ++ [x]) l := by
  by_cases e : l = .string x.ty.name
  · subst e
    rw [if_pos (WideAt.sameKey_self hl)]
    unfold findP at h
    show x.ptr = ptrP ((xs ++ [x]).find? fun y => decide (y.ty.name = x.ty.name))
    rw [List.find?_append, h]
    simp [ptrP]
  · rw [if_neg (fun hh => e ((WideAt.sameKey_iff (show WideAt.IsKeyLit (.string x.ty.name) from trivial)).1 hh))]
    cases l with
    | string s =>
      have hne : ¬ x.ty.name = s := fun h2 => e (by rw [h2])
      unfold namedF findP
      simp only
      rw [List.find?_append]
      simp [hne]
    | _ => rfl
theorem findP_none {xs : List PT} {n : Name} : findP xs n = none ↔ (ptysOf xs).any (fun u => decide (u.name = n)) = false := by
  unfold findP ptysOf
  rw [List.find?_eq_none, List.any_map]
  simp
theorem Tryz.infoPt : (Tryz.prog.info? 75).map (fun i => (i.zero, i.size, i.bytes)) = some (some (.pointer none), 1, 8) := by kernel_rfl

set_option maxHeartbeats 1000000 in
theorem iSchema_long (s : List UInt8) (w : World) (hs : s.length ≤ 4000000) (h : 400 < s.length) :
    Calls Tryz.prog 86 #[.string ⟨s.toArray⟩] w (IsPost (schemaL s) w) := by
  have HF := Lib.hid (show schemaL s = none from if_pos h)
  have t1 : (400 : Int) < (s.length : Int) := by omega
  go_enter Tryz.func86, Tryz.ntmps86
  go_wp2_with fail
  go_ret2
  exact IsPost.no HF.out rfl (Below.refl _ _)
end Go.Proofs.YtdhinlhafoiaiaaGreatDoor
