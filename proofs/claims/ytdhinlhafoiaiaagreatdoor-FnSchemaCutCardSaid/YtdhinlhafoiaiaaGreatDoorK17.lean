/- Texts joined: IMet3, IMet4, IMet5, SUsed, SUsed2, SCount, ICount, Args. Conditions: as each theorem names them. -/
import Derived.Laws.EntriesVeiled
import Derived.Test.YtdhinlhafoiaiaaGreatDoorRows
import Derived.ProofKit
import Derived.OpenShut
import Derived.ShutString
import Derived.ChangeOld
import Derived.SliceStrings
import Derived.Test.YtdhinlhafoiaiaaGreatDoorK01
import Derived.Test.YtdhinlhafoiaiaaGreatDoorK09
import Derived.Test.YtdhinlhafoiaiaaGreatDoorK13
import Derived.Test.YtdhinlhafoiaiaaGreatDoorK14
import Derived.Test.YtdhinlhafoiaiaaGreatDoorK16
/- met of the program: a name that was not met yet. -/
namespace Go.Proofs.YtdhinlhafoiaiaaGreatDoor
open Go.RowKit
set_option maxRecDepth 100000
set_option linter.unusedVariables false
set_option linter.unusedSimpArgs false
attribute [local go_sem] ba_get ba_toList ba_extract take_drop_all ByteArray.mk_append_mk

theorem MetSt.keep {w0 w w' : World} {B : Nat} {p : Value} {xs : List PT} {out : List Name} (h : MetSt w0 B p xs w out) (hb : Below w.heap.size w w') : MetSt w0 B p xs w' out := by
  obtain ⟨h1, h2, h3, h4, h5, v, h6, h7⟩ := h
  exact ⟨h1.trans (hb.mono (by omega)), Nat.le_trans h2 hb.size, (hb.cell (p := ⟨B, 0, none⟩) (show B < w.heap.size by omega)).trans h3, (hb.cell (p := ⟨B + 3, 0, none⟩) (show B + 3 < w.heap.size by omega)).trans h4, there_below h5 (show B + 2 < w.heap.size by omega) hb, v, (hb.cell (p := ⟨B + 2, 0, none⟩) (show B + 2 < w.heap.size by omega)).trans h6, ownsRow_below h7 hb⟩
set_option maxHeartbeats 2000000 in
theorem iVisit_step (w0 : World) (B : Nat) (p : Value) (xs : List PT) (hB : B = w0.heap.size) (hsc : ISc w0 p xs) (n : Nat) (k : Kd) (out : List Name) (w : World) (hk : kdOk k) (hb : k.base = [64]) (hin : k.name ∉ out) (hnm : k.name ∈ namesOf (ptysOf xs)) (hm : Mets (ptysOf xs) out) (hl8 : out.length ≤ 8) (hst : MetSt w0 B p xs w out)
    (hS : kindsOk (ptysOf xs)) (hok : ∀ y ∈ xs, tyOk y.ty) (hlen : xs.length < n + 1 + out.length)
    (ih : ∀ (k : Kd) (out : List Name) (w : World), kdOk k → refOk (ptysOf xs) k → Mets (ptysOf xs) out → xs.length < n + out.length → MetSt w0 B p xs w out →
      Calls Tryz.prog 92 #[kdV k, .pointer (some ⟨B, 0, none⟩), .pointer (some ⟨B + 2, 0, none⟩), .pointer (some ⟨B + 3, 0, none⟩)] w (MtPost w0 B p xs (metN (ptysOf xs) n k out))) :
    Calls Tryz.prog 92 #[kdV k, .pointer (some ⟨B, 0, none⟩), .pointer (some ⟨B + 2, 0, none⟩), .pointer (some ⟨B + 3, 0, none⟩)] w (MtPost w0 B p xs (metN (ptysOf xs) (n + 1) k out)) := by
  have hF := Lib.hid (show ∀ z, findP xs k.name = some z → metN (ptysOf xs) (n + 1) k out = if z.ty.sort = 69 then out ++ [k.name] else z.ty.fields.foldl (fun o f => metN (ptysOf xs) n f.kind o) (out ++ [k.name]) from fun z hz => by rw [metN, if_pos ⟨hb, hin⟩, findP_ty, hz]; rfl)
  obtain ⟨z, hz, hzm, hzn⟩ := findP_isSome hnm
  have Htys := Lib.hid (ISc.tys hsc)
  have Hpw := Lib.hid (ISc.pw hsc)
  have HS := Lib.hid hS
  have Hok := Lib.hid hok
  have Hsc := Lib.hid hsc
  obtain ⟨h1, h2, h3, h4, h5, v, h6, h7⟩ := hst
  obtain ⟨pb, A, c, mb, hpe, q0, q1, q2, q3, q4, _⟩ := hsc
  subst hpe
  have Ih := Lib.hid ih
  clear ih hS hok
  have hlt : pb < B := by omega
  have hb2 := q4.lt
  have x3 : w.cell? ⟨pb, 1, none⟩ = some (.map (some mb)) := (h1.cell (p := ⟨pb, 1, none⟩) hlt).trans q2
  unfold kdV
  have t1 : (k.base == [64]) = true := by simpa using hb
  have t2 : (k.base != [64]) = false := by simpa using hb
  have hnl := name_short hk
  generalize hd : (.cells #[.string ⟨k.signs.toArray⟩, .string ⟨k.base.toArray⟩, .string ⟨k.name.toArray⟩] 70 : Obj) = ob
  have y1 : (w.alloc ob).cell? ⟨w.heap.size, 1, none⟩ = some (.string ⟨k.base.toArray⟩) := by rw [← hd]; simp
  have y2 : (w.alloc ob).cell? ⟨w.heap.size, 2, none⟩ = some (.string ⟨k.name.toArray⟩) := by rw [← hd]; simp
  have y3 : (w.alloc ob).cell? ⟨pb, 1, none⟩ = some (.map (some mb)) := by rw [World.cell?_alloc_old _ _ _ (show pb ≠ w.heap.size by omega)]; exact x3
  have y4 : (w.alloc ob).cell? ⟨B, 0, none⟩ = some (.pointer (some ⟨pb, 0, none⟩)) := by rw [World.cell?_alloc_old _ _ _ (show B ≠ w.heap.size by omega)]; exact h3
  have hlook : ∀ q, (Instr.lookup 130 (.map (some mb)) (.string ⟨k.name.toArray⟩) false).run Tryz.prog ((w.alloc ob).drewN q) = .ok (ptrP (findP xs k.name)) ((w.alloc ob).drewN q) := fun q => named_look (FMap.below (FMap.alloc (FMap.belowAt q4 (show mb < B by omega) h1) ob) (below_drewN (Below.refl _ _) q)) k.name (by omega)
  rw [hz] at hlook
  unfold ptrP PT.ptr at hlook
  have H1 := Lib.hid h1
  have H3 := Lib.hid h3
  have H4 := Lib.hid h4
  have H5 := Lib.hid h5
  have H6 := Lib.hid h6
  have H7 := Lib.hid h7
  have Hin := Lib.hid hin
  have Hnm := Lib.hid hnm
  have Hm := Lib.hid hm
  have Hz := Lib.hid hz
  have Hzm := Lib.hid hzm
  have Hb64 := Lib.hid hb
  have Hd := Lib.hid hd
  have HB := Lib.hid hB
  obtain ⟨A7, c7, ev, hrow7⟩ := RowAt.own h7
  subst ev
  have Hrow7 := Lib.hid hrow7
  clear hrow7 hin hm hz hzm hzn hnm
  clear hb hd h1 h3 h4 h5 h6 h7 x3 q1 q2 q3 q4 hB
  go_enter Tryz.func92, Tryz.ntmps92
  go_wp2_with fail
  rw [Hd.out]
  refine wp_region_slots3 [8, 9, 10, 11, 12, 13, 14, 5] (by kernel_rfl) (by kernel_rfl) (by kernel_rfl) (fun u => by dsimp only [frameOf, setMany, List.set, Nat.zero_add, Nat.reduceAdd])
    (fun i v W => match i with | 0 => v = .pointer (some ⟨pb, 0, none⟩) | 1 => v = .pointer (some ⟨pb, 0, none⟩) | 2 => v = .pointer (some ⟨pb, 1, none⟩) | 3 => v = .map (some mb) | 4 => v = .pointer (some ⟨w.heap.size, 2, none⟩) | 5 => v = .string ⟨k.name.toArray⟩ | 6 => v = .pointer (some ⟨z.blk, 0, none⟩) | 7 => v = .pointer (some ⟨z.blk, 0, none⟩) | _ => True) (fun L U W => ∃ q, W = (w.alloc ob).drewN q) (fun _ _ => True) (fun _ _ _ _ _ h => h) ⟨1, rfl⟩ ?_ ?_
  · repeat (first | exact Steps.nil | (refine Steps.cons ?_ ?_; rotate_left))
    all_goals
      rintro L U W hL hpre ⟨q, rfl⟩ hun hdep K hK
      have hlq := hlook q
      clear hun hdep
      first | (simp [Region.binds] at hpre; done) | simp [Region.binds] at hpre | clear hpre
      go_simp
      first | exact hK _ _ _ rfl trivial ⟨q, rfl⟩ rfl | exact hK _ _ _ rfl trivial ⟨q, rfl⟩ (by simp [Act.put, hpre]) | exact hK undef _ _ trivial trivial ⟨q, rfl⟩ (by simp [Act.put, hpre]) | exact hK _ _ _ trivial trivial ⟨q, rfl⟩ rfl | exact hK _ _ _ trivial trivial ⟨q, rfl⟩ (by simp [Act.put, hpre])
  · rintro L U W hL hφ ⟨q, rfl⟩
    have e7 : U 7 = .pointer (some ⟨z.blk, 0, none⟩) := hφ 7 (by decide)
    simp only [e7]
    clear hφ hL
    have hbw : Below w.heap.size w ((w.alloc ob).drewN q) := below_drewN ((Below.refl _ _).alloc (Nat.le_refl _) _) q
    have Hbw := Lib.hid hbw
    have z6 := (hbw.cell (p := ⟨B + 2, 0, none⟩) (show B + 2 < w.heap.size by omega)).trans H6.out
    have Hcon := Lib.hid (ptrContains_any A7 c7 (out.map (blkN xs)) z.blk ((w.alloc ob).drewN q) (by simpa using Hrow7.out.below hbw) (by simp; omega) (fun b hb => by
      obtain ⟨m, hmo, rfl⟩ := List.mem_map.1 hb
      obtain ⟨y, hy, hym, _⟩ := findP_isSome (Hm.out.2 m hmo)
      rw [blkN_some hy]
      exact ((((Htys.out y hym).below (HB.out ▸ H1.out)).below hbw).2.1)) (((Htys.out z Hzm.out).below (HB.out ▸ H1.out)).below hbw).2.1)
    have hdec : decide (z.blk ∈ out.map (blkN xs)) = false := decide_eq_false (by rw [← blkN_some Hz.out]; exact fun h => Hin.out ((blkN_mem Hpw.out Hm.out Hnm.out).1 h))
    rw [hdec] at Hcon
    rw [List.length_map] at Hcon
    clear hbw hdec
    go_wp2_with fail
    refine Hcon.out.mono ?_
    rintro e w' ⟨rfl, rfl⟩
    have HF2 := Lib.hid (hF.out z Hz.out)
    have hty := ((Htys.out z Hzm.out).below (HB.out ▸ H1.out)).below Hbw.out
    obtain ⟨w3, hw3⟩ : ∃ w3, w3 = (w.alloc ob).drewN q := ⟨_, rfl⟩
    rw [← hw3] at hty Hbw z6 ⊢
    have hzB : z.blk < B := by rw [HB.out]; exact (Htys.out z Hzm.out).1
    obtain ⟨A8, c8, hz8, hl8', hrow8⟩ := hty.2.2.2.2.2.2
    have y2 : w3.cell? ⟨z.blk, 2, none⟩ = some (.slice A8 z.ty.fields.length c8) := by rw [← hz8]; exact hty.2.2.2.2.1
    have Hz8 := Lib.hid hz8
    have Hrow8 := Lib.hid hrow8
    have y0 : w3.cell? ⟨z.blk, 0, none⟩ = some (.int .u8 (z.ty.sort.toNat : Int)) := hty.2.2.1
    have Hown3 := Lib.hid (ownsRow_below H7.out Hbw.out)
    have HT3 := Lib.hid (there_below H5.out (show B + 2 < w.heap.size by omega) Hbw.out)
    have Hc0 := Lib.hid ((Hbw.out.cell (p := ⟨B, 0, none⟩) (show B < w.heap.size by omega)).trans H3.out)
    have Hc3 := Lib.hid ((Hbw.out.cell (p := ⟨B + 3, 0, none⟩) (show B + 3 < w.heap.size by omega)).trans H4.out)
    have hz3 : w.heap.size ≤ w3.heap.size := Hbw.out.size
    have Hb3 := Lib.hid (show Below B w0 w3 from H1.out.trans (Hbw.out.mono (by omega)))
    have hnz : ¬ (z.blk = B + 2) := by omega
    clear hty hF hw3 hrow8 hz8
    have Hpush := Lib.hid (fun (w5 : World) (A5 : Option Addr) (n5 c5 : Nat) (h1 : Below (B + 4) w3 w5) (h2 : w5.ownsRow (B + 4) 75 1 (.slice A5 n5 c5) (out.length + 1) (((out.map (blkN xs)).map ptrV) ++ [.pointer (some ⟨z.blk, 0, none⟩)])) => show MetSt w0 B (.pointer (some ⟨pb, 0, none⟩)) xs (w5.setCell ⟨B + 2, 0, none⟩ (.slice A5 n5 c5)) (out ++ [k.name]) from by
      have hT5 := there_below HT3.out (show B + 2 < B + 4 by omega) h1
      refine ⟨(Hb3.out.trans (h1.mono (by omega))).setCell (by simp) _, by simp; have := h1.size; omega, ?_, ?_, World.there_setCells hT5 (B + 2) 0 [_], .slice A5 n5 c5, ?_, ?_⟩
      · rw [World.cell?_setCell_other _ _ _ _ (by intro e; injection e with e; omega)]
        exact (h1.cell (p := ⟨B, 0, none⟩) (show B < B + 4 by omega)).trans Hc0.out
      · rw [World.cell?_setCell_other _ _ _ _ (by intro e; injection e with e; omega)]
        exact (h1.cell (p := ⟨B + 3, 0, none⟩) (show B + 3 < B + 4 by omega)).trans Hc3.out
      · have := World.rangeAt_setCells_same w5 (B + 2) 0 [.slice A5 n5 c5] hT5
        exact (by simpa using rangeAt_cell this 0 rfl : (w5.setCells (B + 2) 0 [.slice A5 n5 c5]).cell? ⟨B + 2, 0, none⟩ = some (.slice A5 n5 c5))
      · have e : (((out ++ [k.name]).map (blkN xs)).map ptrV) = ((out.map (blkN xs)).map ptrV) ++ [.pointer (some ⟨z.blk, 0, none⟩)] := by simp [blkN_some Hz.out, ptrV]
        rw [e, List.length_append]
        exact h2.kept (grown_set w5 _ _) (.inr (fun e => by have := (h2.lt _ e).1; simp at this)))
    rcases Decidable.em (z.ty.sort = 69) with h69 | h69
    · have t69 : ((z.ty.sort.toNat : Int) == 69) = true := byte_eq (d := 69) h69
      have HF3 := Lib.hid (HF2.out.trans (if_pos h69))
      clear h69
      go_wp2_with (at_builtin; refine wpList_app1W _ rfl _ _ 73 rfl (B + 4) 75 (.pointer none) 8 Tryz.underlying73 Tryz.infoPt rfl w3 (.pointer (some ⟨z.blk, 0, none⟩)) rfl rfl (.slice A7 out.length c7) out.length ((out.map (blkN xs)).map ptrV) rfl rfl Hown3.out (by unfold maxLen; omega) (by omega) (by omega) ?_; intro v5 w5 hown5 hg5 hwh; have hb5 : Below (B + 4) w3 w5 := (Below.refl _ _).grown hg5 (by omega) (fun k hk => (Hown3.out.lt k hk).1); have y5 := (hb5.cell (p := ⟨z.blk, 0, none⟩) (show z.blk < B + 4 by omega)).trans y0; have y7 := (hb5.cell (p := ⟨z.blk, 2, none⟩) (show z.blk < B + 4 by omega)).trans y2; have p0 := (hb5.cell (p := ⟨B + 2, 0, none⟩) (show B + 2 < B + 4 by omega)).trans z6; have HT5 := Lib.hid (there_below HT3.out (show B + 2 < B + 4 by omega) hb5); have f0 : w5.frozen? ⟨B + 2, 0, none⟩ = false := (by simpa using (HT5.out 0 (by decide)).2); obtain ⟨A5, n5, c5, e5⟩ := own_slice hown5; subst e5; have Hown5 := Lib.hid hown5; have Hb5 := Lib.hid hb5; have hz5 : w3.heap.size ≤ w5.heap.size := hg5.size; clear hown5 hg5 hwh hb5 y0 y2)
      go_end0
      refine ⟨rfl, ?_⟩
      rw [HF3.out]
      exact Hpush.out w5 A5 n5 c5 Hb5.out Hown5.out
    · have t69 : ((z.ty.sort.toNat : Int) == 69) = false := byte_ne (d := 69) h69
      have HF3 := Lib.hid (HF2.out.trans (if_neg h69))
      go_wp2_with (at_builtin; refine wpList_app1W _ rfl _ _ 73 rfl (B + 4) 75 (.pointer none) 8 Tryz.underlying73 Tryz.infoPt rfl w3 (.pointer (some ⟨z.blk, 0, none⟩)) rfl rfl (.slice A7 out.length c7) out.length ((out.map (blkN xs)).map ptrV) rfl rfl Hown3.out (by unfold maxLen; omega) (by omega) (by omega) ?_; intro v5 w5 hown5 hg5 hwh; have hb5 : Below (B + 4) w3 w5 := (Below.refl _ _).grown hg5 (by omega) (fun k hk => (Hown3.out.lt k hk).1); have y5 := (hb5.cell (p := ⟨z.blk, 0, none⟩) (show z.blk < B + 4 by omega)).trans y0; have y7 := (hb5.cell (p := ⟨z.blk, 2, none⟩) (show z.blk < B + 4 by omega)).trans y2; have p0 := (hb5.cell (p := ⟨B + 2, 0, none⟩) (show B + 2 < B + 4 by omega)).trans z6; have HT5 := Lib.hid (there_below HT3.out (show B + 2 < B + 4 by omega) hb5); have f0 : w5.frozen? ⟨B + 2, 0, none⟩ = false := (by simpa using (HT5.out 0 (by decide)).2); obtain ⟨A5, n5, c5, e5⟩ := own_slice hown5; subst e5; have Hown5 := Lib.hid hown5; have Hb5 := Lib.hid hb5; have hz5 : w3.heap.size ≤ w5.heap.size := hg5.size; clear hown5 hg5 hwh hb5 y0 y2)
      have Hst6 := Lib.hid (Hpush.out w5 A5 n5 c5 Hb5.out Hown5.out)
      have Hzok := Lib.hid (Hok.out z Hzm.out)
      have Hzt := Lib.hid (HS.out z.ty (List.mem_map_of_mem (f := (·.ty)) Hzm.out) h69)
      have H69 := Lib.hid h69
      have Hm1 := Lib.hid (Hm.out.snoc Hnm.out Hin.out)
      generalize w5.setCell ⟨B + 2, 0, none⟩ (.slice A5 n5 c5) = w6 at *
      clear h69
      go_loopw [37] (fun i wr => ∃ (j : Nat) (o : List Name), i = .int .i64 j ∧ j ≤ z.ty.fields.length ∧ Hid (o = (z.ty.fields.take j).foldl (fun o f => metN (ptysOf xs) n f.kind o) (out ++ [k.name])) ∧ Hid (MetSt w0 B (.pointer (some ⟨pb, 0, none⟩)) xs wr o) ∧ Hid (Mets (ptysOf xs) o ∧ out.length + 1 ≤ o.length)) (fun i _ => z.ty.fields.length - (intOf i).toNat)
      case atStart => exact ⟨0, out ++ [k.name], rfl, Nat.zero_le _, rfl, Hst6.out, ⟨Hm1.out, by simp⟩⟩
      case round =>
        obtain ⟨j, o, rfl, hj, ho, hst, hmo⟩ := hrel
        have j1 : (0 : Int) ≤ (j : Int) := by omega
        have hBr : B + 4 ≤ wr.heap.size := hst.out.2.1
        have v3 : wr.cell? ⟨B + 3, 0, none⟩ = some (visitV B) := hst.out.2.2.2.1
        have hB3 : B + 3 < wr.heap.size := by omega
        have hB3n : ¬ (B + 3 = wr.heap.size) := by omega
        by_cases hjl : j < z.ty.fields.length
        · have j2 : (j : Int) < (z.ty.fields.length : Int) := by omega
          obtain ⟨_, _, _, _, _, _, A9, c9, hz9, _, hrow9⟩ := (Htys.out z Hzm.out).below (HB.out ▸ hst.out.1)
          rw [Hz8.out] at hz9
          injection hz9 with hA9 hl9 hc9
          subst hA9
          clear hl9 hc9
          obtain ⟨b8, o8, rfl, hb8, hrg⟩ := IFds.range hrow9 hjl
          have Hfold := Lib.hid (fold_take (fun o (f : Fd) => metN (ptysOf xs) n f.kind o) (out ++ [k.name]) z.ty.fields j hjl)
          have Hfm := Lib.hid (List.getElem_mem hjl)
          have Hrg := Lib.hid (show wr.rangeAt b8 (o8 + j * 6) [.int .i64 (z.ty.fields[j].tag : Int), .string ⟨z.ty.fields[j].name.toArray⟩, .string ⟨z.ty.fields[j].kind.signs.toArray⟩, .string ⟨z.ty.fields[j].kind.base.toArray⟩, .string ⟨z.ty.fields[j].kind.name.toArray⟩, .string ⟨z.ty.fields[j].given.toArray⟩] from hrg)
          clear hrg hrow9
          generalize z.ty.fields[j] = f at Hfold Hfm Hrg
          have Hkd := Lib.hid ((Hzok.out.2.2.1.1 f Hfm.out).2.2.2.2 H69.out).1
          have Href := Lib.hid (Hzt.out f Hfm.out)
          have Hcall := Lib.hid (fun W (h : MetSt w0 B (.pointer (some ⟨pb, 0, none⟩)) xs W o) => Ih.out f.kind o W Hkd.out Href.out hmo.out.1 (by have := hmo.out.2; omega) h)
          unfold kdV at Hcall
          unfold visitV at v3
          go_wp2_with ((with_reducible refine wpList_load_mid (op := ⟨_, .load 94 _, _, _, _, none⟩) rfl 94 _ rfl b8 (o8 + j * 6) ?_ _ _ Hrg.out Tryz.underlying94 ?_ ?_ ?_); rfl; rfl; kernel_rfl)
          refine (Hcall.out _ (hst.out.keep ((Below.refl _ _).alloc (Nat.le_refl _) _))).mono ?_
          rintro e w9 ⟨rfl, hst9⟩
          have Hst9 := Lib.hid hst9
          have Hmk := Lib.hid (metN_mets HS.out n f.kind o Href.out hmo.out.1)
          clear hst9 v3
          go_wp2_with fail
          go_roundw
          case rel => exact ⟨j + 1, metN (ptysOf xs) n f.kind o, by go_num, by omega, (by rw [Hid] at *; rw [Hfold, ← ho]), Hst9.out, ⟨Hmk.out.1, by obtain ⟨l, hl⟩ := Hmk.out.2; rw [hl]; have := hmo.out.2; simp; omega⟩⟩
          case measure => simp [intOf]; omega
        · have j2 : ¬ (j : Int) < (z.ty.fields.length : Int) := by omega
          have Hfin := Lib.hid (show metN (ptysOf xs) (n + 1) k out = o by rw [HF3.out, ho.out, List.take_of_length_le (by omega)])
          go_wp2_with fail
          go_end0
          refine ⟨rfl, ?_⟩
          rw [Hfin.out]
          exact hst.out
end Go.Proofs.YtdhinlhafoiaiaaGreatDoor
/- met's closure: the cases joined. -/
namespace Go.Proofs.YtdhinlhafoiaiaaGreatDoor
open Go.RowKit
set_option linter.unusedVariables false

theorem iVisit_any (w0 : World) (B : Nat) (p : Value) (xs : List PT) (hB : B = w0.heap.size) (hsc : ISc w0 p xs) (hS : kindsOk (ptysOf xs)) (hok : ∀ y ∈ xs, tyOk y.ty) (hl8 : xs.length ≤ 8) : ∀ (n : Nat) (k : Kd) (out : List Name) (w : World),
    kdOk k → refOk (ptysOf xs) k → Mets (ptysOf xs) out → xs.length < n + out.length → MetSt w0 B p xs w out →
    Calls Tryz.prog 92 #[kdV k, .pointer (some ⟨B, 0, none⟩), .pointer (some ⟨B + 2, 0, none⟩), .pointer (some ⟨B + 3, 0, none⟩)] w (MtPost w0 B p xs (metN (ptysOf xs) n k out)) := by
  have hpl : (ptysOf xs).length = xs.length := by simp [ptysOf]
  intro n
  induction n with
  | zero =>
    intro k out w _ _ hm hn _
    have := hm.len
    omega
  | succ n ih =>
    intro k out w hk hr hm hn hst
    have hol : out.length ≤ 8 := by have := hm.len; omega
    by_cases hb : k.base = [64]
    · by_cases hin : k.name ∈ out
      · exact iVisit_has w0 B p xs hB hsc n k out w hk hb hin hm hol hst
      · exact iVisit_step w0 B p xs hB hsc n k out w hk hb hin (findTy_isSome.1 (hr hb)) hm hol hst hS hok (by omega) ih
    · exact iVisit_no w0 B p xs hB hsc n k out w hk hb hst
end Go.Proofs.YtdhinlhafoiaiaaGreatDoor
/- met of the program: the types that are met from a kind, in the order of meeting. -/
namespace Go.Proofs.YtdhinlhafoiaiaaGreatDoor
open Go.RowKit
set_option maxRecDepth 100000
set_option linter.unusedVariables false
set_option linter.unusedSimpArgs false
attribute [local go_sem] ba_get ba_toList ba_extract take_drop_all ByteArray.mk_append_mk

/-- A row of pointers to the types of names. -/
def PtrRow (w : World) (v : Value) (xs : List PT) (out : List Name) : Prop := ∃ A c, v = .slice A out.length c ∧ RowAt w A out.length ((out.map (blkN xs)).map ptrV)
theorem PtrRow.below {w w' : World} {v : Value} {xs : List PT} {out : List Name} (h : PtrRow w v xs out) (hb : Below w.heap.size w w') : PtrRow w' v xs out := by
  obtain ⟨A, c, e, hr⟩ := h
  exact ⟨A, c, e, hr.below hb⟩
/-- What met leaves. -/
def MePost (xs : List PT) (out : List Name) (w : World) (e : Ending) (w' : World) : Prop := ∃ v, e = .returned v ∧ PtrRow w' v xs out ∧ Below w.heap.size w w'

set_option maxHeartbeats 1000000 in
theorem iMet_any (p : Value) (xs : List PT) (k : Kd) (w : World) (hsc : ISc w p xs) (hS : kindsOk (ptysOf xs)) (hok : ∀ y ∈ xs, tyOk y.ty) (hl8 : xs.length ≤ 8) (hk : kdOk k) (hr : refOk (ptysOf xs) k) :
    Calls Tryz.prog 56 #[p, kdV k] w (MePost xs (metL (ptysOf xs) k) w) := by
  have hF := Lib.hid (show metL (ptysOf xs) k = metN (ptysOf xs) 9 k [] from rfl)
  have Hv := Lib.hid (fun W (h : MetSt w w.heap.size p xs W []) => iVisit_any w w.heap.size p xs rfl hsc hS hok hl8 9 k [] W hk hr (Mets.nil _) (by simp; omega) h)
  obtain ⟨pb, A, c, mb, rfl, q0, q1, q2, q3, q4, _⟩ := hsc
  clear q1 q2 q3 q4 hS hok hr
  unfold kdV at *
  unfold MetSt visitV at Hv
  go_enter Tryz.func56, Tryz.ntmps56
  go_wp2_with fail
  refine (Hv.out _ ?_).mono ?_
  · refine ⟨((((Below.refl _ _).alloc (Nat.le_refl _) _).alloc (by simp) _).alloc (by simp; omega) _).alloc (by simp; omega) _, ?_, ?_, ?_, ?_, .slice none 0 0, ?_, World.ownsRow_nil _ _ _ _⟩
    · simp
    · simp [go_sem]
    · rw [show w.heap.size + 3 = w.heap.size + 1 + 1 + 1 from rfl]; simp [go_sem]
    · intro j hj
      obtain rfl : j = 0 := by omega
      rw [show w.heap.size + 2 = w.heap.size + 1 + 1 from rfl]
      exact ⟨by simp [go_sem], by simp [go_sem]⟩
    · rw [show w.heap.size + 2 = w.heap.size + 1 + 1 from rfl]; simp [go_sem]
  rintro e w1 ⟨rfl, h1, h2, h3, h4, h5, v, h6, h7⟩
  obtain ⟨A7, c7, ev, hrow⟩ := RowAt.own h7
  subst ev
  have Hrow := Lib.hid hrow
  have H1 := Lib.hid h1
  have h6' : w1.cell? ⟨w.heap.size + 1 + 1, 0, none⟩ = some (.slice A7 (metN (ptysOf xs) 9 k []).length c7) := h6
  clear hrow h1 h2 h3 h4 h5 h7 h6 Hv
  generalize metN (ptysOf xs) 9 k [] = out at *
  go_wp2_with fail
  go_ret
  exact ⟨_, rfl, by rw [hF.out]; exact ⟨A7, c7, rfl, Hrow.out⟩, H1.out⟩
end Go.Proofs.YtdhinlhafoiaiaaGreatDoor
/- The reference's used, walked. -/
namespace Go.Proofs.YtdhinlhafoiaiaaGreatDoor
open Go.RowKit
set_option maxRecDepth 100000
set_option linter.unusedVariables false
set_option linter.unusedSimpArgs false
attribute [local go_sem] ba_get ba_toList ba_extract take_drop_all ByteArray.mk_append_mk

/-- A kind that names no type: nothing is added. -/
theorem sUsed_no (xv v : Value) (S : List Ty) (n : Nat) (k : Kd) (l : List Name) (w : World) (hk : kdOk k) (hb : k.base ≠ [64]) (ho : OutRow w v l) :
    Calls Tryz.prog 58 #[xv, .string ⟨(kdB k).toArray⟩, v] w (UsPost (usedN S (n + 1) k l) w) := by
  have HF := Lib.hid (used_no (S := S) (n := n) (l := l) hb)
  have Hir := Lib.hid (show isRef k = false by simp [isRef, hb])
  obtain ⟨g, c, rfl, hg⟩ := ho
  have Hg := Lib.hid hg
  clear hg hb
  go_enter Tryz.func58, Tryz.ntmps58
  go_wp2_with fail
  refine (l2CoreK_any k hk _).mono ?_
  rintro e w1 ⟨rfl, rfl⟩
  go_wp2_with fail
  refine (l2RefCore_any k hk _).mono ?_
  rintro e w1 ⟨rfl, rfl⟩
  rw [Hir.out]
  go_wp2_with fail
  go_ret
  exact ⟨_, rfl, by rw [HF.out]; exact ⟨g, c, rfl, Hg.out⟩, Below.refl _ _⟩

set_option maxHeartbeats 2000000 in
/-- A name that was met. -/
theorem sUsed_has (xv v : Value) (S : List Ty) (n : Nat) (k : Kd) (l : List Name) (w : World) (hk : kdOk k) (hb : k.base = [64]) (hh : hasS k.name l = true) (ho : OutRow w v l) (hl : l.length ≤ 100) :
    Calls Tryz.prog 58 #[xv, .string ⟨(kdB k).toArray⟩, v] w (UsPost (usedN S (n + 1) k l) w) := by
  have HF := Lib.hid (used_has (S := S) (n := n) hh)
  have Hir := Lib.hid (show isRef k = true by simp [isRef, hb])
  have Hnm := Lib.hid (show refNm k = k.name by simp [refNm, hb])
  obtain ⟨p1, p2, p3, p4, p5⟩ := place (belowB k.name) l
  obtain ⟨g, c, rfl, hg, hlc, hcm, hcell⟩ := ho
  have Ho := Lib.hid (show OutRow w (.slice (some ⟨g, 0, none⟩) l.length c) l from ⟨g, c, rfl, hg, hlc, hcm, hcell⟩)
  have hlt : (l.takeWhile (belowB k.name)).length < l.length := by
    unfold hasS at hh
    rw [p4] at hh
    rcases Nat.lt_or_ge (l.takeWhile (belowB k.name)).length l.length with h | h
    · exact h
    · rw [List.drop_of_length_le h] at hh; simp at hh
  generalize hJ : (l.takeWhile (belowB k.name)).length = J at *
  have he : l[J] = k.name := by
    unfold hasS at hh
    rw [p4, List.drop_eq_getElem_cons hlt] at hh
    simpa [List.getElem?_eq_getElem hlt] using hh
  have Hp := Lib.hid p1
  have Hc := Lib.hid hcell
  clear p1 p2 p3 p4 hh hJ hcell hb
  go_enter Tryz.func58, Tryz.ntmps58
  go_wp2_with fail
  refine (l2CoreK_any k hk _).mono ?_
  rintro e w1 ⟨rfl, rfl⟩
  go_wp2_with fail
  refine (l2RefCore_any k hk _).mono ?_
  rintro e w1 ⟨rfl, rfl⟩
  rw [Hir.out, Hnm.out]
  have Hend := Lib.hid he
  generalize k.name = nm at Hp Hend
  clear he
  go_wp2_with fail
  go_loopw [9] (fun i wr => ∃ j : Nat, i = .int .i64 j ∧ j ≤ J ∧ w = wr) (fun i _ => J - (intOf i).toNat)
  case atStart => exact ⟨0, rfl, Nat.zero_le _, rfl⟩
  case round =>
    obtain ⟨j, rfl, hj, rfl⟩ := hrel
    have i1 : (0 : Int) ≤ (j : Int) := by omega
    have i2 : (j : Int) < (l.length : Int) := by omega
    have cl := Hc.out j (by omega)
    by_cases hjJ : j < J
    · have t1 : Op.bytesLess l[j] nm = true := by rw [blt]; simpa [belowB] using Hp.out j (by omega) hjJ
      go_wp2_with fail
      go_roundw
      case rel => exact ⟨j + 1, by go_num, by omega, trivial⟩
      case measure => simp [intOf]; omega
    · obtain rfl : j = J := by omega
      have e0 := Hend.out
      have t1 : Op.bytesLess l[j] nm = false := by rw [blt, e0]; simp [List.lt_irrefl]
      have t2 : (l[j] == nm) = true := by simp [e0]
      clear e0
      go_wp2_with fail
      go_ret
      exact ⟨_, rfl, by rw [HF.out]; exact Ho.out, Below.refl _ _⟩
end Go.Proofs.YtdhinlhafoiaiaaGreatDoor
/- The reference's used: a name that was not met yet. -/
namespace Go.Proofs.YtdhinlhafoiaiaaGreatDoor
open Go.RowKit
set_option maxRecDepth 100000
set_option linter.unusedVariables false
set_option linter.unusedSimpArgs false
attribute [local go_sem] ba_get ba_toList ba_extract take_drop_all ByteArray.mk_append_mk

set_option maxHeartbeats 4000000 in
theorem sUsed_step (xv v : Value) (xs : List (Ty × Value)) (n : Nat) (k : Kd) (l : List Name) (w : World) (hx : SSc w xv xs) (hk : kdOk k) (hb : k.base = [64]) (hh : hasS k.name l = false) (ho : OutRow w v l) (hl : l.length ≤ 100)
    (t : Ty) (fv : Value) (hf : findX xs k.name = some (t, fv)) (hty : tyOk t)
    (hm : Mets (tysOf xs) (putS k.name l)) (hs : SortedN (putS k.name l)) (hS : kindsOk (tysOf xs))
    (ih : ∀ (k : Kd) (l : List Name) (w : World) (v : Value), SSc w xv xs → kdOk k → refOk (tysOf xs) k → Mets (tysOf xs) l → SortedN l → xs.length < n + l.length → OutRow w v l → Calls Tryz.prog 58 #[xv, .string ⟨(kdB k).toArray⟩, v] w (UsPost (usedN (tysOf xs) n k l) w)) (hn : xs.length < n + 1 + l.length) :
    Calls Tryz.prog 58 #[xv, .string ⟨(kdB k).toArray⟩, v] w (UsPost (usedN (tysOf xs) (n + 1) k l) w) := by
  have hft : findTy (tysOf xs) k.name = some t := by rw [findX_ty, hf]; rfl
  have HF := Lib.hid (used_step (n := n) hb hh hft)
  have Hir := Lib.hid (show isRef k = true by simp [isRef, hb])
  have Hnm := Lib.hid (show refNm k = k.name by simp [refNm, hb])
  obtain ⟨p1, p2, p3, p4, p5⟩ := place (belowB k.name) l
  obtain ⟨g, c, rfl, hg, hlc, hcm, hcell⟩ := ho
  have hput : putS k.name l = l.take (l.takeWhile (belowB k.name)).length ++ k.name :: l.drop (l.takeWhile (belowB k.name)).length := by unfold putS; rw [← p3, ← p4]
  generalize hJ : (l.takeWhile (belowB k.name)).length = J at *
  have hne : ∀ (h : J < l.length), l[J] ≠ k.name := by
    intro h e
    unfold hasS at hh
    rw [p4, List.drop_eq_getElem_cons h] at hh
    simp [e] at hh
  have Hp := Lib.hid p1
  have Hp2 := Lib.hid p2
  have Hc := Lib.hid hcell
  have Hput := Lib.hid hput
  have Hne := Lib.hid hne
  have Hft := Lib.hid hft
  have Hf := Lib.hid hf
  have Hm := Lib.hid hm
  have Hs := Lib.hid hs
  have HS := Lib.hid hS
  have Ih := Lib.hid ih
  have Hx := Lib.hid hx
  have Hty := Lib.hid hty
  clear p1 p2 p3 p4 hh hJ hcell hb hput hne hft hf hm hs hS ih hx hty
  go_enter Tryz.func58, Tryz.ntmps58
  go_wp2_with fail
  refine (l2CoreK_any k hk _).mono ?_
  rintro e w1 ⟨rfl, rfl⟩
  go_wp2_with fail
  refine (l2RefCore_any k hk _).mono ?_
  rintro e w1 ⟨rfl, rfl⟩
  rw [Hir.out, Hnm.out]
  generalize k.name = nm at *
  go_wp2_with fail
  go_loopw [9] (fun i wr => ∃ j : Nat, i = .int .i64 j ∧ j ≤ J ∧ w = wr) (fun i _ => J - (intOf i).toNat)
  case atStart => exact ⟨0, rfl, Nat.zero_le _, rfl⟩
  case round =>
    obtain ⟨j, rfl, hj, rfl⟩ := hrel
    have i1 : (0 : Int) ≤ (j : Int) := by omega
    by_cases hjJ : j < J
    · have i2 : (j : Int) < (l.length : Int) := by omega
      have cl := Hc.out j (by omega)
      have t1 : Op.bytesLess l[j] nm = true := by rw [blt]; simpa [belowB] using Hp.out j (by omega) hjJ
      go_wp2_with fail
      go_roundw
      case rel => exact ⟨j + 1, by go_num, by omega, trivial⟩
      case measure => simp [intOf]; omega
    · obtain rfl : j = J := by omega
      clear hjJ hj
      have i3 : (j : Int) ≤ (c : Int) := by omega
      have i4 : (j : Int) ≤ (l.length : Int) := by omega
      obtain ⟨o, ho⟩ : ∃ o : Nat, o = if c = j then 0 else j := ⟨_, rfl⟩
      have Ho := Lib.hid ho
      have Hcs := Lib.hid (show ∀ i x, (scells (l.take j))[i]? = some x → w.cell? ⟨g, i, none⟩ = some x from fun i x hx => take_cells Hc.out hx)
      have Hcd := Lib.hid (show ∀ i x, (scells (l.drop j))[i]? = some x → w.cell? ⟨g, o + i, none⟩ = some x from fun i x hx => by
        by_cases e : c = j
        · rw [List.drop_of_length_le (by omega)] at hx; simp [scells] at hx
        · rw [Ho.out, if_neg e]; exact drop_cells Hc.out hx)
      clear ho
      rcases Nat.lt_or_ge j l.length with hjl | hjl
      case' inl =>
        have i2 : (j : Int) < (l.length : Int) := by omega
        have cl := Hc.out j hjl
        have t1 : Op.bytesLess l[j] nm = false := by rw [blt]; simpa [belowB] using Hp2.out hjl
        have t2 : (l[j] == nm) = false := by simpa using Hne.out hjl
        go_wp2_with fail
        clear cl t1 t2
      case' inr =>
        have i2 : ¬ (j : Int) < (l.length : Int) := by omega
        go_wp2_with fail
      all_goals
        refine wp_region_slots3 [49, 50, 51, 52, 53, 54, 55, 56, 57, 58, 59, 60, 2] (by kernel_rfl) (by kernel_rfl) (by kernel_rfl) (fun u => by dsimp only [frameOf, setMany, List.set, Nat.zero_add, Nat.reduceAdd])
          (fun i v W => match i with | 1 => v = .slice (some ⟨g, 0, none⟩) l.length c | 2 => v = .int .i64 j | 3 => v = .slice (some ⟨g, 0, none⟩) j c | 5 => v = .string ⟨nm.toArray⟩ | 8 => v = .slice (some ⟨g, 0, none⟩) l.length c | 9 => v = .int .i64 j | 10 => v = .slice (some ⟨g, o, none⟩) (l.length - j) (c - j) | _ => True)
          (fun L U W => Below w.heap.size w W ∧ (L 0 = true → L 4 = false → W.ownsRow w.heap.size 9 1 (U 0) 0 []) ∧
            (L 4 = true → L 7 = false → W.ownsRow w.heap.size 9 1 (U 4) j (scells (l.take j))) ∧
            (L 7 = true → L 11 = false → W.ownsRow w.heap.size 9 1 (U 7) (j + 1) (scells (l.take j ++ [nm]))) ∧
            (L 11 = true → W.ownsRow w.heap.size 9 1 (U 11) (l.length + 1) (scells (l.take j ++ nm :: l.drop j))) ∧ (L 12 = true → U 12 = U 11) ∧
            (L 6 = true → L 7 = false → ∃ q, U 6 = .slice (some ⟨q, 0, none⟩) 1 1 ∧ w.heap.size ≤ q ∧ q < W.heap.size ∧ W.cell? ⟨q, 0, none⟩ = some (.string ⟨nm.toArray⟩) ∧ (L 0 = true → L 4 = false → (U 0).ownBlock ≠ some q)))
          (fun _ _ => True) (fun w w' _ i v h => by revert h; exact fun h => h) ⟨(Below.refl _ _).drew, by simp, by simp, by simp, by simp, by simp, by simp⟩ ?_ ?_
        · repeat (first | exact Steps.nil | (refine Steps.cons ?_ ?_; rotate_left))
          all_goals
            rintro L U W hL hpre hR hun hdep K hK
            have Hdep := Lib.hid hdep
            have Hun := Lib.hid hun
            have HR := Lib.hid hR
            clear hun hdep hR
            first | (simp [Region.binds] at hpre; done) | simp [Region.binds] at hpre | clear hpre
          · -- an empty row
            go_simp
            obtain ⟨hb, r0, r4, r7, r11, r12, r6⟩ := HR.out
            refine hK _ _ _ trivial trivial ⟨hb.alloc hb.size _, fun _ _ => World.ownsRow_lit (base := w.heap.size) (e := 9) (size := 1) W #[] 0 hb.size (Nat.zero_le _) rfl, fun h1 h2 => (r4 h1 h2).alloc _, fun h1 h2 => (r7 h1 h2).alloc _, fun h1 => (r11 h1).alloc _, r12, fun h1 h2 => ?_⟩ rfl
            obtain ⟨q, e1, e2, e3, e4, _⟩ := r6 h1 h2
            exact ⟨q, e1, e2, by simp; omega, by rw [World.cell?_alloc_old _ _ _ (by simp; omega)]; exact e4, fun _ _ => by simp [Value.ownBlock]; omega⟩
          · have e12 := Hun.out 12 (Hdep.out 12 _ rfl { on := 11, ground := Ground.data } (by simp) (by rfl) (Hdep.out 11 _ rfl { on := 7, ground := Ground.data } (by simp) (by rfl) (Hdep.out 7 _ rfl { on := 4, ground := Ground.data } (by simp) (by rfl) (Hdep.out 4 _ rfl { on := 3, ground := Ground.data } (by simp) (by rfl) (Hdep.out 3 _ rfl { on := 1, ground := Ground.data } (by simp) (by rfl) hL)))))
            go_simp
            exact hK (.slice (some ⟨g, 0, none⟩) l.length c) _ _ rfl trivial HR.out (by simp [Act.put, e12])
          · go_simp
            exact hK _ _ _ rfl trivial HR.out rfl
          · have u1 := hpre.1.2
            have u2 := hpre.2.2
            go_simp
            exact hK _ _ _ rfl trivial HR.out (by simp [Act.put, u1, u2])
          · -- what stands below
            obtain ⟨hb, r0, r4, r7, r11, r12, r6⟩ := HR.out
            have h0 := r0 hpre.1 hL
            obtain ⟨i0, hi, hz0, hz1, hz2⟩ := info_parts Tryz.infoStr
            rw [if_pos (by rfl)]
            refine wp_append_own W (.tmp 49) (.tmp 52) 58 rfl w.heap.size 9 i0 (.string ⟨#[]⟩) 1 16 Tryz.underlying58 hi hz0 hz1 hz2 rfl (by decide) (U 0) 0 [] rfl h0 ⟨g, 0, none⟩ j c (scells (l.take j)) hpre.2.2 (by simp [scells]; omega) ?_ (scells_one _) (by unfold maxLen; omega) (by omega) hb.size ?_
            · intro i x hx
              rw [addr0]
              exact (hb.cell (p := ⟨g, i, none⟩) hg).trans (Hcs.out i x hx)
            · intro v' w' hown hgr _
              refine hK v' w' _ trivial trivial ⟨hb.grown hgr hb.size (fun k hk => (h0.lt k hk).1), fun _ h => by simp at h, fun _ _ => by simpa using hown, fun h => ?_, fun h => ?_, r12, fun h1 h2 => ?_⟩ rfl
              · exact absurd (Hdep.out 7 _ rfl { on := 4, ground := Ground.data } (by simp) (by rfl) hL) (by intro e; rw [show L 7 = true from h] at e; cases e)
              · exact absurd (Hdep.out 11 _ rfl { on := 7, ground := Ground.data } (by simp) (by rfl) (Hdep.out 7 _ rfl { on := 4, ground := Ground.data } (by simp) (by rfl) hL)) (by intro e; rw [show L 11 = true from h] at e; cases e)
              · obtain ⟨q, e1, e2, e3, e4, e5⟩ := r6 h1 h2
                exact ⟨q, e1, e2, Nat.lt_of_lt_of_le e3 hgr.size, hgr.cell e4 (fun e => e5 hpre.1 hL e.symm), fun _ h => by simp at h⟩
          · go_simp
            exact hK _ _ _ rfl trivial HR.out rfl
          · -- the name
            obtain ⟨hb, r0, r4, r7, r11, r12, r6⟩ := HR.out
            have u5 := hpre.2
            go_simp
            refine hK (.slice (some ⟨W.heap.size, 0, none⟩) 1 1) _ _ trivial trivial ⟨hb.alloc hb.size _, fun h1 h2 => (r0 h1 h2).alloc _, fun h1 h2 => (r4 h1 h2).alloc _, fun h1 h2 => (r7 h1 h2).alloc _, fun h1 => (r11 h1).alloc _, r12, fun h1 h2 => ?_⟩ (by simp [Act.put, u5])
            refine ⟨W.heap.size, rfl, hb.size, by simp, by rw [World.cell?_alloc_new]; simp [u5], fun h3 h4 => ?_⟩
            intro e
            exact absurd ((r0 h3 h4).lt _ e).2 (by simp)
          · -- append(.., name)
            obtain ⟨hb, r0, r4, r7, r11, r12, r6⟩ := HR.out
            have h4 := r4 hpre.1 hL
            obtain ⟨q, e1, e2, e3, e4, e5⟩ := r6 hpre.2.1 hL
            obtain ⟨i0, hi, hz0, hz1, hz2⟩ := info_parts Tryz.infoStr
            rw [if_pos (by rfl)]
            refine wp_append_own W (.tmp 53) (.tmp 55) 58 rfl w.heap.size 9 i0 (.string ⟨#[]⟩) 1 16 Tryz.underlying58 hi hz0 hz1 hz2 rfl (by decide) (U 4) j (scells (l.take j)) rfl h4 ⟨q, 0, none⟩ 1 1 (scells [nm]) e1 (by simp [scells]) ?_ (scells_one _) (by unfold maxLen; omega) (by omega) hb.size ?_
            · intro i x hx
              cases i with
              | zero => simp [scells] at hx; subst hx; rw [addr0]; exact e4
              | succ i => simp [scells] at hx
            · intro v' w' hown hgr _
              refine hK v' w' _ trivial trivial ⟨hb.grown hgr hb.size (fun k hk => (h4.lt k hk).1), fun h1 h2 => ?_, fun h1 h2 => by simp at h2, fun _ _ => by rw [scells_append]; exact hown, fun h => ?_, r12, fun h1 h2 => by simp at h2⟩ rfl
              · exact absurd hpre.1 (by rw [show L 4 = false from h2]; decide)
              · exact absurd (Hdep.out 11 _ rfl { on := 7, ground := Ground.data } (by simp) (by rfl) hL) (by intro e; rw [show L 11 = true from h] at e; cases e)
          · have e12 := Hun.out 12 (Hdep.out 12 _ rfl { on := 11, ground := Ground.data } (by simp) (by rfl) (Hdep.out 11 _ rfl { on := 10, ground := Ground.data } (by simp) (by rfl) (Hdep.out 10 _ rfl { on := 8, ground := Ground.data } (by simp) (by rfl) hL)))
            go_simp
            exact hK (.slice (some ⟨g, 0, none⟩) l.length c) _ _ rfl trivial HR.out (by simp [Act.put, e12])
          · go_simp
            exact hK _ _ _ rfl trivial HR.out rfl
          · have u8 := hpre.1.2
            have u9 := hpre.2.2
            have hoo := Ho.out
            rcases Decidable.em (c = j) with i5 | i5
            · go_simp
              exact hK (.slice (some ⟨g, o, none⟩) (l.length - j) (c - j)) _ _ rfl trivial HR.out (by simp [Act.put, u8, u9, hoo, i5] <;> omega)
            · go_simp
              exact hK (.slice (some ⟨g, o, none⟩) (l.length - j) (c - j)) _ _ rfl trivial HR.out (by simp [Act.put, u8, u9, hoo, i5] <;> omega)
          · -- append(.., out[at:]...)
            obtain ⟨hb, r0, r4, r7, r11, r12, r6⟩ := HR.out
            have h7 := r7 hpre.1 hL
            obtain ⟨i0, hi, hz0, hz1, hz2⟩ := info_parts Tryz.infoStr
            rw [if_pos (by rfl)]
            refine wp_append_own W (.tmp 56) (.tmp 59) 58 rfl w.heap.size 9 i0 (.string ⟨#[]⟩) 1 16 Tryz.underlying58 hi hz0 hz1 hz2 rfl (by decide) (U 7) (j + 1) (scells (l.take j ++ [nm])) rfl h7 ⟨g, o, none⟩ (l.length - j) (c - j) (scells (l.drop j)) hpre.2.1.2 (by simp [scells]) ?_ (scells_one _) (by unfold maxLen; omega) (by omega) hb.size ?_
            · intro i x hx
              have := (hb.cell (p := ⟨g, o + i, none⟩) hg).trans (Hcd.out i x hx)
              have ea : (⟨g, o, none⟩ : Addr).add i = ⟨g, o + i, none⟩ := by unfold Addr.add; split <;> simp_all
              rw [ea]; exact this
            · intro v' w' hown hgr _
              refine hK v' w' _ trivial trivial ⟨hb.grown hgr hb.size (fun k hk => (h7.lt k hk).1), fun h1 h2 => ?_, fun h1 h2 => ?_, fun _ h => by simp at h, fun _ => ?_, fun h => ?_, fun h1 h2 => ?_⟩ rfl
              · exact absurd (Hdep.out 7 _ rfl { on := 4, ground := Ground.data } (by simp) (by rfl) h2) (by rw [hpre.1]; decide)
              · exact absurd hpre.1 (by rw [show L 7 = false from h2]; decide)
              · have en : j + 1 + (l.length - j) = l.length + 1 := by omega
                have ec : scells (l.take j ++ [nm]) ++ scells (l.drop j) = scells (l.take j ++ nm :: l.drop j) := by rw [← scells_append]; simp
                rw [en, ec] at hown
                exact hown
              · exact absurd (Hdep.out 12 _ rfl { on := 11, ground := Ground.data } (by simp) (by rfl) hL) (by intro e; rw [show L 12 = true from h] at e; cases e)
              · exact absurd hpre.1 (by rw [show L 7 = false from h2]; decide)
          · obtain ⟨hb, r0, r4, r7, r11, r12, r6⟩ := HR.out
            go_simp
            exact hK (U 11) _ _ trivial trivial ⟨hb, r0, r4, r7, r11, fun _ => rfl, r6⟩ (by simp [Act.put, hpre] <;> omega)
        · rintro L U W hL hφ hR
          obtain ⟨hb, _, _, _, r11, r12, _⟩ := hR
          have h11 := r11 (hL 11 (by decide))
          have h12 := r12 (hL 12 (by decide))
          rw [← Hput.out, ← h12, show l.length + 1 = (putS nm l).length from by rw [Hput.out]; simp; omega] at h11
          have HO := OutRow.own h11 (by rw [Hput.out]; simp)
          generalize U 12 = V at HO
          clear hL hφ r11 r12 h11 h12
          obtain ⟨g2, c2, rfl, HO⟩ := HO
          have HO2 := Lib.hid HO
          have Hb := Lib.hid hb
          have Hx2 := Lib.hid (Hx.out.below hb)
          clear HO hb
          go_wp2_with fail
          refine (sFind_any xv xs nm _ Hx2.out).mono ?_
          rintro e w3 ⟨rfl, hb3⟩
          rw [Hf.out]
          obtain ⟨A3, c3, e3, hl3, hr3⟩ := (Hx.out.fds (findX_mem Hf.out).1)
          simp only [] at e3
          subst e3
          obtain ⟨h8, hl0⟩ := fields_len Hty.out
          have Hr3 := Lib.hid ((hr3.below Hb.out).below hb3)
          have HO3 := Lib.hid (OutRow.below ⟨g2, c2, rfl, HO2.out⟩ hb3)
          have Hb3 := Lib.hid (Hb.out.trans (hb3.mono Hb.out.size))
          have Hx3 := Lib.hid (Hx2.out.below hb3)
          have hz3 := Hb3.out.size
          clear hb3 hr3
          unfold styR styV
          go_wp2_with fail
          have d0 : (w3.alloc (.cells #[.int .u8 (t.sort.toNat : Int), .string ⟨t.name.toArray⟩, .slice A3 t.fields.length c3] 86)).cell? ⟨w3.heap.size, 0, none⟩ = some (.int .u8 (t.sort.toNat : Int)) := by simp
          have d2 : (w3.alloc (.cells #[.int .u8 (t.sort.toNat : Int), .string ⟨t.name.toArray⟩, .slice A3 t.fields.length c3] 86)).cell? ⟨w3.heap.size, 2, none⟩ = some (.slice A3 t.fields.length c3) := by simp
          go_loopw [2, 12] (fun v i wr => ∃ (m : Nat) (o : List Name), i = .int .i64 m ∧ m ≤ t.fields.length ∧ Hid (t.sort = 69 → m = 0) ∧ Hid (o = (t.fields.take m).foldl (fun o f => usedN (tysOf xs) n f.kind o) (putS nm l)) ∧
              Hid (OutRow wr v o) ∧ Hid (Mets (tysOf xs) o ∧ SortedN o ∧ l.length + 1 ≤ o.length) ∧ Hid (Below w3.heap.size w3 wr) ∧ w3.heap.size < wr.heap.size ∧
              wr.cell? ⟨w3.heap.size, 0, none⟩ = some (.int .u8 (t.sort.toNat : Int)) ∧ wr.cell? ⟨w3.heap.size, 2, none⟩ = some (.slice A3 t.fields.length c3)) (fun _ i _ => t.fields.length - (intOf i).toNat)
          case atStart => exact ⟨0, putS nm l, rfl, Nat.zero_le _, fun _ => rfl, rfl, HO3.out.below ((Below.refl _ _).alloc (Nat.le_refl _) _), ⟨Hm.out, Hs.out, by rw [Hput.out]; simp; omega⟩, (Below.refl _ _).alloc (Nat.le_refl _) _, by simp, d0, d2⟩
          case round =>
            clear d0 d2
            obtain ⟨m, o5, rfl, hm, hm0, ho5, hor, hok, hbr, hzr, d0, d2⟩ := hrel
            obtain ⟨g5, c5, rfl, hrow5⟩ := hor.out
            have Hrow5 := Lib.hid hrow5
            clear hrow5
            rcases Decidable.em (m < t.fields.length ∧ t.sort ≠ 69) with ⟨hlt, h69⟩ | hstop
            · have e69 : ((t.sort.toNat : Int) != 69) = true := bne_byte h69
              have hfold := Lib.hid (fold_take (fun o (f : Fd) => usedN (tysOf xs) n f.kind o) (putS nm l) t.fields m hlt)
              have Hkd := Lib.hid (Hty.out.2.2.1.1 _ (List.getElem_mem hlt)).2.2.2.2
              have Href := Lib.hid (HS.out t (findTy_some Hft.out).1 h69 _ (List.getElem_mem hlt))
              obtain ⟨b3, off3, rfl, hb3, q0, q1, q2, q3⟩ := SFds.at_ ((Hr3.out).below hbr.out) hlt
              generalize t.fields[m] = f at *
              have m1 : (0 : Int) ≤ (m : Int) := by omega
              have m2 : (m : Int) < (t.fields.length : Int) := by omega
              clear hm0
              go_wp2_with fail
              refine (Ih.out f.kind o5 wr (.slice (some ⟨g5, 0, none⟩) o5.length c5) (Hx3.out.below hbr.out) (Hkd.out h69).1 Href.out hok.out.1 hok.out.2.1 (by have := hok.out.2.2; omega) ⟨g5, c5, rfl, Hrow5.out⟩).mono ?_
              rintro e w6 ⟨v6, rfl, ho6, hb6⟩
              obtain ⟨hc6, _, hz6⟩ := bcell hb6
              have f0 := (hc6 w3.heap.size 0 hzr).trans d0
              have f2 := (hc6 w3.heap.size 2 hzr).trans d2
              have Ho6 := Lib.hid ho6
              have Hb6 := Lib.hid (hbr.out.trans (hb6.mono (Nat.le_of_lt hzr)))
              have Hz6 := Lib.hid (hz6 _ hzr)
              have Hk6 := Lib.hid (used_keep HS.out n Href.out hok.out.1 hok.out.2.1)
              clear hc6 hb6 ho6 hz6 d0 d2 q0 q1 q2 q3
              go_wp2_with fail
              go_roundw
              case rel => exact ⟨m + 1, usedN (tysOf xs) n f.kind o5, by go_num, by omega, fun h => absurd h h69, by rw [Hid] at *; rw [hfold, ← ho5], Ho6.out, ⟨Hk6.out.1, Hk6.out.2.1, by have := Hk6.out.2.2; have := hok.out.2.2; omega⟩, Hb6.out, Hz6.out, f0, f2⟩
              case measure => simp [intOf]; omega
            · have Hfin := Lib.hid (show usedN (tysOf xs) (n + 1) k l = o5 by
                rw [HF.out, ho5.out]
                by_cases h69 : t.sort = 69
                · rw [if_pos h69, hm0.out h69]; rfl
                · have hml : ¬ m < t.fields.length := fun h => hstop ⟨h, h69⟩
                  rw [if_neg h69, List.take_of_length_le (by omega)])
              have Hb7 := Lib.hid (Hb3.out.trans (hbr.out.mono Hb3.out.size))
              rcases Decidable.em (t.sort = 69) with h69 | h69
              · have e69 : ((t.sort.toNat : Int) != 69) = false := bne_byte_no h69
                obtain rfl : m = 0 := hm0.out h69
                have m2 : (0 : Int) < (t.fields.length : Int) := by have := hl0 h69; omega
                clear h69 hstop hm0
                go_wp2_with fail
                go_ret
                exact ⟨_, rfl, by rw [Hfin.out]; exact ⟨g5, c5, rfl, Hrow5.out⟩, Hb7.out⟩
              · have hml : ¬ m < t.fields.length := fun h => hstop ⟨h, h69⟩
                have m2 : ¬ (m : Int) < (t.fields.length : Int) := by omega
                clear h69 hstop hm0 hml
                go_wp2_with fail
                go_ret
                exact ⟨_, rfl, by rw [Hfin.out]; exact ⟨g5, c5, rfl, Hrow5.out⟩, Hb7.out⟩

/-- The names that are reached from a kind, added to those that were met. -/
theorem sUsed_any (xv : Value) (xs : List (Ty × Value)) (hS : kindsOk (tysOf xs)) (hT : ∀ t ∈ tysOf xs, tyOk t) (hl8 : xs.length ≤ 8) : ∀ (n : Nat) (k : Kd) (l : List Name) (w : World) (v : Value), SSc w xv xs → kdOk k → refOk (tysOf xs) k → Mets (tysOf xs) l → SortedN l → xs.length < n + l.length → OutRow w v l →
    Calls Tryz.prog 58 #[xv, .string ⟨(kdB k).toArray⟩, v] w (UsPost (usedN (tysOf xs) n k l) w) := by
  intro n
  induction n with
  | zero =>
    intro k l w v _ _ _ hm _ hn _
    have := hm.len
    simp [tysOf] at this
    omega
  | succ n ih =>
    intro k l w v hx hk hr hm hs hn ho
    have hll : l.length ≤ 8 := by have := hm.len; simp [tysOf] at this; omega
    by_cases hb : k.base = [64]
    · cases hh : hasS k.name l with
      | true => exact sUsed_has xv v (tysOf xs) n k l w hk hb hh ho (by omega)
      | false =>
        have hsome := hr hb
        have hnot : k.name ∉ l := fun h => by rw [(hasS_iff hs).2 h] at hh; cases hh
        have hin := findTy_isSome.1 hsome
        rw [findX_ty] at hsome
        cases hf : findX xs k.name with
        | none => rw [hf] at hsome; cases hsome
        | some y =>
          obtain ⟨t, fv⟩ := y
          have hmem : t ∈ tysOf xs := List.mem_map_of_mem (f := (·.1)) (findX_mem hf).1
          exact sUsed_step xv v xs n k l w hx hk hb hh ho (by omega) t fv hf (hT t hmem) ((hm.snoc hin hnot).perm (putS_perm _ _).symm) (putS_sorted hs hnot) hS ih (by omega)
    · exact sUsed_no xv v (tysOf xs) n k l w hk hb ho
end Go.Proofs.YtdhinlhafoiaiaaGreatDoor
/- The reference's SchemaCount. -/
namespace Go.Proofs.YtdhinlhafoiaiaaGreatDoor
open Go.RowKit
set_option maxRecDepth 100000
set_option linter.unusedVariables false
set_option linter.unusedSimpArgs false
attribute [local go_sem] ba_get ba_toList ba_extract take_drop_all ByteArray.mk_append_mk

theorem sKind_any (s d : List UInt8) (w : World) (hs : s.length ≤ 4000000) (hd : d.length ≤ 4000000) :
    Calls Tryz.prog 57 #[.string ⟨s.toArray⟩, .string ⟨d.toArray⟩] w (KiPost (bothL s d) w) := by
  cases h : schemaL s with
  | none => exact sKind_noSchema s d w hs h
  | some S => cases hk : kindL d with
    | none => exact sKind_noKind s d w hs hd S h hk
    | some k => exact sKind_yes s d w hs S h k hk
theorem bothL_some {s d : List UInt8} {S : List Ty} {k : Kd} (h : bothL s d = some (S, k)) : schemaL s = some S ∧ kindL d = some k ∧ refOk S k := by
  unfold bothL at h
  cases h1 : schemaL s with
  | none => rw [h1] at h; cases h
  | some T => cases h2 : kindL d with
    | none => rw [h1, h2] at h; cases h
    | some q =>
      rw [h1, h2] at h
      simp only at h
      split at h
      · rename_i hr
        simp only [Option.some.injEq, Prod.mk.injEq] at h
        obtain ⟨rfl, rfl⟩ := h
        exact ⟨rfl, rfl, hr⟩
      · cases h
/-- What a schema and a kind that fit are good for. -/
theorem bothL_good {s d : List UInt8} {S : List Ty} {k : Kd} (h : bothL s d = some (S, k)) : scOk S ∧ s.length ≤ 400 ∧ scB S = s ∧ kdOk k ∧ kdB k = d ∧ refOk S k := by
  obtain ⟨h1, h2, h3⟩ := bothL_some h
  obtain ⟨a1, a2, a3⟩ := schemaL_some.1 h1
  obtain ⟨b1, b2⟩ := kindL_some.1 h2
  exact ⟨a1, a2, a3, b1, b2, h3⟩

theorem tysOf_len (xs : List (Ty × Value)) : (tysOf xs).length = xs.length := by simp [tysOf]
def cntL : Option (List Ty × Kd) → Int × Int
  | none => (-1, -1)
  | some (S, k) => ((usedL S k).length, countF S (usedL S k))
def CnPost (o : Option (List Ty × Kd)) (w : World) (e : Ending) (w' : World) : Prop := e = .returned (.tuple #[.int .i64 (cntL o).1, .int .i64 (cntL o).2]) ∧ Below w.heap.size w w'

theorem countF_snoc (S : List Ty) (a : List Name) (x : Name) (t : Ty) (h : findTy S x = some t) : countF S (a ++ [x]) = countF S a + t.fields.length := by
  unfold countF; simp [h]
theorem countF_le {S : List Ty} (hT : ∀ t ∈ S, tyOk t) : ∀ (l : List Name), countF S l ≤ 8 * l.length
  | [] => by simp [countF]
  | x :: l => by
    have ih := countF_le hT l
    unfold countF at ih ⊢
    simp only [List.map_cons, List.sum_cons, List.length_cons]
    cases h : findTy S x with
    | none => simp only; omega
    | some t =>
      have := (hT t (findTy_some h).1).2.2.2.1
      simp only; omega
theorem usedL_good {S : List Ty} {k : Kd} (hS : kindsOk S) (hr : refOk S k) : Mets S (usedL S k) := (used_keep hS 9 hr (Mets.nil S) List.Pairwise.nil).1

set_option maxHeartbeats 2000000 in
theorem sCount_any (s d : List UInt8) (w : World) (hs : s.length ≤ 4000000) (hd : d.length ≤ 4000000) :
    Calls Tryz.prog 16 #[.string ⟨s.toArray⟩, .string ⟨d.toArray⟩] w (CnPost (bothL s d) w) := by
  have Hk := Lib.hid (fun W => sKind_any s d W hs hd)
  have Hgood := Lib.hid (fun S k (h : bothL s d = some (S, k)) => bothL_good h)
  generalize bothL s d = o at Hk Hgood
  go_enter Tryz.func16, Tryz.ntmps16
  go_wp2_with fail
  refine (Hk.out _).mono ?_
  rintro e w1 ⟨hcase, hb1⟩
  cases o with
  | none =>
    obtain ⟨A, n, c, rfl⟩ := hcase
    go_wp2_with fail
    go_ret2
    exact ⟨rfl, hb1⟩
  | some x =>
    obtain ⟨S, k⟩ := x
    obtain ⟨v, xs, rfl, hxs, hsc⟩ := hcase
    simp only at hxs
    obtain ⟨⟨hlines, hkinds, _⟩, _, _, hkok, hkd, href⟩ := Hgood.out S k rfl
    subst hxs
    subst hkd
    have hx8 : xs.length ≤ 8 := by have := hlines.2.1; simpa [tysOf] using this
    have Hsc := Lib.hid hsc
    have Hb1 := Lib.hid hb1
    have Hu := Lib.hid (fun W v' (h1 : SSc W v xs) (h2 : OutRow W v' []) => sUsed_any v xs hkinds hlines.1 hx8 9 k [] W v' h1 hkok href (Mets.nil _) List.Pairwise.nil (by simp; omega) h2)
    have Hm := Lib.hid (usedL_good hkinds href)
    have hul : (usedL (tysOf xs) k).length ≤ 8 := Nat.le_trans Hm.out.len (by rw [tysOf_len]; exact hx8)
    have Hle := Lib.hid (fun l => countF_le hlines.1 l)
    have Hfin : Hid (cntL (some (tysOf xs, k)) = (((usedL (tysOf xs) k).length : Int), (countF (tysOf xs) (usedL (tysOf xs) k) : Int))) := rfl
    clear hlines hkinds hkok href hsc hb1 Hgood Hk
    change Hid (∀ W v' (h1 : SSc W v xs) (h2 : OutRow W v' []), Calls Tryz.prog 58 #[v, .string ⟨(kdB k).toArray⟩, v'] W (UsPost (usedL (tysOf xs) k) W)) at Hu
    generalize usedL (tysOf xs) k = us at *
    go_wp2_with fail
    refine (Hu.out _ _ (Hsc.out.below ((Below.refl _ _).alloc (Nat.le_refl _) _)) ⟨w1.heap.size, 0, rfl, by simp, Nat.le_refl _, Nat.zero_le _, fun j hj => by simp at hj⟩).mono ?_
    rintro e w2 ⟨v2, rfl, ⟨g, c, rfl, hg, _, _, hcell⟩, hb2⟩
    have Hcell := Lib.hid hcell
    have Hb2 := Lib.hid (Hb1.out.trans ((((Below.refl w1.heap.size w1).alloc (Nat.le_refl _) _).trans (hb2.mono (by simp))).mono Hb1.out.size))
    have Hsc2 := Lib.hid (Hsc.out.below (((Below.refl w1.heap.size w1).alloc (Nat.le_refl _) _).trans (hb2.mono (by simp))))
    clear hcell hb2
    go_wp2_with fail
    go_loopw [9, 10] (fun n i wr => ∃ m : Nat, i = .int .i64 m ∧ m ≤ us.length ∧ n = .int .i64 (countF (tysOf xs) (us.take m)) ∧ Hid (Below w2.heap.size w2 wr)) (fun _ i _ => us.length - (intOf i).toNat)
    case atStart => exact ⟨0, rfl, Nat.zero_le _, rfl, Below.refl _ _⟩
    case round =>
      obtain ⟨m, rfl, hm, rfl, hbr⟩ := hrel
      have m1 : (0 : Int) ≤ (m : Int) := by omega
      by_cases hlt : m < us.length
      · have m2 : (m : Int) < (us.length : Int) := by omega
        have cl := (hbr.out.cell (p := ⟨g, m, none⟩) hg).trans (Hcell.out m hlt)
        have hsome := findTy_isSome.2 (Hm.out.2 _ (List.getElem_mem hlt))
        have Hts := Lib.hid (take_snoc us m hlt)
        have hle := Hle.out (us.take m)
        have hll : (us.take m).length ≤ 8 := by rw [List.length_take]; omega
        generalize us[m] = nm at cl hsome Hts
        rw [findX_ty] at hsome
        cases hf : findX xs nm with
        | none => rw [hf] at hsome; cases hsome
        | some y =>
          obtain ⟨t, fv⟩ := y
          have Hsn := Lib.hid (countF_snoc (tysOf xs) (us.take m) nm t (by rw [findX_ty, hf]; rfl))
          have Hf := Lib.hid hf
          obtain ⟨A3, c3, e3, hl3, hr3⟩ := (Hsc.out.fds (findX_mem hf).1)
          simp only [] at e3
          subst e3
          simp only [] at hl3
          have hc0 : (0 : Int) ≤ (countF (tysOf xs) (us.take m) : Int) := by omega
          have hc1 : countF (tysOf xs) (us.take m) ≤ 64 := by omega
          generalize hcu : countF (tysOf xs) (us.take m) = cu at *
          clear hf hr3 hsome hle hll hcu
          go_wp2_with fail
          refine (sFind_any v xs nm _ (Hsc2.out.below hbr.out)).mono ?_
          rintro e w3 ⟨rfl, hb3⟩
          rw [Hf.out]
          unfold styR styV
          have Hb3 := Lib.hid (hbr.out.trans (hb3.mono hbr.out.size))
          clear hb3
          go_wp2_with fail
          go_roundw
          case rel => exact ⟨m + 1, by go_num, by omega, by rw [Hts.out, Hsn.out]; go_num, Hb3.out.alloc Hb3.out.size _⟩
          case measure => simp [intOf]; omega
      · obtain rfl : m = us.length := by omega
        have Hb4 := Lib.hid (Hb2.out.trans (hbr.out.mono Hb2.out.size))
        go_wp2_with fail
        go_ret2
        refine ⟨?_, Hb4.out⟩
        simp [Hfin.out, List.take_length]
end Go.Proofs.YtdhinlhafoiaiaaGreatDoor
/- SchemaCount of the program. -/
namespace Go.Proofs.YtdhinlhafoiaiaaGreatDoor
open Go.RowKit
set_option maxRecDepth 100000
set_option linter.unusedVariables false
set_option linter.unusedSimpArgs false
attribute [local go_sem] ba_get ba_toList ba_extract take_drop_all ByteArray.mk_append_mk

/-- A type's pointer in a row: it reads as the type. -/
theorem PtrRow.at_ {w : World} {A : Option Addr} {xs : List PT} {out : List Name} (h : RowAt w A out.length ((out.map (blkN xs)).map ptrV)) (ht : ∀ x ∈ xs, ITy w x) (hm : Mets (ptysOf xs) out) {i : Nat} (hi : i < out.length) :
    ∃ b off x, A = some ⟨b, off, none⟩ ∧ b < w.heap.size ∧ w.cell? ⟨b, off + i, none⟩ = some x.ptr ∧ x ∈ xs ∧ findP xs out[i] = some x ∧ findTy (ptysOf xs) out[i] = some x.ty ∧ ITy w x := by
  obtain ⟨b, off, e, hb, hc⟩ := h.at_ hi
  obtain ⟨x, hx, hxm, hxn⟩ := findP_isSome (hm.2 _ (List.getElem_mem hi))
  refine ⟨b, off, x, e, hb, ?_, hxm, hx, (findP_mem hx).2.2, ht x hxm⟩
  rw [hc]
  simp [blkN_some hx, ptrV, PT.ptr]
theorem ISL.tys {lo : Nat} {w : World} {p : Value} {xs : List PT} (h : ISL lo w p xs) : ∀ x ∈ xs, ITy w x := by
  obtain ⟨_, _, _, _, _, _, _, _, _, _, h, _⟩ := h.isc
  exact h
theorem ptysOf_len (xs : List PT) : (ptysOf xs).length = xs.length := by simp [ptysOf]

set_option maxHeartbeats 2000000 in
theorem iCount_any (s d : List UInt8) (w : World) (hs : s.length ≤ 4000000) (hd : d.length ≤ 4000000) :
    Calls Tryz.prog 15 #[.string ⟨s.toArray⟩, .string ⟨d.toArray⟩] w (CnPost (bothL s d) w) := by
  have Hk := Lib.hid (fun W => iBoth_any s d W hs hd)
  have Hgood := Lib.hid (fun S k (h : bothL s d = some (S, k)) => bothL_good h)
  generalize bothL s d = o at Hk Hgood
  go_enter Tryz.func15, Tryz.ntmps15
  go_wp2_with fail
  refine (Hk.out _).mono ?_
  rintro e w1 ⟨hcase, hb1⟩
  cases o with
  | none =>
    obtain ⟨p, a, b, c, rfl⟩ := hcase
    go_wp2_with fail
    go_ret2
    exact ⟨rfl, hb1.alloc hb1.size _⟩
  | some x =>
    obtain ⟨S, k⟩ := x
    obtain ⟨p, xs, hxs, rfl, hsl⟩ := hcase
    simp only at hxs
    subst hxs
    obtain ⟨⟨hlines, hkinds, _⟩, _, _, hkok, hkd, href⟩ := Hgood.out _ k rfl
    have hx8 : xs.length ≤ 8 := by have := hlines.2.1; rwa [ptysOf_len] at this
    have hok : ∀ y ∈ xs, tyOk y.ty := fun y hy => hlines.1 _ (List.mem_map_of_mem hy)
    have Hsl := Lib.hid hsl
    have Hb1 := Lib.hid hb1
    have Hm := Lib.hid (fun W (h : ISc W p xs) => iMet_any p xs k W h hkinds hok hx8 hkok href)
    have Hmets := Lib.hid (metN_mets hkinds 9 k [] href (Mets.nil _)).1
    have Hperm := Lib.hid (used_perm (ptysOf xs) k).2
    have Hlen := Lib.hid (show (usedL (ptysOf xs) k).length = (metL (ptysOf xs) k).length from (used_perm (ptysOf xs) k).2.length_eq)
    have Hcnt := Lib.hid (countF_perm (ptysOf xs) (used_perm (ptysOf xs) k).2)
    have Hle := Lib.hid (fun l => countF_le hlines.1 l)
    have Hfin : Hid (cntL (some (ptysOf xs, k)) = (((usedL (ptysOf xs) k).length : Int), (countF (ptysOf xs) (usedL (ptysOf xs) k) : Int))) := rfl
    change Hid (Mets (ptysOf xs) (metL (ptysOf xs) k)) at Hmets
    have hol : (metL (ptysOf xs) k).length ≤ 8 := Nat.le_trans Hmets.out.len (by rw [ptysOf_len]; exact hx8)
    clear hlines hkinds hkok href hsl hb1 Hgood Hk Hperm
    generalize metL (ptysOf xs) k = out at *
    generalize usedL (ptysOf xs) k = us at *
    unfold kdV at *
    go_wp2_with fail
    refine (Hm.out _ (Hsl.out.isc.below ((Below.refl _ _).alloc (Nat.le_refl _) _))).mono ?_
    rintro e w2 ⟨v, rfl, ⟨A, c, rfl, hrow⟩, hb2⟩
    have Hrow := Lib.hid hrow
    have Hb2 := Lib.hid (((Below.refl w1.heap.size w1).alloc (Nat.le_refl _) _).trans (hb2.mono (by simp)))
    have Htys := Lib.hid (fun x hx => (Hsl.out.tys x hx).below Hb2.out)
    clear hrow hb2
    go_wp2_with fail
    go_loop [27, 9] (fun i n => ∃ m : Nat, i = .int .i64 m ∧ m ≤ out.length ∧ n = .int .i64 (countF (ptysOf xs) (out.take m))) (fun i _ => out.length - (intOf i).toNat)
    case atStart => exact ⟨0, rfl, Nat.zero_le _, rfl⟩
    case round =>
      obtain ⟨m, rfl, hm, rfl⟩ := hrel
      have m1 : (0 : Int) ≤ (m : Int) := by omega
      by_cases hlt : m < out.length
      · have m2 : (m : Int) < (out.length : Int) := by omega
        obtain ⟨b, off, x, rfl, hb, hc, hxm, hfp, hft, hty⟩ := PtrRow.at_ Hrow.out Htys.out Hmets.out hlt
        have Hts := Lib.hid (take_snoc out m hlt)
        have hle := Hle.out (out.take m)
        have hll : (out.take m).length ≤ 8 := by rw [List.length_take]; omega
        have Hsn := Lib.hid (countF_snoc (ptysOf xs) (out.take m) out[m] x.ty hft)
        obtain ⟨z0, _, z1, z2, z3, z4, A8, c8, hz8, hl8', hrow8⟩ := hty
        rw [hz8] at z3
        unfold PT.ptr at hc
        have hc0 : (0 : Int) ≤ (countF (ptysOf xs) (out.take m) : Int) := by omega
        have hc1 : countF (ptysOf xs) (out.take m) ≤ 64 := by omega
        generalize hcu : countF (ptysOf xs) (out.take m) = cu at *
        clear hz8 hrow8 hfp hft hcu hle hll
        go_wp2_with fail
        go_round
        case rel => exact ⟨m + 1, by go_num, by omega, by rw [Hts.out, Hsn.out]; go_num⟩
        case measure => simp [intOf]; omega
      · obtain rfl : m = out.length := by omega
        go_wp2_with fail
        go_ret2
        refine ⟨?_, Hb1.out.trans (Hb2.out.mono Hb1.out.size)⟩
        rw [Hfin.out, Hlen.out, Hcnt.out]; rfl
end Go.Proofs.YtdhinlhafoiaiaaGreatDoor
/- How arguments that came in are opened: strings, slices of bytes and of strings, integers, as lists. -/
namespace Go.Proofs.YtdhinlhafoiaiaaGreatDoor
set_option linter.unusedVariables false
set_option maxRecDepth 100000
open Go.ChangeShapes Go.WideShapes Go.ChangeAt Go.RowKit
open Go.ChangeMaps (open_string shut_string)

theorem getD_of_lt {α : Type} (l : List α) (d : α) {j : Nat} (h : j < l.length) : l.getD j d = l[j] := by simp [List.getD, h]

theorem own : ownKnob Tryz.prog.godebug = none := by kernel_rfl
theorem laidOut : laidOutB Tryz.prog = true := by kernel_rfl

section
variable {H : Type} {enc : TypeId × Value → H} {W : World} {base : Nat} {v : Value} {d : DataW H} {ps : List MemPlace}

theorem arg_string (hv : Value.okWide Tryz.prog W .any base 9 v) (h : DataW.Trod enc Tryz.prog W 0 (fun _ => true) true 9 v d ps) :
    ∃ l : List UInt8, v = .string ⟨l.toArray⟩ ∧ l.length ≤ maxLen := by
  obtain ⟨s, rfl, _, _, hs⟩ := open_string Tryz.underlying9 hv h
  exact ⟨s.data.toList, by simp, by simpa using hs⟩

theorem arg_int (hv : Value.okWide Tryz.prog W .any base 3 v) (h : DataW.Trod enc Tryz.prog W 0 (fun _ => true) true 3 v d ps) :
    ∃ x : Int, v = .int .i64 x ∧ -9223372036854775808 ≤ x ∧ x ≤ 9223372036854775807 := by
  obtain ⟨x, rfl, _, _, w⟩ := open_int Tryz.underlying3 hv h
  have hw := w
  simp [Lit.wf, IntKind.min, IntKind.max, IntKind.signed, IntKind.bits] at hw
  exact ⟨x, rfl, by omega, by omega⟩

theorem arg_bytes (hv : Value.okWide Tryz.prog W .any base 22 v) (h : DataW.Trod enc Tryz.prog W 0 (fun _ => true) true 22 v d ps) (hlt : ∀ x ∈ ps, x.block < W.heap.size) :
    ∃ A n c, ∃ l : List UInt8, v = .slice A n c ∧ RowAt W A n (bcells l) ∧ n ≤ c ∧ c ≤ maxLen := by
  obtain ⟨A, n, c, rfl⟩ := okWide_slice Tryz.underlying22 hv
  obtain ⟨fuel, hf⟩ := h
  rcases open_ints Tryz.underlying22 Tryz.underlying5 (by kernel_rfl) hf with ⟨hcs, _⟩ | ⟨x, n', c', zs, hcs, _, hl, hm, hz, _, hcell, hwz⟩
  · simp [Value.cells] at hcs
    obtain ⟨rfl, rfl, rfl⟩ := hcs
    exact ⟨none, 0, 0, [], rfl, ⟨rfl, Nat.zero_le _, fun h => absurd h (by omega)⟩, Nat.le_refl _, Nat.zero_le _⟩
  · simp [Value.cells] at hcs
    obtain ⟨rfl, rfl, rfl⟩ := hcs
    simp at hz
    refine ⟨some x, n, c, (zs.take n).map fun z => UInt8.ofNat z.toNat, rfl, ⟨by simp [bcells]; omega, Nat.le_trans hl hm, fun hn => ?_⟩, hl, hm⟩
    have h0 := hcell 0 (by omega)
    obtain ⟨b, off, spot⟩ := x
    have hspot : spot = none := by simpa [Addr.add] using World.cell?_spot h0
    subst hspot
    refine ⟨b, off, rfl, ?_, fun j u hu => ?_⟩
    · have := World.block_lt_of_cell? W _ h0
      simpa [Addr.add] using this
    · have hj : j < n := by
        have := (List.getElem?_eq_some_iff.1 hu).1
        simp [bcells] at this; omega
      have h1 := hcell j (by omega)
      have e1 : (⟨b, off, none⟩ : Addr).add j = ⟨b, off + j, none⟩ := by unfold Addr.add; split <;> simp_all
      rw [e1] at h1
      rw [h1]
      have hw := hwz (zs.getD j 0) (by rw [getD_of_lt _ _ (by omega)]; exact List.getElem_mem _)
      have hb2 : 0 ≤ zs.getD j 0 ∧ zs.getD j 0 ≤ 255 := by
        simp [Lit.wf, IntKind.min, IntKind.max, IntKind.signed, IntKind.bits] at hw
        simpa using hw
      simp only [bcells, List.getElem?_map, List.getElem?_take] at hu
      rw [if_pos hj, List.getElem?_eq_getElem (by omega : j < zs.length)] at hu
      simp at hu
      rw [← hu]
      rw [getD_of_lt _ _ (by omega : j < zs.length)] at hb2 ⊢
      congr 2
      omega

theorem arg_strings (hv : Value.okWide Tryz.prog W .any base 58 v) (h : DataW.Trod enc Tryz.prog W 0 (fun _ => true) true 58 v d ps) (hlt : ∀ x ∈ ps, x.block < W.heap.size) :
    ∃ A n c, ∃ l : List (List UInt8), v = .slice A n c ∧ RowAt W A n (scells l) ∧ ∀ s ∈ l, s.length ≤ maxLen := by
  obtain ⟨A, n, c, rfl⟩ := okWide_slice Tryz.underlying58 hv
  obtain ⟨fuel, hf⟩ := h
  rcases open_strings Tryz.underlying58 Tryz.underlying9 (by kernel_rfl) hf with ⟨hcs, _⟩ | ⟨x, n', c', ss, hcs, _, hl, hm, hz, _, hcell, hws⟩
  · simp [Value.cells] at hcs
    obtain ⟨rfl, rfl, rfl⟩ := hcs
    exact ⟨none, 0, 0, [], rfl, ⟨rfl, Nat.zero_le _, fun h => absurd h (by omega)⟩, fun s hs => by cases hs⟩
  · simp [Value.cells] at hcs
    obtain ⟨rfl, rfl, rfl⟩ := hcs
    simp at hz
    refine ⟨some x, n, c, (ss.take n).map fun s => s.data.toList, rfl, ⟨by simp [scells]; omega, Nat.le_trans hl hm, fun hn => ?_⟩, ?_⟩
    · have h0 := hcell 0 (by omega)
      obtain ⟨b, off, spot⟩ := x
      have hspot : spot = none := by simpa [Addr.add] using World.cell?_spot h0
      subst hspot
      refine ⟨b, off, rfl, ?_, fun j u hu => ?_⟩
      · have := World.block_lt_of_cell? W _ h0
        simpa [Addr.add] using this
      · have hj : j < n := by
          have := (List.getElem?_eq_some_iff.1 hu).1
          simp [scells] at this; omega
        have h1 := hcell j (by omega)
        have e1 : (⟨b, off, none⟩ : Addr).add j = ⟨b, off + j, none⟩ := by unfold Addr.add; split <;> simp_all
        rw [e1] at h1
        rw [h1]
        simp only [scells, List.getElem?_map, List.getElem?_take] at hu
        rw [if_pos hj, List.getElem?_eq_getElem (by omega : j < ss.length)] at hu
        simp at hu
        rw [← hu, getD_of_lt _ _ (by omega : j < ss.length)]
    · intro s hs
      obtain ⟨y, hy, rfl⟩ := List.mem_map.1 hs
      have := hws y (List.mem_of_mem_take hy)
      simpa using this
end
end Go.Proofs.YtdhinlhafoiaiaaGreatDoor
