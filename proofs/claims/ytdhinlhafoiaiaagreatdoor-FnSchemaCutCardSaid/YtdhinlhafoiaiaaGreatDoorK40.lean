/- Texts joined: LawG6. Conditions: as each theorem names them. -/
import Derived.Test.YtdhinlhafoiaiaaGreatDoorK22
import Derived.Test.YtdhinlhafoiaiaaGreatDoorK27
import Derived.Test.YtdhinlhafoiaiaaGreatDoorK38
/- The walks of the drawn laws on schemas that are cut down. -/
namespace Go.Proofs.YtdhinlhafoiaiaaGreatDoor
open Go.RowKit
set_option maxRecDepth 100000
set_option linter.unusedVariables false
set_option linter.unusedSimpArgs false
attribute [local go_sem] ba_get ba_toList ba_extract take_drop_all ByteArray.mk_append_mk

/-- Names of a schema's types. -/
def namesO : Option (List Ty) → List Name
  | none => []
  | some S => namesOf S
def ItyPost (o : Option (List Ty)) (w : World) (e : Ending) (w' : World) : Prop := ∃ v, e = .returned (.tuple #[v, .bool o.isSome]) ∧ NmRow w' v (namesO o) ∧ Below w.heap.size w w'

set_option maxHeartbeats 2000000 in
theorem iTypes_any (s : List UInt8) (w : World) (hs : s.length ≤ 4000000) :
    Calls Tryz.prog 51 #[.string ⟨s.toArray⟩] w (ItyPost (schemaL s) w) := by
  have Hk := Lib.hid (fun W => readSchema_any s W hs)
  have Hgood := Lib.hid (fun S (h : schemaL s = some S) => (schemaL_some.1 h).1)
  generalize schemaL s = o at Hk Hgood
  go_enter Tryz.func51, Tryz.ntmps51
  go_wp2_with fail
  refine (Hk.out _).mono ?_
  rintro e w1 ⟨hcase, hb1⟩
  cases o with
  | none =>
    obtain ⟨p, rfl⟩ := hcase
    go_wp2_with fail
    go_ret2
    exact ⟨.slice none 0 0, rfl, ⟨none, 0, rfl, by simp [RowAt, namesO, scells]⟩, hb1⟩
  | some S =>
    obtain ⟨p, xs, hxs, rfl, hsl⟩ := hcase
    subst hxs
    have hx8 : xs.length ≤ 8 := by have := (Hgood.out _ rfl).1.2.1; rwa [ptysOf_len] at this
    have Hus : Hid (namesO (some (ptysOf xs)) = xs.map (·.ty.name)) := by
      show namesOf (ptysOf xs) = _
      unfold namesOf ptysOf
      simp
    obtain ⟨pb, A, c, mb, rfl, hpb, hc0, _, hrow, _, htys, _⟩ := hsl.isc
    have Hrow := Lib.hid hrow
    have Htys := Lib.hid htys
    have Hb1 := Lib.hid hb1
    clear hrow htys hb1 Hgood Hk hsl
    go_wp2_with fail
    go_loopw [21, 6] (fun i v wr => ∃ (m : Nat) (A3 : Option Addr) (n3 c3 : Nat), i = .int .i64 m ∧ v = .slice A3 n3 c3 ∧ m ≤ xs.length ∧ Hid (wr.ownsRow w1.heap.size 9 1 (.slice A3 n3 c3) m (scells ((xs.take m).map (·.ty.name)))) ∧ Hid (Below w1.heap.size w1 wr)) (fun i _ _ => xs.length - (intOf i).toNat)
    case atStart => exact ⟨0, none, 0, 0, rfl, rfl, Nat.zero_le _, World.ownsRow_nil _ _ _ _, Below.refl _ _⟩
    case round =>
      obtain ⟨m, A3, n3, c3, rfl, rfl, hm, Hown, Hbr⟩ := hrel
      have m1 : (0 : Int) ≤ (m : Int) := by omega
      by_cases hlt : m < xs.length
      · have m2 : (m : Int) < (xs.length : Int) := by omega
        obtain ⟨b, off, rfl, hb, hc⟩ := (Hrow.out.below Hbr.out).at_ hlt
        obtain ⟨z0, _, z1, z2, _⟩ := (Htys.out _ (List.getElem_mem hlt)).below Hbr.out
        have Hts := Lib.hid (take_snoc xs m hlt)
        have hc2 : wr.cell? ⟨b, off + m, none⟩ = some (.pointer (some ⟨xs[m].blk, 0, none⟩)) := by rw [hc]; simp [PT.ptr]
        have hsz : w1.heap.size ≤ wr.heap.size := Hbr.out.size
        clear z1 hc
        generalize xs[m] = x at *
        go_wp2_with (at_builtin; refine wpList_app1 _ rfl _ _ 58 rfl w1.heap.size 9 (.string ⟨#[]⟩) 16 Tryz.underlying58 Tryz.infoStr rfl wr (.string ⟨x.ty.name.toArray⟩) rfl rfl (.slice A3 n3 c3) m (scells ((xs.take m).map (·.ty.name))) rfl rfl Hown.out (by unfold maxLen; omega) (by omega) hsz ?_; intro v' w5 hown5 hb5; obtain ⟨A5, n5, c5, rfl⟩ := own_slice hown5; have Ho := Lib.hid hown5; have Hb5 := Lib.hid hb5; clear hown5 hb5)
        go_roundw
        case rel => exact ⟨m + 1, A5, n5, c5, by go_num, rfl, by omega, (by rw [Hts.out, List.map_append, scells_append]; exact Ho.out), Hbr.out.trans Hb5.out⟩
        case measure => simp [intOf]; omega
      · obtain rfl : m = xs.length := by omega
        have hown6 := Hown.out
        rw [List.take_length] at hown6
        obtain ⟨A6, c6, e6, hr6⟩ := RowAt.own hown6
        injection e6 with e7 e8 e9
        subst e7 e8 e9
        have Hr6 := Lib.hid hr6
        have Hb6 := Lib.hid (Hb1.out.trans (Hbr.out.mono Hb1.out.size))
        clear hown6 hr6
        go_wp2_with fail
        go_ret2
        exact ⟨_, rfl, ⟨A3, c3, by rw [Hus.out]; simp, by rw [Hus.out]; simpa using Hr6.out⟩, Hb6.out⟩

set_option maxHeartbeats 2000000 in
theorem FnSchemaCut_walk (w : World) (A : Option Addr) (n c : Nat) (l : List UInt8) (h : RowAt w A n (bcells l)) (hc : n ≤ c) (hcm : c ≤ maxLen) :
    Calls Tryz.prog 13 #[.slice A n c] w fun e w' => e = .returned (.bool true) ∧ Below w.heap.size w w' := by
  by_cases hn : n ≤ 1048576
  · have H0 := Lib.hid h
    clear h
    go_enter Tryz.func13, Tryz.ntmps13
    go_wp2_with fail
    refine (DrawSchemaCut_any A n c l w H0.out hc hcm).mono ?_
    rintro e w1 ⟨s, k, rfl, hs, hk, hb1⟩
    have hsl := hs.1
    have hkl := hk.len
    have Hb1 := Lib.hid hb1
    clear hb1 hs hk
    have Hi := Lib.hid (fun W => iCut_any s k W (by omega) (by omega))
    have Hs := Lib.hid (fun W => sCut_any s k W (by omega) (by omega))
    unfold CtPost at Hi Hs
    rcases ho : cutL' (bothL s k) with _ | x
    · rw [ho] at Hi Hs
      clear ho
      simp only [cutVal] at Hi Hs
      go_wp2_with fail
      refine (Hi.out _).mono ?_
      rintro e w2 ⟨rfl, hb2⟩
      have Hb2 := Lib.hid (Hb1.out.trans (hb2.mono Hb1.out.size))
      clear hb2
      go_wp2_with fail
      refine (Hs.out _).mono ?_
      rintro e w3 ⟨rfl, hb3⟩
      have Hb3 := Lib.hid (Hb2.out.trans (hb3.mono Hb2.out.size))
      clear hb3
      go_wp2_with fail
      go_ret
      exact ⟨rfl, Hb3.out⟩
    · obtain ⟨Sx, kx, r1, r2, r3, r4, r5, r6, r7, r8, r9⟩ := cut_law ho
      have Ht := Lib.hid (fun W => iTypes_any x W (by omega))
      have Hu := Lib.hid (fun W => iUsed_any s k W (by omega) (by omega))
      have Hc := Lib.hid (fun W => iCut_any x k W (by omega) (by omega))
      have Hev := Lib.hid (fun W => iEvolveBoth_any s k x k W (by omega) (by omega) (by omega) (by omega))
      have en : namesO (schemaL x) = usedO (bothL s k) := by rw [r5, r1]; exact r6
      have e1 : (schemaL x).isSome = true := by rw [r5]; rfl
      have e2 : (bothL s k).isSome = true := by rw [r1]; rfl
      unfold ItyPost at Ht
      unfold IuPost at Hu
      unfold CtPost at Hc
      rw [en, e1] at Ht
      rw [e2] at Hu
      rw [r7] at Hc
      rw [r8, r9] at Hev
      rw [ho] at Hi Hs
      simp only [cutVal, Bool.and_self] at Hi Hs Hc Hev
      generalize usedO (bothL s k) = us at Ht Hu
      clear ho r1 r2 r4 r5 r6 r7 r8 r9 en e1 e2
      go_wp2_with fail
      refine (Hi.out _).mono ?_
      rintro e w2 ⟨rfl, hb2⟩
      have Hb2 := Lib.hid (Hb1.out.trans (hb2.mono Hb1.out.size))
      clear hb2
      go_wp2_with fail
      refine (Hs.out _).mono ?_
      rintro e w3 ⟨rfl, hb3⟩
      have Hb3 := Lib.hid (Hb2.out.trans (hb3.mono Hb2.out.size))
      clear hb3
      go_wp2_with fail
      refine (Ht.out _).mono ?_
      rintro e w4 ⟨v4, rfl, hr4, hb4⟩
      have Hr4 := Lib.hid hr4
      have Hb4 := Lib.hid (Hb3.out.trans (hb4.mono Hb3.out.size))
      clear hr4 hb4
      go_wp2_with fail
      refine (Hu.out _).mono ?_
      rintro e w5 ⟨v5, rfl, hr5, hb5⟩
      have Hr5 := Lib.hid hr5
      have Hr4' := Lib.hid (Hr4.out.below hb5)
      have Hb5 := Lib.hid (Hb4.out.trans (hb5.mono Hb4.out.size))
      clear hr5 hb5 Hr4
      go_wp2_with fail
      refine (Hc.out _).mono ?_
      rintro e w6 ⟨rfl, hb6⟩
      have Hw := Lib.hid (nm_wf v4 v5 us us w6 (Hr4'.out.below hb6) (Hr5.out.below hb6))
      rw [show decide (us = us) = true by simp] at Hw
      have Hb6 := Lib.hid (Hb5.out.trans (hb6.mono Hb5.out.size))
      clear hb6
      go_wp2_with fail
      refine Hw.out.mono ?_
      rintro e w7 ⟨rfl, hb7⟩
      have Hb7 := Lib.hid (Hb6.out.trans (hb7.mono Hb6.out.size))
      clear hb7
      go_wp2_with fail
      refine (Hev.out _).mono ?_
      rintro e w8 ⟨rfl, hb8⟩
      have Hb8 := Lib.hid (Hb7.out.trans (hb8.mono Hb7.out.size))
      clear hb8
      go_wp2_with fail
      go_ret
      exact ⟨rfl, Hb8.out⟩
  · unfold maxLen at hcm
    go_enter Tryz.func13, Tryz.ntmps13
    go_wp2_with fail
    go_ret
    exact ⟨rfl, Below.refl _ _⟩

end Go.Proofs.YtdhinlhafoiaiaaGreatDoor
