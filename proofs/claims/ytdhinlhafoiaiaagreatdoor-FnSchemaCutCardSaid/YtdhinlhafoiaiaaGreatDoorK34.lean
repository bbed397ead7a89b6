/- Texts joined: Build, FormE, IForm1. Conditions: as each theorem names them. -/
import Derived.Lib.Builder
import Derived.Lib.AppendStr
import Derived.Lib.UnsafeStr
import Derived.Lib.MakeNoZero
import Derived.Laws.Externs
import Derived.Laws.BitsLemmas
import Derived.RegionTactic
import Derived.Test.YtdhinlhafoiaiaaGreatDoorK01
import Derived.Test.YtdhinlhafoiaiaaGreatDoorK02
import Derived.Test.YtdhinlhafoiaiaaGreatDoorK17
import Derived.Test.YtdhinlhafoiaiaaGreatDoorK20
import Derived.Test.YtdhinlhafoiaiaaGreatDoorK24
import Derived.Test.YtdhinlhafoiaiaaGreatDoorK25
/- strings.Builder at this seat: copyCheck, Len, WriteString, String over a builder that the call has made itself. Conditions: none beside those that each theorem names. -/
namespace Go.Proofs.YtdhinlhafoiaiaaGreatDoor
open Go.RowKit
set_option maxRecDepth 100000
set_option linter.unusedVariables false

/-- A builder in block b, of the call's own, that holds the bytes l. -/
abbrev Bld (B b : Nat) (l : List UInt8) (w : World) : Prop := Lib.IsBuilder 92 5 B b (bcells l) w
abbrev BldAt (B b : Nat) (p : Value) (bs : List Value) (w : World) : Prop := Lib.BuilderAt 92 5 B b p bs w

theorem Tryz.sizeBuilder : (Tryz.prog.info? 92).map (·.size) = some 2 := by kernel_rfl
theorem Tryz.liesBuilder : liesAt Tryz.prog Tryz.prog.depth 92 (2 / Tryz.prog.cellsOf 92) 0 92 1 = true := by kernel_rfl
theorem Tryz.cellsByte : Tryz.prog.cellsOf 5 = 1 := by kernel_rfl

theorem strCells_eq (s : List UInt8) : Lib.strCells ⟨s.toArray⟩ = bcells s := by simp [Lib.strCells, bcells]
theorem byteCells_eq (s : List UInt8) : Lib.byteCells s = bcells s := by simp [Lib.byteCells, bcells]

set_option maxHeartbeats 1000000 in
theorem copyCheck_used (b : Nat) (w : World) (h0 : w.cell? ⟨b, 0, none⟩ = some (.pointer (some ⟨b, 0, none⟩))) :
    Calls Tryz.prog 98 #[.pointer (some ⟨b, 0, none⟩)] w fun e w' => e = .returned (.tuple #[]) ∧ w' = w := by
  obtain ⟨j, hj, _⟩ := Option.map_eq_some_iff.1 Tryz.sizeBuilder
  go_enter Tryz.func98, Tryz.ntmps98
  go_wp2
  rw [Lib.run_neq_ptr_same w _ Tryz.underlying90 hj]
  go_wp2
  go_end0
  exact ⟨rfl, rfl⟩

set_option maxHeartbeats 1000000 in
theorem copyCheck_fresh (b : Nat) (w : World) (h0 : w.cell? ⟨b, 0, none⟩ = some (.pointer none)) (hsh : w.shape? b = some (92, 2)) (hfz : w.frozen? ⟨b, 0, none⟩ = false) :
    Calls Tryz.prog 98 #[.pointer (some ⟨b, 0, none⟩)] w fun e w' => e = .returned (.tuple #[]) ∧ w' = w.setCell ⟨b, 0, none⟩ (.pointer (some ⟨b, 0, none⟩)) := by
  obtain ⟨j, hj, hjs⟩ := Option.map_eq_some_iff.1 Tryz.sizeBuilder
  go_enter Tryz.func98, Tryz.ntmps98
  go_wp2
  rw [Lib.run_to_unsafe w ⟨b, 0, none⟩ Tryz.underlying90 Tryz.underlying168 hj (by rw [hjs]; decide) hsh (Nat.zero_lt_succ 1)]
  simp only [Result.andThen]
  rw [Oper.upon_value]
  go_wp2
  rw [run_callFunc_extern Tryz.func125 (by kernel_rfl) (by kernel_rfl) (by kernel_rfl) (e := Extern.AbiNoEscape.same) (by kernel_rfl)]
  rw [Lib.run_noEscape]
  simp only [Result.andThen]
  rw [Oper.upon_value]
  go_wp2
  rw [Lib.run_from_unsafe w ⟨b, 0, none⟩ Tryz.underlying168 Tryz.underlying90 hj hsh Tryz.liesBuilder]
  simp only [Result.andThen]
  rw [Oper.upon_value]
  go_wp2
  go_end0
  exact ⟨rfl, rfl⟩

theorem copyCheck_any (B b : Nat) (bs : List Value) (w : World) (h : Lib.IsBuilder 92 5 B b bs w) :
    Calls Tryz.prog 98 #[.pointer (some ⟨b, 0, none⟩)] w fun e w' => e = .returned (.tuple #[]) ∧ (BldAt B b (.pointer (some ⟨b, 0, none⟩)) bs w' ∧ Below B w w') := by
  rcases h with h | h
  · refine (copyCheck_fresh b w h.cell0 h.shape h.frozen0).mono ?_
    rintro e w' ⟨rfl, rfl⟩
    exact ⟨rfl, h.used _, (Below.refl B w).setCell (p := ⟨b, 0, none⟩) h.1 _⟩
  · refine (copyCheck_used b w h.cell0).mono ?_
    rintro e w' ⟨rfl, rfl⟩
    exact ⟨rfl, h, Below.refl B _⟩

set_option maxHeartbeats 2000000 in
theorem BWrite_any (B b : Nat) (l s : List UInt8) (w : World) (h : Bld B b l w) (hlen : l.length + s.length ≤ 140737488355328) (hBw : B ≤ w.heap.size) :
    Calls Tryz.prog 63 #[.pointer (some ⟨b, 0, none⟩), .string ⟨s.toArray⟩] w fun e w' => e = .returned (.tuple #[.int .i64 s.length, .nilIface]) ∧ Bld B b (l ++ s) w' ∧ Below B w w' := by
  obtain ⟨i0, hi, hz0, hz1, hz2⟩ := info_parts Tryz.infoU8
  go_enter Tryz.func63, Tryz.ntmps63
  go_wp2_with fail
  refine (copyCheck_any B b (bcells l) _ h).mono ?_
  rintro e w1 ⟨rfl, h1, hb1⟩
  obtain ⟨hB, v, hbk, hown, hne⟩ := h1
  have c0 : w1.cell? ⟨b, 0, none⟩ = some (.pointer (some ⟨b, 0, none⟩)) := by rw [Lib.cell_of_heap hbk]; rfl
  have c1 : w1.cell? ⟨b, 1, none⟩ = some v := by rw [Lib.cell_of_heap hbk]; rfl
  have hlB : (bcells l).length = l.length := bcells_length l
  have hsB : (ByteArray.mk s.toArray).size = s.length := rfl
  go_wp2_with (at_builtin; refine Lib.wpList_append_own_string _ rfl _ _ 22 9 rfl B 5 i0 Tryz.underlying22 Tryz.underlying9 hi hz0 hz1 hz2 _ _ _ rfl hown ⟨s.toArray⟩ rfl ?c3 ?c4 ?c5 ?_)
  case c3 => unfold maxLen; omega
  case c4 => omega
  case c5 => have := hb1.size; omega
  intro v' w2 hown' hgrow _
  have hlt : b < w1.heap.size := by
    rcases Nat.lt_or_ge b w1.heap.size with h' | h'
    · exact h'
    · simp [Array.getElem?_eq_none h'] at hbk
  have hb2 : w2.heap[b]? = some (.cells #[.pointer (some ⟨b, 0, none⟩), v] 92 (0, 0)) := by
    rw [hgrow.block b hlt (fun e => hne e.symm)]
    exact hbk
  have d0 : w2.cell? ⟨b, 0, none⟩ = some (.pointer (some ⟨b, 0, none⟩)) := by rw [Lib.cell_of_heap hb2]; rfl
  have d1 : w2.cell? ⟨b, 1, none⟩ = some v := by rw [Lib.cell_of_heap hb2]; rfl
  have f1 : w2.frozen? ⟨b, 1, none⟩ = false := Lib.frozen_of_heap hb2 1
  obtain ⟨ao, n', cap, rfl⟩ : ∃ ao n' cap, v' = .slice ao n' cap := by
    rcases hown'.2 with ⟨hv, _⟩ | ⟨g, cap, cur, hv, _⟩
    · exact ⟨_, _, _, hv⟩
    · exact ⟨_, _, _, hv⟩
  clear hlB hsB
  go_wp2
  go_ret2
  refine ⟨rfl, .inr ?_, ?_⟩
  · have e1 : bcells (l ++ s) = bcells l ++ Lib.strCells ⟨s.toArray⟩ := by rw [strCells_eq]; simp [bcells]
    rw [e1]
    exact Lib.BuilderAt.put (T := 92) (e := 5) hB hb2 (bs' := bcells l ++ Lib.strCells ⟨s.toArray⟩) (by rw [List.length_append, Lib.strCells_length, bcells_length]; exact hown') (by decide)
  · exact (hb1.grown hgrow (by have := hb1.size; omega) (fun k hk => (hown.lt k hk).1)).setCell (p := ⟨b, 1, none⟩) hB _

theorem usNone (W : World) (q : Option Addr) : (Builtin.unsafeString_ #[144, 3] 9 #[.pointer q, .int .i64 0]).run Tryz.prog W = .ok (.string .empty) W :=
  Lib.run_unsafeString_none W _ _ _ q

set_option maxHeartbeats 2000000 in
theorem BString_some (B b : Nat) (l : List UInt8) (w : World) (h : Bld B b l w) (h0 : l ≠ []) :
    Calls Tryz.prog 65 #[.pointer (some ⟨b, 0, none⟩)] w fun e w' => e = .returned (.string ⟨l.toArray⟩) ∧ Below B w w' := by
  obtain ⟨p, hB, v, hbk, hown, hne⟩ : ∃ p, BldAt B b p (bcells l) w := by
    rcases h with h | h
    · exact ⟨_, h⟩
    · exact ⟨_, h⟩
  have hl0 : l.length ≠ 0 := by simpa using h0
  rw [bcells_length] at hown
  obtain ⟨g, cap, cur, rfl, hbg, hg, hnc, hcm, hcs, htake⟩ : ∃ g cap cur, v = .slice (some ⟨g, 0, none⟩) l.length cap ∧ B ≤ g ∧ w.heap[g]? = some (.cells cur 5 (0, 0)) ∧ l.length ≤ cap ∧ cap ≤ maxLen ∧ cur.size = cap * 1 ∧ cur.toList.take (l.length * 1) = bcells l := by
    rcases hown.2 with ⟨_, hz⟩ | ⟨g, cap, cur, hv, r⟩
    · exact absurd hz hl0
    · exact ⟨g, cap, cur, hv, r⟩
  have c1 : w.drew.cell? ⟨b, 1, none⟩ = some (.slice (some ⟨g, 0, none⟩) l.length cap) := by
    have : w.drew.heap[b]? = some (.cells #[p, .slice (some ⟨g, 0, none⟩) l.length cap] 92 (0, 0)) := hbk
    rw [Lib.cell_of_heap this]; rfl
  have hSD : (Builtin.unsafeSliceData_ #[22] 144 #[.slice (some ⟨g, 0, none⟩) l.length cap]).run Tryz.prog w.drew = .ok (.pointer (some ⟨g, 0, none⟩)) w.drew :=
    Lib.run_unsafeSliceData_row _ _ _ _ _ _ (by omega)
  have hUS : (Builtin.unsafeString_ #[144, 3] 9 #[.pointer (some ⟨g, 0, none⟩), .int .i64 l.length]).run Tryz.prog w.drew = .ok (.string ⟨l.toArray⟩) (w.drew.freeze ⟨g, 0, none⟩ l.length) := by
    refine Lib.run_unsafeString_row w.drew 144 3 9 5 Tryz.underlying144 Tryz.cellsByte g cur.size (by have hg' : w.drew.heap[g]? = some (.cells cur 5 (0, 0)) := hg; simp [World.shape?, hg']) l h0 (by omega) (by unfold maxLen at hcm; omega) ?_
    intro j x hx
    have := hown.cells (g := g) rfl j (.int .u8 x.toNat) (by simp [bcells, hx])
    exact this
  clear h hne hcm htake
  go_enter Tryz.func65, Tryz.ntmps65
  go_wp2
  go_region
  all_goals (go_wp2; go_ret; exact ⟨rfl, Lib.below_freeze (Below.drew (Below.refl B w)) (p := ⟨g, 0, none⟩) hbg _⟩)

set_option maxHeartbeats 2000000 in
theorem BString_nil (B b : Nat) (p : Value) (w : World) (hbk : w.heap[b]? = some (.cells #[p, .slice none 0 0] 92 (0, 0))) :
    Calls Tryz.prog 65 #[.pointer (some ⟨b, 0, none⟩)] w fun e w' => e = .returned (.string ⟨#[]⟩) ∧ Below B w w' := by
  have hUS := usNone
  have c1 : w.drew.cell? ⟨b, 1, none⟩ = some (.slice none 0 0) := by
    have : w.drew.heap[b]? = some (.cells #[p, .slice none 0 0] 92 (0, 0)) := hbk
    rw [Lib.cell_of_heap this]; rfl
  have hSD : (Builtin.unsafeSliceData_ #[22] 144 #[.slice none 0 0]).run Tryz.prog w.drew = .ok (.pointer none) w.drew := rfl
  go_enter Tryz.func65, Tryz.ntmps65
  go_wp2
  go_region
  all_goals (go_wp2; go_ret; exact ⟨rfl, Below.drew (Below.refl B w)⟩)

set_option maxHeartbeats 2000000 in
theorem BString_noroom (B b g : Nat) (p : Value) (cur : Array Value) (w : World) (hBw : B ≤ w.heap.size) (hbk : w.heap[b]? = some (.cells #[p, .slice (some ⟨g, 0, none⟩) 0 0] 92 (0, 0))) (hg : w.heap[g]? = some (.cells cur 5 (0, 0))) :
    Calls Tryz.prog 65 #[.pointer (some ⟨b, 0, none⟩)] w fun e w' => e = .returned (.string ⟨#[]⟩) ∧ Below B w w' := by
  have hUS := usNone
  have hlt : b < w.heap.size := by
    rcases Nat.lt_or_ge b w.heap.size with h' | h'
    · exact h'
    · simp [Array.getElem?_eq_none h'] at hbk
  have c1 : w.drew.cell? ⟨b, 1, none⟩ = some (.slice (some ⟨g, 0, none⟩) 0 0) := by
    have : w.drew.heap[b]? = some (.cells #[p, .slice (some ⟨g, 0, none⟩) 0 0] 92 (0, 0)) := hbk
    rw [Lib.cell_of_heap this]; rfl
  have hSD : (Builtin.unsafeSliceData_ #[22] 144 #[.slice (some ⟨g, 0, none⟩) 0 0]).run Tryz.prog w.drew = .ok (.pointer (some ⟨w.drew.heap.size, 0, none⟩)) (w.drew.alloc (.view ⟨g, 0, none⟩ 5)) :=
    Lib.run_unsafeSliceData_zero w.drew _ _ 5 Tryz.underlying144 ⟨g, 0, none⟩ 0 (5, cur.size) (by have hg' : w.drew.heap[g]? = some (.cells cur 5 (0, 0)) := hg; simp [World.shape?, hg'])
  have c2 : (w.drew.alloc (.view ⟨g, 0, none⟩ 5)).cell? ⟨b, 1, none⟩ = some (.slice (some ⟨g, 0, none⟩) 0 0) := by
    have : (w.drew.alloc (.view ⟨g, 0, none⟩ 5)).heap[b]? = _ := (Lib.alloc_old w.drew _ b hlt).trans hbk
    rw [Lib.cell_of_heap this]; rfl
  have c3 : (w.alloc (.view ⟨g, 0, none⟩ 5)).drew.cell? ⟨b, 1, none⟩ = some (.slice (some ⟨g, 0, none⟩) 0 0) := c2
  have c0 : w.cell? ⟨b, 1, none⟩ = some (.slice (some ⟨g, 0, none⟩) 0 0) := c1
  go_enter Tryz.func65, Tryz.ntmps65
  go_wp2
  go_region
  all_goals (go_wp2; go_ret; exact ⟨rfl, (Below.drew (Below.refl B w)).alloc hBw _⟩)

set_option maxHeartbeats 2000000 in
theorem BString_room (B b g cap : Nat) (p : Value) (w : World) (hc0 : cap ≠ 0) (hbk : w.heap[b]? = some (.cells #[p, .slice (some ⟨g, 0, none⟩) 0 cap] 92 (0, 0))) :
    Calls Tryz.prog 65 #[.pointer (some ⟨b, 0, none⟩)] w fun e w' => e = .returned (.string ⟨#[]⟩) ∧ Below B w w' := by
  have hUS := usNone
  have c1 : w.drew.cell? ⟨b, 1, none⟩ = some (.slice (some ⟨g, 0, none⟩) 0 cap) := by
    have : w.drew.heap[b]? = some (.cells #[p, .slice (some ⟨g, 0, none⟩) 0 cap] 92 (0, 0)) := hbk
    rw [Lib.cell_of_heap this]; rfl
  have hSD : (Builtin.unsafeSliceData_ #[22] 144 #[.slice (some ⟨g, 0, none⟩) 0 cap]).run Tryz.prog w.drew = .ok (.pointer (some ⟨g, 0, none⟩)) w.drew :=
    Lib.run_unsafeSliceData_row _ _ _ _ _ _ hc0
  clear hc0
  go_enter Tryz.func65, Tryz.ntmps65
  go_wp2
  go_region
  all_goals (go_wp2; go_ret; exact ⟨rfl, Below.drew (Below.refl B w)⟩)

theorem BString_any (B b : Nat) (l : List UInt8) (w : World) (h : Bld B b l w) (hBw : B ≤ w.heap.size) :
    Calls Tryz.prog 65 #[.pointer (some ⟨b, 0, none⟩)] w fun e w' => e = .returned (.string ⟨l.toArray⟩) ∧ Below B w w' := by
  cases l with
  | cons x r => exact BString_some B b (x :: r) w h (by simp)
  | nil =>
    obtain ⟨p, hB, v, hbk, hown, hne⟩ : ∃ p, BldAt B b p [] w := by
      rcases h with h | h
      · exact ⟨_, h⟩
      · exact ⟨_, h⟩
    rcases hown.2 with ⟨rfl, _⟩ | ⟨g, cap, cur, rfl, hbg, hg, _, _, _, _⟩
    · exact BString_nil B b p w hbk
    · by_cases hc0 : cap = 0
      · subst hc0
        exact BString_noroom B b g p cur w hBw hbk hg
      · exact BString_room B b g cap p w hc0 hbk

/-- A builder that 'var b strings.Builder' has just made. -/
theorem Bld_new (w : World) : Bld w.heap.size w.heap.size [] (w.alloc (.cells #[.pointer none, .slice none 0 0] 92)) :=
  Lib.fresh_isBuilder 92 5 w
end Go.Proofs.YtdhinlhafoiaiaaGreatDoor
/- The length of a kind, and of a field, that is named anew. -/
namespace Go.Proofs.YtdhinlhafoiaiaaGreatDoor
theorem formK_len (ns : List Name) {k : Kd} (hk : kdOk k) : (kdB (formK ns k)).length ≤ 100 := by
  have h := hk.2.2
  unfold formK
  split
  · rename_i hb
    unfold kdB coreB at h ⊢
    simp only [hb, if_true] at h ⊢
    simp [newN] at h ⊢
    omega
  · omega
theorem formF_short {ns : List Name} {st : UInt8} {f : Fd} (h : fdOk st f) : FShort st (formF ns st f) := by
  have hg := given_len h
  obtain ⟨h1, h2, h3, h4, h5⟩ := h
  have hn := (nameOk_iff.1 h3).2.1
  unfold formF
  by_cases hs : st = 69
  · rw [if_pos hs]
    exact ⟨h2, by omega, by rw [(h4 hs).1]; decide, by omega, fun _ => (h4 hs).2⟩
  · rw [if_neg hs]
    exact ⟨h2, show f.name.length ≤ 100 by omega, formK_len ns (h5 hs).1, show f.given.length ≤ 100 by omega, fun h => absurd h hs⟩
end Go.Proofs.YtdhinlhafoiaiaaGreatDoor
/- The program's forms: the map of new names, a kind anew, the text of a kind, joined parts. -/
namespace Go.Proofs.YtdhinlhafoiaiaaGreatDoor
open Go.RowKit
set_option maxRecDepth 100000
set_option linter.unusedVariables false
set_option linter.unusedSimpArgs false
attribute [local go_sem] ba_get ba_toList ba_extract take_drop_all ByteArray.mk_append_mk

section
variable {P : Program}
theorem results_cell {fn : Func} {p : Tmp} {ty : TypeId} (h : fn.results = #[.cell p ty]) (tmps : Array Value) (w : World) (b : Nat) (cs : List Value) (d : TypeDesc)
    (hp : tmps.getD p undef = .pointer (some ⟨b, 0, none⟩)) (hc : w.rangeAt b 0 cs) (hu : P.underlying ty = some d) (hd : d.isRow = true) (hi : (P.info? ty).map (·.size) = some cs.length) :
    (results fn tmps).run P w = .ok (.agg cs.toArray) w := by
  have hp' : tmps[p]?.getD undef = .pointer (some ⟨b, 0, none⟩) := by simpa using hp
  simp [results, h, hp', asAddr, run_loadVar_mid w b 0 ty cs d hc hu hd hi]
end

/-- What the map of new names gives. -/
def newF (ns : List Name) (l : Lit) : Value := match l with | .string s => (if s ∈ ns then .string ⟨(newN ns s).toArray⟩ else .string ⟨#[]⟩) | _ => .string ⟨#[]⟩
theorem Tryz.zeroStrW (w : World) : (zeroValue 9).run Tryz.prog w = .ok (.string ⟨#[]⟩) w := by kernel_rfl
/-- The map of new names. -/
def INew (w : World) (mb : Nat) (ns : List Name) : Prop := FMap Tryz.prog 9 (.string ⟨#[]⟩) w mb ns.length (newF ns)
theorem INew.look {w : World} {mb : Nat} {ns : List Name} (h : INew w mb ns) {n : Name} (hm : n ∈ ns) (hn : n.length ≤ 100) :
    (Instr.lookup 89 (.map (some mb)) (.string ⟨n.toArray⟩) false).run Tryz.prog w = .ok (.string ⟨(newN ns n).toArray⟩) w := by
  have := FMap.lookup h Tryz.keyStr Tryz.underlying89 (Tryz.zeroStrW w) (keyName (n := n) (by omega))
  rw [this]
  show Result.ok (if n ∈ ns then _ else _) w = _
  rw [if_pos hm]
set_option maxHeartbeats 1000000 in
theorem iAnew_any (ns : List Name) (mb : Nat) (k : Kd) (w : World) (hn : INew w mb ns) (hk : kdOk k) (hc : k.base = [64] → k.name ∈ ns) :
    Calls Tryz.prog 61 #[kdV k, .map (some mb)] w fun e w' => e = .returned (kdV (formK ns k)) ∧ Below w.heap.size w w' := by
  have Hn := Lib.hid hn
  have hnm := name_short hk
  unfold kdV
  clear hn hk
  go_enter Tryz.func61, Tryz.ntmps61
  by_cases h64 : k.base = [64]
  · have t1 : (k.base == [64]) = true := by simp [h64]
    have HF := Lib.hid (show formK ns k = { k with name := newN ns k.name } from if_pos h64)
    have hm := hc h64
    have hlook := (show INew ((w.alloc (.cells #[.string ⟨k.signs.toArray⟩, .string ⟨k.base.toArray⟩, .string ⟨k.name.toArray⟩] 70)).alloc (.cells #[.string ⟨#[]⟩, .string ⟨#[]⟩, .string ⟨#[]⟩] 70)) mb ns from (Hn.out.alloc _).alloc _).look hm (by omega)
    clear h64 hc
    go_wp2_with fail
    refine bodyPost_ret (v := .agg #[.string ⟨k.signs.toArray⟩, .string ⟨k.base.toArray⟩, .string ⟨(newN ns k.name).toArray⟩]) ?_ rfl ?_
    · have hr := rangeAt_new (w.alloc (.cells #[.string ⟨k.signs.toArray⟩, .string ⟨k.base.toArray⟩, .string ⟨(newN ns k.name).toArray⟩] 70)) [.string ⟨k.signs.toArray⟩, .string ⟨k.base.toArray⟩, .string ⟨(newN ns k.name).toArray⟩] 70
      have e : (w.alloc (.cells #[.string ⟨k.signs.toArray⟩, .string ⟨k.base.toArray⟩, .string ⟨(newN ns k.name).toArray⟩] 70)).heap.size = w.heap.size + 1 := by simp
      rw [e] at hr
      exact results_cell Tryz.results61 _ _ (w.heap.size + 1) _ _ rfl hr Tryz.underlying70 rfl (by kernel_rfl)
    · rw [HF.out]
      exact ⟨rfl, ((Below.refl _ _).alloc (Nat.le_refl _) _).alloc (by simp) _⟩
  · have t1 : (k.base == [64]) = false := by simpa using h64
    have HF := Lib.hid (show formK ns k = k from if_neg h64)
    clear h64 hc
    go_wp2_with fail
    refine bodyPost_ret (v := .agg #[.string ⟨k.signs.toArray⟩, .string ⟨k.base.toArray⟩, .string ⟨k.name.toArray⟩]) ?_ rfl ?_
    · have hr := rangeAt_new (w.alloc (.cells #[.string ⟨k.signs.toArray⟩, .string ⟨k.base.toArray⟩, .string ⟨k.name.toArray⟩] 70)) [.string ⟨k.signs.toArray⟩, .string ⟨k.base.toArray⟩, .string ⟨k.name.toArray⟩] 70
      have e : (w.alloc (.cells #[.string ⟨k.signs.toArray⟩, .string ⟨k.base.toArray⟩, .string ⟨k.name.toArray⟩] 70)).heap.size = w.heap.size + 1 := by simp
      rw [e] at hr
      exact results_cell Tryz.results61 _ _ (w.heap.size + 1) _ _ rfl hr Tryz.underlying70 rfl (by kernel_rfl)
    · rw [HF.out]
      exact ⟨rfl, ((Below.refl _ _).alloc (Nat.le_refl _) _).alloc (by simp) _⟩
set_option maxHeartbeats 1000000 in
theorem iText_any (k : Kd) (w : World) (hl : (kdB k).length ≤ 100) :
    Calls Tryz.prog 62 #[kdV k] w fun e w' => e = .returned (.string ⟨(kdB k).toArray⟩) ∧ Below w.heap.size w w' := by
  unfold kdV
  by_cases h64 : k.base = [64]
  · have t1 : (k.base == [64]) = true := by simp [h64]
    have HF := Lib.hid (show kdB k = k.signs ++ 64 :: (k.name ++ [59]) from by unfold kdB coreB; rw [if_pos h64])
    rw [HF.out] at hl
    simp only [List.length_append, List.length_cons] at hl
    have HB := Lib.hid (show Below w.heap.size w (w.alloc (.cells #[.string ⟨k.signs.toArray⟩, .string ⟨k.base.toArray⟩, .string ⟨k.name.toArray⟩] 70)) from (Below.refl _ _).alloc (Nat.le_refl _) _)
    clear h64
    go_enter Tryz.func62, Tryz.ntmps62
    go_wp2_with fail
    go_ret
    exact ⟨by rw [HF.out]; simp, HB.out⟩
  · have t1 : (k.base == [64]) = false := by simpa using h64
    have HF := Lib.hid (show kdB k = k.signs ++ k.base from by unfold kdB coreB; rw [if_neg h64])
    rw [HF.out] at hl
    simp only [List.length_append] at hl
    have HB := Lib.hid (show Below w.heap.size w (w.alloc (.cells #[.string ⟨k.signs.toArray⟩, .string ⟨k.base.toArray⟩, .string ⟨k.name.toArray⟩] 70)) from (Below.refl _ _).alloc (Nat.le_refl _) _)
    clear h64
    go_enter Tryz.func62, Tryz.ntmps62
    go_wp2_with fail
    go_ret
    exact ⟨by rw [HF.out]; rfl, HB.out⟩
theorem Tryz.xtra156 : Builder.Extra Tryz.prog Tryz.lays156_ren where
  sizeBuilder := by kernel_rfl
  liesBuilder := by kernel_rfl
  t5 := Tryz.underlying5
  a5 := Tryz.isAgg5
  z5 := Tryz.sizeOf5
  v5 := Tryz.zeroValue5
  infoByte := by kernel_rfl
  cellsByte := by kernel_rfl
  sizeByte := by kernel_rfl
  neB5 := by decide
theorem join_eq : ∀ ps : List (List UInt8), Lib.join ps [44] = joinL 44 ps
  | [] => rfl
  | [p] => by rw [Lib.join_one]; rfl
  | p :: q :: r => by
    have ih := join_eq (q :: r)
    rw [joinL_cons 44 p (by simp), ← ih, Lib.join_cons p, Lib.join_cons q]
    simp [Lib.joinTail]
theorem iJoin_any (A : Option Addr) (c : Nat) (ps : List (List UInt8)) (w : World) (hr : RowAt w A ps.length (scells ps)) (hl : ps.length ≤ 100) (hcp : ps.length ≤ c) (hp : ∀ p ∈ ps, p.length ≤ 10000) :
    Calls Tryz.prog 64 #[.slice A ps.length c, .string ⟨#[44]⟩] w fun e w' => e = .returned (.string ⟨(joinL 44 ps).toArray⟩) ∧ Below w.heap.size w w' := by
  by_cases h0 : ps.length = 0
  · have e0 : ps = [] := List.length_eq_zero_iff.1 h0
    subst e0
    exact (Any.strings_Join_none Tryz.lays156 Tryz.xtra156 A c ⟨#[44]⟩ w).mono fun e w' ⟨he, hw⟩ => ⟨he, hw ▸ Below.refl _ _⟩
  · have hl' : (joinL 44 ps).length ≤ 2000000 := by have h1 := joinL_len 44 10000 ps hp; have h2 : ps.length * (10000 + 1) ≤ 100 * (10000 + 1) := Nat.mul_le_mul_right _ hl; omega
    obtain ⟨hlc, _, hrow⟩ := hr
    obtain ⟨b, off, rfl, hb, hcl⟩ := hrow (by omega)
    have e1 : (ps.map fun p => (⟨p.toArray⟩ : ByteArray)).map (·.data.toList) = ps := by rw [List.map_map]; exact List.map_id ps
    have hcap : ps.length ≤ c := hcp
    have h := Any.strings_Join Tryz.lays156 Tryz.xtra156 b off c (ps.map fun p => (⟨p.toArray⟩ : ByteArray)) ⟨#[44]⟩ w (fun j x hx => by
      rw [List.getElem?_map] at hx
      obtain ⟨p, hp, rfl⟩ := Option.map_eq_some_iff.1 hx
      exact hcl j _ (by rw [scells, List.getElem?_map, hp]; rfl)) hb (by rw [List.length_map]; omega) (by rw [List.length_map]; exact hcap) (by rw [e1]; show (Lib.join ps [44]).length ≤ _; rw [join_eq]; omega)
    rw [e1, List.length_map] at h
    refine h.mono ?_
    rintro e w' ⟨he, hw⟩
    exact ⟨by rw [he]; show Ending.returned (.string ⟨(Lib.join ps [44]).toArray⟩) = _; rw [join_eq], hw⟩
end Go.Proofs.YtdhinlhafoiaiaaGreatDoor
