/-
  NARROWER THAN 'FOR EVERY INPUT', by the rows' own cells (each row's printed sentence says how): FnExactNamesPut: laid · FnExactNamesGet: laid · FnNamesPut: laid · FnNamesGet: laid · FnNamesOrder: laid.
  DERIVED. THE GIVEN ROWS OF THIS SEAT. 5 by the template 'for every input the law returns true; each argument reads behind the call as it read before'; 0 by the template 'total and deterministic' (their statements: YtkigmebejmmikaaGreatDoorTotals.lean).
  GIVEN WITH THE SEED: the statements are not yours to turn. If you find one false, say at which input.
  Laid BY PROGRAM, IN A SANDBOX (cutbox-rows.mjs): the forced cells as the released guide's own fill.sh prints them over the translation 2b60e5c97ac67e1d… (all of the seat's roots in one cut). By AI agents, Wed Nov 11 2026. No macro, syntax, notation, axiom, sorry.
-/
import Derived.Test.YtkigmebejmmikaaGreatDoorChecked
import GoSem.PinnedTables
import GoSem.Claim
import GoSem.ClaimJoined
import GoSem.ClaimMapViews
import Derived.JoinedTies
import Derived.KernelRfl
namespace Go.Proofs.YtkigmebejmmikaaGreatDoor
/- THE CELL 'sum', in the pinned program and in every row, IS THE sha256 OF THE DUMP (.gsa) THAT YtkigmebejmmikaaGreatDoorProg.lean LOADS. Nothing in Lean hashes anything: it is a label: what it is worth is what the hold of that sum in a sandbox is worth. -/
noncomputable def Tryz.pinned : Pinned := { name := "ytkigmebejmmikaagreatdoor", sum := "2b60e5c97ac67e1dad15f91d61894b7ca9943607d7af10cee3d924897ee8a741", checked := Tryz.checked }
namespace Rows
def none {H : Type} : Left H := { results := [], args := [] }

/- WHAT THE LISTED PACKAGE-LEVEL VARIABLES READ AS WHEN THE CALL BEGINS. Each datum BY PROGRAM (the guide's laid-datum.mjs) off the statement by which the dump's own 'gosem.cut.vars' lays the variable. In a bare row this is a premise. The card (YtkigmebejmmikaaGreatDoorCards.lean) ties it to the program's text. -/
def laid_unicode_utf8_acceptRanges {H : Type} : DataW H := .agg [.agg [.lit (.int .u8 128), .lit (.int .u8 191)], .agg [.lit (.int .u8 160), .lit (.int .u8 191)], .agg [.lit (.int .u8 128), .lit (.int .u8 159)], .agg [.lit (.int .u8 144), .lit (.int .u8 191)], .agg [.lit (.int .u8 128), .lit (.int .u8 143)], .agg [.lit (.int .u8 0), .lit (.int .u8 0)], .agg [.lit (.int .u8 0), .lit (.int .u8 0)], .agg [.lit (.int .u8 0), .lit (.int .u8 0)], .agg [.lit (.int .u8 0), .lit (.int .u8 0)], .agg [.lit (.int .u8 0), .lit (.int .u8 0)], .agg [.lit (.int .u8 0), .lit (.int .u8 0)], .agg [.lit (.int .u8 0), .lit (.int .u8 0)], .agg [.lit (.int .u8 0), .lit (.int .u8 0)], .agg [.lit (.int .u8 0), .lit (.int .u8 0)], .agg [.lit (.int .u8 0), .lit (.int .u8 0)], .agg [.lit (.int .u8 0), .lit (.int .u8 0)]]
/-- One of Go's own tables, pinned by name: the form's constant. -/
def laid_unicode_utf8_first : DataW Unit := Go.Pinned.utf8First

/-- 'laws.FnExactNamesPut': WHATEVER THE INPUT: true; the input reads as it did. -/
def fnExactNamesPutSpec : ChangeSpec := { name := "fnExactNamesPut", fn := fun _ => fun
  | [d1, d2, d3] => { results := [.lit (.bool true)], args := [d1, d2, d3] }
  | _ => none }
def fnExactNamesPutRow : OpenClaim := { program := "ytkigmebejmmikaagreatdoor", sum := "2b60e5c97ac67e1dad15f91d61894b7ca9943607d7af10cee3d924897ee8a741", func := "loop.example/wireforms/laws.FnExactNamesPut", spec := "fnExactNamesPut", inPlace := ["internal/bytealg.IndexByteString", "internal/bytealg.IndexString", "internal/bytealg.CountString", "internal/abi.NoEscape", "internal/bytealg.MakeNoZero"], unfollowed := true, recurses := true, named := ["internal/bytealg.MaxLen", "unicode/utf8.first", "unicode/utf8.acceptRanges"], apart := false, laid := [("unicode/utf8.acceptRanges", laid_unicode_utf8_acceptRanges), ("unicode/utf8.first", laid_unicode_utf8_first)] }
def FnExactNamesPutSaid : Prop := fnExactNamesPutRow.holds Tryz.pinned (OpenSpec.ofChange fnExactNamesPutSpec)

/-- ITS FALSE NEIGHBOUR: 'it returns false'. Refute it at one input. -/
def fnExactNamesPutWrong : ChangeSpec := { name := "fnExactNamesPut", fn := fun _ => fun
  | [d1, d2, d3] => { results := [.lit (.bool false)], args := [d1, d2, d3] }
  | _ => none }
def FnExactNamesPutWrongFalsely : Prop := fnExactNamesPutRow.holds Tryz.pinned (OpenSpec.ofChange fnExactNamesPutWrong)

/-- 'laws.FnExactNamesGet': WHATEVER THE INPUT: true; the input reads as it did. -/
def fnExactNamesGetSpec : ChangeSpec := { name := "fnExactNamesGet", fn := fun _ => fun
  | [d1, d2, d3] => { results := [.lit (.bool true)], args := [d1, d2, d3] }
  | _ => none }
def fnExactNamesGetRow : OpenClaim := { program := "ytkigmebejmmikaagreatdoor", sum := "2b60e5c97ac67e1dad15f91d61894b7ca9943607d7af10cee3d924897ee8a741", func := "loop.example/wireforms/laws.FnExactNamesGet", spec := "fnExactNamesGet", inPlace := ["internal/bytealg.IndexByteString", "internal/bytealg.IndexString", "internal/bytealg.CountString", "internal/abi.NoEscape", "internal/bytealg.MakeNoZero"], unfollowed := true, recurses := true, named := ["internal/bytealg.MaxLen", "unicode/utf8.first", "unicode/utf8.acceptRanges"], apart := false, laid := [("unicode/utf8.acceptRanges", laid_unicode_utf8_acceptRanges), ("unicode/utf8.first", laid_unicode_utf8_first)] }
def FnExactNamesGetSaid : Prop := fnExactNamesGetRow.holds Tryz.pinned (OpenSpec.ofChange fnExactNamesGetSpec)

/-- ITS FALSE NEIGHBOUR: 'it returns false'. Refute it at one input. -/
def fnExactNamesGetWrong : ChangeSpec := { name := "fnExactNamesGet", fn := fun _ => fun
  | [d1, d2, d3] => { results := [.lit (.bool false)], args := [d1, d2, d3] }
  | _ => none }
def FnExactNamesGetWrongFalsely : Prop := fnExactNamesGetRow.holds Tryz.pinned (OpenSpec.ofChange fnExactNamesGetWrong)

/-- 'laws.FnNamesPut': WHATEVER THE INPUT: true; the input reads as it did. -/
def fnNamesPutSpec : ChangeSpec := { name := "fnNamesPut", fn := fun _ => fun
  | [d] => { results := [.lit (.bool true)], args := [d] }
  | _ => none }
def fnNamesPutRow : OpenClaim := { program := "ytkigmebejmmikaagreatdoor", sum := "2b60e5c97ac67e1dad15f91d61894b7ca9943607d7af10cee3d924897ee8a741", func := "loop.example/wireforms/laws.FnNamesPut", spec := "fnNamesPut", inPlace := ["internal/bytealg.IndexByteString", "internal/bytealg.IndexString", "internal/bytealg.CountString", "internal/abi.NoEscape", "internal/bytealg.MakeNoZero"], unfollowed := true, recurses := true, named := ["internal/bytealg.MaxLen", "unicode/utf8.first", "unicode/utf8.acceptRanges"], apart := false, laid := [("unicode/utf8.acceptRanges", laid_unicode_utf8_acceptRanges), ("unicode/utf8.first", laid_unicode_utf8_first)] }
def FnNamesPutSaid : Prop := fnNamesPutRow.holds Tryz.pinned (OpenSpec.ofChange fnNamesPutSpec)

/-- ITS FALSE NEIGHBOUR: 'it returns false'. Refute it at one input. -/
def fnNamesPutWrong : ChangeSpec := { name := "fnNamesPut", fn := fun _ => fun
  | [d] => { results := [.lit (.bool false)], args := [d] }
  | _ => none }
def FnNamesPutWrongFalsely : Prop := fnNamesPutRow.holds Tryz.pinned (OpenSpec.ofChange fnNamesPutWrong)

/-- 'laws.FnNamesGet': WHATEVER THE INPUT: true; the input reads as it did. -/
def fnNamesGetSpec : ChangeSpec := { name := "fnNamesGet", fn := fun _ => fun
  | [d] => { results := [.lit (.bool true)], args := [d] }
  | _ => none }
def fnNamesGetRow : OpenClaim := { program := "ytkigmebejmmikaagreatdoor", sum := "2b60e5c97ac67e1dad15f91d61894b7ca9943607d7af10cee3d924897ee8a741", func := "loop.example/wireforms/laws.FnNamesGet", spec := "fnNamesGet", inPlace := ["internal/bytealg.IndexByteString", "internal/bytealg.IndexString", "internal/bytealg.CountString", "internal/abi.NoEscape", "internal/bytealg.MakeNoZero"], unfollowed := true, recurses := true, named := ["internal/bytealg.MaxLen", "unicode/utf8.first", "unicode/utf8.acceptRanges"], apart := false, laid := [("unicode/utf8.acceptRanges", laid_unicode_utf8_acceptRanges), ("unicode/utf8.first", laid_unicode_utf8_first)] }
def FnNamesGetSaid : Prop := fnNamesGetRow.holds Tryz.pinned (OpenSpec.ofChange fnNamesGetSpec)

/-- ITS FALSE NEIGHBOUR: 'it returns false'. Refute it at one input. -/
def fnNamesGetWrong : ChangeSpec := { name := "fnNamesGet", fn := fun _ => fun
  | [d] => { results := [.lit (.bool false)], args := [d] }
  | _ => none }
def FnNamesGetWrongFalsely : Prop := fnNamesGetRow.holds Tryz.pinned (OpenSpec.ofChange fnNamesGetWrong)

/-- 'laws.FnNamesOrder': WHATEVER THE INPUT: true; the input reads as it did. -/
def fnNamesOrderSpec : ChangeSpec := { name := "fnNamesOrder", fn := fun _ => fun
  | [d] => { results := [.lit (.bool true)], args := [d] }
  | _ => none }
def fnNamesOrderRow : OpenClaim := { program := "ytkigmebejmmikaagreatdoor", sum := "2b60e5c97ac67e1dad15f91d61894b7ca9943607d7af10cee3d924897ee8a741", func := "loop.example/wireforms/laws.FnNamesOrder", spec := "fnNamesOrder", inPlace := ["internal/bytealg.IndexByteString", "internal/bytealg.IndexString", "internal/bytealg.CountString", "internal/abi.NoEscape", "internal/bytealg.MakeNoZero"], unfollowed := true, recurses := true, named := ["internal/bytealg.MaxLen", "unicode/utf8.first", "unicode/utf8.acceptRanges"], apart := false, laid := [("unicode/utf8.acceptRanges", laid_unicode_utf8_acceptRanges), ("unicode/utf8.first", laid_unicode_utf8_first)] }
def FnNamesOrderSaid : Prop := fnNamesOrderRow.holds Tryz.pinned (OpenSpec.ofChange fnNamesOrderSpec)

/-- ITS FALSE NEIGHBOUR: 'it returns false'. Refute it at one input. -/
def fnNamesOrderWrong : ChangeSpec := { name := "fnNamesOrder", fn := fun _ => fun
  | [d] => { results := [.lit (.bool false)], args := [d] }
  | _ => none }
def FnNamesOrderWrongFalsely : Prop := fnNamesOrderRow.holds Tryz.pinned (OpenSpec.ofChange fnNamesOrderWrong)

/- THE SECOND FORM. 'bulk': how many values and letters a reading holds, each counted each time it is reached (what is shared counts as often as it is met; a slice's spare places count too). A statement '..UptoSaid' is the law's where the arguments, and the package variables that the reading takes, are together of bulk at most 1048576: NARROWER than '..Said'. Prove '..Said' where nothing that the law and all that it calls make is longer than what came in: it says more and counts as full. Else prove '..UptoSaid'. A law counts once. -/
mutual
def uptoBulk {H : Type} : DataW H → Nat
  | .lit (.string bytes) => bytes.length + 1
  | .lit _ => 1
  | .nil => 1
  | .ptr d => uptoBulk d + 1
  | .slice elems spare => uptoBulkAll elems + uptoBulkAll spare + 1
  | .agg parts => uptoBulkAll parts + 1
  | .iface _ d => uptoBulk d + 1
  | .map entries => uptoBulkEntries entries + 1
  | .held _ => 1
def uptoBulkAll {H : Type} : List (DataW H) → Nat
  | [] => 0
  | d :: r => uptoBulk d + uptoBulkAll r
def uptoBulkEntries {H : Type} : List (Lit × DataW H) → Nat
  | [] => 0
  | x :: r => uptoBulkEntry x + uptoBulkEntries r
def uptoBulkEntry {H : Type} : Lit × DataW H → Nat
  | (.string bytes, d) => bytes.length + uptoBulk d + 1
  | (_, d) => uptoBulk d + 1
 end
def uptoSmall : (H : Type) → List (DataW H) → Bool := fun _ ds => decide (uptoBulkAll ds ≤ 1048576)
def OpenSpec.upto (s : _root_.Go.ChangeSpec) : _root_.Go.OpenSpec := { _root_.Go.OpenSpec.ofChange s with cond := some uptoSmall }

/-- 'laws.FnExactNamesPut', WHERE WHAT IT READS IS OF BULK AT MOST 1048576: true; the input reads as it did. -/
def fnExactNamesPutUptoRow : OpenClaim := { program := "ytkigmebejmmikaagreatdoor", sum := "2b60e5c97ac67e1dad15f91d61894b7ca9943607d7af10cee3d924897ee8a741", func := "loop.example/wireforms/laws.FnExactNamesPut", spec := "fnExactNamesPut", inPlace := ["internal/bytealg.IndexByteString", "internal/bytealg.IndexString", "internal/bytealg.CountString", "internal/abi.NoEscape", "internal/bytealg.MakeNoZero"], unfollowed := true, recurses := true, named := ["internal/bytealg.MaxLen", "unicode/utf8.first", "unicode/utf8.acceptRanges"], apart := false, laid := [("unicode/utf8.acceptRanges", laid_unicode_utf8_acceptRanges), ("unicode/utf8.first", laid_unicode_utf8_first)], narrowed := true }
def FnExactNamesPutUptoSaid : Prop := fnExactNamesPutUptoRow.holds Tryz.pinned (OpenSpec.upto fnExactNamesPutSpec)

/-- 'laws.FnExactNamesGet', WHERE WHAT IT READS IS OF BULK AT MOST 1048576: true; the input reads as it did. -/
def fnExactNamesGetUptoRow : OpenClaim := { program := "ytkigmebejmmikaagreatdoor", sum := "2b60e5c97ac67e1dad15f91d61894b7ca9943607d7af10cee3d924897ee8a741", func := "loop.example/wireforms/laws.FnExactNamesGet", spec := "fnExactNamesGet", inPlace := ["internal/bytealg.IndexByteString", "internal/bytealg.IndexString", "internal/bytealg.CountString", "internal/abi.NoEscape", "internal/bytealg.MakeNoZero"], unfollowed := true, recurses := true, named := ["internal/bytealg.MaxLen", "unicode/utf8.first", "unicode/utf8.acceptRanges"], apart := false, laid := [("unicode/utf8.acceptRanges", laid_unicode_utf8_acceptRanges), ("unicode/utf8.first", laid_unicode_utf8_first)], narrowed := true }
def FnExactNamesGetUptoSaid : Prop := fnExactNamesGetUptoRow.holds Tryz.pinned (OpenSpec.upto fnExactNamesGetSpec)

/-- 'laws.FnNamesPut', WHERE WHAT IT READS IS OF BULK AT MOST 1048576: true; the input reads as it did. -/
def fnNamesPutUptoRow : OpenClaim := { program := "ytkigmebejmmikaagreatdoor", sum := "2b60e5c97ac67e1dad15f91d61894b7ca9943607d7af10cee3d924897ee8a741", func := "loop.example/wireforms/laws.FnNamesPut", spec := "fnNamesPut", inPlace := ["internal/bytealg.IndexByteString", "internal/bytealg.IndexString", "internal/bytealg.CountString", "internal/abi.NoEscape", "internal/bytealg.MakeNoZero"], unfollowed := true, recurses := true, named := ["internal/bytealg.MaxLen", "unicode/utf8.first", "unicode/utf8.acceptRanges"], apart := false, laid := [("unicode/utf8.acceptRanges", laid_unicode_utf8_acceptRanges), ("unicode/utf8.first", laid_unicode_utf8_first)], narrowed := true }
def FnNamesPutUptoSaid : Prop := fnNamesPutUptoRow.holds Tryz.pinned (OpenSpec.upto fnNamesPutSpec)

/-- 'laws.FnNamesGet', WHERE WHAT IT READS IS OF BULK AT MOST 1048576: true; the input reads as it did. -/
def fnNamesGetUptoRow : OpenClaim := { program := "ytkigmebejmmikaagreatdoor", sum := "2b60e5c97ac67e1dad15f91d61894b7ca9943607d7af10cee3d924897ee8a741", func := "loop.example/wireforms/laws.FnNamesGet", spec := "fnNamesGet", inPlace := ["internal/bytealg.IndexByteString", "internal/bytealg.IndexString", "internal/bytealg.CountString", "internal/abi.NoEscape", "internal/bytealg.MakeNoZero"], unfollowed := true, recurses := true, named := ["internal/bytealg.MaxLen", "unicode/utf8.first", "unicode/utf8.acceptRanges"], apart := false, laid := [("unicode/utf8.acceptRanges", laid_unicode_utf8_acceptRanges), ("unicode/utf8.first", laid_unicode_utf8_first)], narrowed := true }
def FnNamesGetUptoSaid : Prop := fnNamesGetUptoRow.holds Tryz.pinned (OpenSpec.upto fnNamesGetSpec)

/-- 'laws.FnNamesOrder', WHERE WHAT IT READS IS OF BULK AT MOST 1048576: true; the input reads as it did. -/
def fnNamesOrderUptoRow : OpenClaim := { program := "ytkigmebejmmikaagreatdoor", sum := "2b60e5c97ac67e1dad15f91d61894b7ca9943607d7af10cee3d924897ee8a741", func := "loop.example/wireforms/laws.FnNamesOrder", spec := "fnNamesOrder", inPlace := ["internal/bytealg.IndexByteString", "internal/bytealg.IndexString", "internal/bytealg.CountString", "internal/abi.NoEscape", "internal/bytealg.MakeNoZero"], unfollowed := true, recurses := true, named := ["internal/bytealg.MaxLen", "unicode/utf8.first", "unicode/utf8.acceptRanges"], apart := false, laid := [("unicode/utf8.acceptRanges", laid_unicode_utf8_acceptRanges), ("unicode/utf8.first", laid_unicode_utf8_first)], narrowed := true }
def FnNamesOrderUptoSaid : Prop := fnNamesOrderUptoRow.holds Tryz.pinned (OpenSpec.upto fnNamesOrderSpec)

end Rows
end Go.Proofs.YtkigmebejmmikaaGreatDoor
