/-
  NARROWER THAN 'FOR EVERY INPUT', by the rows' own cells (each row's printed sentence says how): FnNamesGet: laid · FnLiftField: laid · FnLetterPut: laid · FnLetterGet: laid · FnLetterMove: laid · FnBytesCanon: laid · FnEvolveLift: laid.
  DERIVED. THE GIVEN ROWS OF THIS SEAT. 7 by the template 'for every input the law returns true; each argument reads behind the call as it read before'; 0 by the template 'total and deterministic' (their statements: YtmmhmlmfhpfgbaaGreatDoorTotals.lean).
  GIVEN WITH THE SEED: the statements are not yours to turn. If you find one false, say at which input.
  Laid BY PROGRAM, IN A SANDBOX (cutbox-rows.mjs): the forced cells as the released guide's own fill.sh prints them over the translation db874b2fcc4c1dbe… (all of the seat's roots in one cut). By AI agents, Wed Nov 11 2026. No macro, syntax, notation, axiom, sorry.
-/
import Derived.Test.YtmmhmlmfhpfgbaaGreatDoorChecked
import GoSem.PinnedTables
import GoSem.Claim
import GoSem.ClaimJoined
import GoSem.ClaimMapViews
import Derived.JoinedTies
import Derived.KernelRfl
namespace Go.Proofs.YtmmhmlmfhpfgbaaGreatDoor
/- THE CELL 'sum', in the pinned program and in every row, IS THE sha256 OF THE DUMP (.gsa) THAT YtmmhmlmfhpfgbaaGreatDoorProg.lean LOADS. Nothing in Lean hashes anything: it is a label: what it is worth is what the hold of that sum in a sandbox is worth. -/
noncomputable def Tryz.pinned : Pinned := { name := "ytmmhmlmfhpfgbaagreatdoor", sum := "db874b2fcc4c1dbec0124f8b9a2400e73736c4b2432b5db93cc6af6cf8e1d3cd", checked := Tryz.checked }
namespace Rows
def none {H : Type} : Left H := { results := [], args := [] }

/- WHAT THE LISTED PACKAGE-LEVEL VARIABLES READ AS WHEN THE CALL BEGINS. Each datum BY PROGRAM (the guide's laid-datum.mjs) off the statement by which the dump's own 'gosem.cut.vars' lays the variable. In a bare row this is a premise. The card (YtmmhmlmfhpfgbaaGreatDoorCards.lean) ties it to the program's text. -/
def laid_unicode_utf8_acceptRanges {H : Type} : DataW H := .agg [.agg [.lit (.int .u8 128), .lit (.int .u8 191)], .agg [.lit (.int .u8 160), .lit (.int .u8 191)], .agg [.lit (.int .u8 128), .lit (.int .u8 159)], .agg [.lit (.int .u8 144), .lit (.int .u8 191)], .agg [.lit (.int .u8 128), .lit (.int .u8 143)], .agg [.lit (.int .u8 0), .lit (.int .u8 0)], .agg [.lit (.int .u8 0), .lit (.int .u8 0)], .agg [.lit (.int .u8 0), .lit (.int .u8 0)], .agg [.lit (.int .u8 0), .lit (.int .u8 0)], .agg [.lit (.int .u8 0), .lit (.int .u8 0)], .agg [.lit (.int .u8 0), .lit (.int .u8 0)], .agg [.lit (.int .u8 0), .lit (.int .u8 0)], .agg [.lit (.int .u8 0), .lit (.int .u8 0)], .agg [.lit (.int .u8 0), .lit (.int .u8 0)], .agg [.lit (.int .u8 0), .lit (.int .u8 0)], .agg [.lit (.int .u8 0), .lit (.int .u8 0)]]
/-- One of Go's own tables, pinned by name: the form's constant. -/
def laid_unicode_utf8_first : DataW Unit := Go.Pinned.utf8First

/-- 'laws.FnNamesGet': WHATEVER THE INPUT: true; the input reads as it did. -/
def fnNamesGetSpec : ChangeSpec := { name := "fnNamesGet", fn := fun _ => fun
  | [d] => { results := [.lit (.bool true)], args := [d] }
  | _ => none }
def fnNamesGetRow : OpenClaim := { program := "ytmmhmlmfhpfgbaagreatdoor", sum := "db874b2fcc4c1dbec0124f8b9a2400e73736c4b2432b5db93cc6af6cf8e1d3cd", func := "loop.example/wireforms/laws.FnNamesGet", spec := "fnNamesGet", inPlace := ["internal/bytealg.IndexByteString", "internal/bytealg.IndexString", "internal/bytealg.CountString", "internal/abi.NoEscape", "internal/bytealg.MakeNoZero"], unfollowed := true, recurses := true, named := ["internal/bytealg.MaxLen", "unicode/utf8.first", "unicode/utf8.acceptRanges"], plainKeys := false, apart := false, laid := [("unicode/utf8.acceptRanges", laid_unicode_utf8_acceptRanges), ("unicode/utf8.first", laid_unicode_utf8_first)] }
def FnNamesGetSaid : Prop := fnNamesGetRow.holds Tryz.pinned (OpenSpec.ofChange fnNamesGetSpec)

/-- ITS FALSE NEIGHBOUR: 'it returns false'. Refute it at one input. -/
def fnNamesGetWrong : ChangeSpec := { name := "fnNamesGet", fn := fun _ => fun
  | [d] => { results := [.lit (.bool false)], args := [d] }
  | _ => none }
def FnNamesGetWrongFalsely : Prop := fnNamesGetRow.holds Tryz.pinned (OpenSpec.ofChange fnNamesGetWrong)

/-- 'laws.FnLiftField': WHATEVER THE INPUT: true; the input reads as it did. -/
def fnLiftFieldSpec : ChangeSpec := { name := "fnLiftField", fn := fun _ => fun
  | [d] => { results := [.lit (.bool true)], args := [d] }
  | _ => none }
def fnLiftFieldRow : OpenClaim := { program := "ytmmhmlmfhpfgbaagreatdoor", sum := "db874b2fcc4c1dbec0124f8b9a2400e73736c4b2432b5db93cc6af6cf8e1d3cd", func := "loop.example/wireforms/laws.FnLiftField", spec := "fnLiftField", inPlace := ["internal/bytealg.IndexByteString", "internal/bytealg.IndexString", "internal/bytealg.CountString", "internal/abi.NoEscape", "internal/bytealg.MakeNoZero"], unfollowed := true, recurses := true, named := ["internal/bytealg.MaxLen", "unicode/utf8.first", "unicode/utf8.acceptRanges"], plainKeys := false, apart := false, laid := [("unicode/utf8.acceptRanges", laid_unicode_utf8_acceptRanges), ("unicode/utf8.first", laid_unicode_utf8_first)] }
def FnLiftFieldSaid : Prop := fnLiftFieldRow.holds Tryz.pinned (OpenSpec.ofChange fnLiftFieldSpec)

/-- ITS FALSE NEIGHBOUR: 'it returns false'. Refute it at one input. -/
def fnLiftFieldWrong : ChangeSpec := { name := "fnLiftField", fn := fun _ => fun
  | [d] => { results := [.lit (.bool false)], args := [d] }
  | _ => none }
def FnLiftFieldWrongFalsely : Prop := fnLiftFieldRow.holds Tryz.pinned (OpenSpec.ofChange fnLiftFieldWrong)

/-- 'laws.FnLetterPut': WHATEVER THE INPUT: true; the input reads as it did. -/
def fnLetterPutSpec : ChangeSpec := { name := "fnLetterPut", fn := fun _ => fun
  | [d] => { results := [.lit (.bool true)], args := [d] }
  | _ => none }
def fnLetterPutRow : OpenClaim := { program := "ytmmhmlmfhpfgbaagreatdoor", sum := "db874b2fcc4c1dbec0124f8b9a2400e73736c4b2432b5db93cc6af6cf8e1d3cd", func := "loop.example/wireforms/laws.FnLetterPut", spec := "fnLetterPut", inPlace := ["internal/bytealg.IndexByteString", "internal/bytealg.IndexString", "internal/bytealg.CountString", "internal/abi.NoEscape", "internal/bytealg.MakeNoZero"], unfollowed := true, recurses := true, named := ["internal/bytealg.MaxLen", "unicode/utf8.first", "unicode/utf8.acceptRanges"], plainKeys := false, apart := false, laid := [("unicode/utf8.acceptRanges", laid_unicode_utf8_acceptRanges), ("unicode/utf8.first", laid_unicode_utf8_first)] }
def FnLetterPutSaid : Prop := fnLetterPutRow.holds Tryz.pinned (OpenSpec.ofChange fnLetterPutSpec)

/-- ITS FALSE NEIGHBOUR: 'it returns false'. Refute it at one input. -/
def fnLetterPutWrong : ChangeSpec := { name := "fnLetterPut", fn := fun _ => fun
  | [d] => { results := [.lit (.bool false)], args := [d] }
  | _ => none }
def FnLetterPutWrongFalsely : Prop := fnLetterPutRow.holds Tryz.pinned (OpenSpec.ofChange fnLetterPutWrong)

/-- 'laws.FnLetterGet': WHATEVER THE INPUT: true; the input reads as it did. -/
def fnLetterGetSpec : ChangeSpec := { name := "fnLetterGet", fn := fun _ => fun
  | [d] => { results := [.lit (.bool true)], args := [d] }
  | _ => none }
def fnLetterGetRow : OpenClaim := { program := "ytmmhmlmfhpfgbaagreatdoor", sum := "db874b2fcc4c1dbec0124f8b9a2400e73736c4b2432b5db93cc6af6cf8e1d3cd", func := "loop.example/wireforms/laws.FnLetterGet", spec := "fnLetterGet", inPlace := ["internal/bytealg.IndexByteString", "internal/bytealg.IndexString", "internal/bytealg.CountString", "internal/abi.NoEscape", "internal/bytealg.MakeNoZero"], unfollowed := true, recurses := true, named := ["internal/bytealg.MaxLen", "unicode/utf8.first", "unicode/utf8.acceptRanges"], plainKeys := false, apart := false, laid := [("unicode/utf8.acceptRanges", laid_unicode_utf8_acceptRanges), ("unicode/utf8.first", laid_unicode_utf8_first)] }
def FnLetterGetSaid : Prop := fnLetterGetRow.holds Tryz.pinned (OpenSpec.ofChange fnLetterGetSpec)

/-- ITS FALSE NEIGHBOUR: 'it returns false'. Refute it at one input. -/
def fnLetterGetWrong : ChangeSpec := { name := "fnLetterGet", fn := fun _ => fun
  | [d] => { results := [.lit (.bool false)], args := [d] }
  | _ => none }
def FnLetterGetWrongFalsely : Prop := fnLetterGetRow.holds Tryz.pinned (OpenSpec.ofChange fnLetterGetWrong)

/-- 'laws.FnLetterMove': WHATEVER THE INPUT: true; the input reads as it did. -/
def fnLetterMoveSpec : ChangeSpec := { name := "fnLetterMove", fn := fun _ => fun
  | [d] => { results := [.lit (.bool true)], args := [d] }
  | _ => none }
def fnLetterMoveRow : OpenClaim := { program := "ytmmhmlmfhpfgbaagreatdoor", sum := "db874b2fcc4c1dbec0124f8b9a2400e73736c4b2432b5db93cc6af6cf8e1d3cd", func := "loop.example/wireforms/laws.FnLetterMove", spec := "fnLetterMove", inPlace := ["internal/bytealg.IndexByteString", "internal/bytealg.IndexString", "internal/bytealg.CountString", "internal/abi.NoEscape", "internal/bytealg.MakeNoZero"], unfollowed := true, recurses := true, named := ["internal/bytealg.MaxLen", "unicode/utf8.first", "unicode/utf8.acceptRanges"], plainKeys := false, apart := false, laid := [("unicode/utf8.acceptRanges", laid_unicode_utf8_acceptRanges), ("unicode/utf8.first", laid_unicode_utf8_first)] }
def FnLetterMoveSaid : Prop := fnLetterMoveRow.holds Tryz.pinned (OpenSpec.ofChange fnLetterMoveSpec)

/-- ITS FALSE NEIGHBOUR: 'it returns false'. Refute it at one input. -/
def fnLetterMoveWrong : ChangeSpec := { name := "fnLetterMove", fn := fun _ => fun
  | [d] => { results := [.lit (.bool false)], args := [d] }
  | _ => none }
def FnLetterMoveWrongFalsely : Prop := fnLetterMoveRow.holds Tryz.pinned (OpenSpec.ofChange fnLetterMoveWrong)

/-- 'laws.FnBytesCanon': WHATEVER THE INPUT: true; the input reads as it did. -/
def fnBytesCanonSpec : ChangeSpec := { name := "fnBytesCanon", fn := fun _ => fun
  | [d] => { results := [.lit (.bool true)], args := [d] }
  | _ => none }
def fnBytesCanonRow : OpenClaim := { program := "ytmmhmlmfhpfgbaagreatdoor", sum := "db874b2fcc4c1dbec0124f8b9a2400e73736c4b2432b5db93cc6af6cf8e1d3cd", func := "loop.example/wireforms/laws.FnBytesCanon", spec := "fnBytesCanon", inPlace := ["internal/bytealg.IndexByteString", "internal/bytealg.IndexString", "internal/bytealg.CountString", "internal/abi.NoEscape", "internal/bytealg.MakeNoZero"], unfollowed := true, recurses := true, named := ["internal/bytealg.MaxLen", "unicode/utf8.first", "unicode/utf8.acceptRanges"], plainKeys := false, apart := false, laid := [("unicode/utf8.acceptRanges", laid_unicode_utf8_acceptRanges), ("unicode/utf8.first", laid_unicode_utf8_first)] }
def FnBytesCanonSaid : Prop := fnBytesCanonRow.holds Tryz.pinned (OpenSpec.ofChange fnBytesCanonSpec)

/-- ITS FALSE NEIGHBOUR: 'it returns false'. Refute it at one input. -/
def fnBytesCanonWrong : ChangeSpec := { name := "fnBytesCanon", fn := fun _ => fun
  | [d] => { results := [.lit (.bool false)], args := [d] }
  | _ => none }
def FnBytesCanonWrongFalsely : Prop := fnBytesCanonRow.holds Tryz.pinned (OpenSpec.ofChange fnBytesCanonWrong)

/-- 'laws.FnEvolveLift': WHATEVER THE INPUT: true; the input reads as it did. -/
def fnEvolveLiftSpec : ChangeSpec := { name := "fnEvolveLift", fn := fun _ => fun
  | [d] => { results := [.lit (.bool true)], args := [d] }
  | _ => none }
def fnEvolveLiftRow : OpenClaim := { program := "ytmmhmlmfhpfgbaagreatdoor", sum := "db874b2fcc4c1dbec0124f8b9a2400e73736c4b2432b5db93cc6af6cf8e1d3cd", func := "loop.example/wireforms/laws.FnEvolveLift", spec := "fnEvolveLift", inPlace := ["internal/bytealg.IndexByteString", "internal/bytealg.IndexString", "internal/bytealg.CountString", "internal/abi.NoEscape", "internal/bytealg.MakeNoZero"], unfollowed := true, recurses := true, named := ["internal/bytealg.MaxLen", "unicode/utf8.first", "unicode/utf8.acceptRanges"], plainKeys := false, apart := false, laid := [("unicode/utf8.acceptRanges", laid_unicode_utf8_acceptRanges), ("unicode/utf8.first", laid_unicode_utf8_first)] }
def FnEvolveLiftSaid : Prop := fnEvolveLiftRow.holds Tryz.pinned (OpenSpec.ofChange fnEvolveLiftSpec)

/-- ITS FALSE NEIGHBOUR: 'it returns false'. Refute it at one input. -/
def fnEvolveLiftWrong : ChangeSpec := { name := "fnEvolveLift", fn := fun _ => fun
  | [d] => { results := [.lit (.bool false)], args := [d] }
  | _ => none }
def FnEvolveLiftWrongFalsely : Prop := fnEvolveLiftRow.holds Tryz.pinned (OpenSpec.ofChange fnEvolveLiftWrong)

/- THE SECOND FORM. 'bulk': how many values and letters a reading holds, each counted each time it is reached (what is shared counts as often as it is met; a slice's spare places count too). A statement '..UptoSaid' is the law's where the arguments, and the package variables that the reading takes, are together of bulk at most 1048576: NARROWER than '..Said'. Prove '..Said' where nothing that the law and all that it calls make is longer than what came in: it says more and counts as full. Else prove '..UptoSaid'. A law counts once. -/
mutual
def uptoBulk {H : Type} : DataW H → Nat
  | .lit (.string bytes) => bytes.length + 1
  | .lit _ => 1
  | .nil => 1
  | .ptr d => uptoBulk d + 1
  | .slice elems spare => uptoBulkAll elems + uptoBulkAll spare + 1
  | .agg parts => uptoBulkAll parts + 1
  | .iface _ d => uptoBulk d + 1
  | .map entries => uptoBulkEntries entries + 1
  | .held _ => 1
def uptoBulkAll {H : Type} : List (DataW H) → Nat
  | [] => 0
  | d :: r => uptoBulk d + uptoBulkAll r
def uptoBulkEntries {H : Type} : List (Lit × DataW H) → Nat
  | [] => 0
  | x :: r => uptoBulkEntry x + uptoBulkEntries r
def uptoBulkEntry {H : Type} : Lit × DataW H → Nat
  | (.string bytes, d) => bytes.length + uptoBulk d + 1
  | (_, d) => uptoBulk d + 1
 end
def uptoSmall : (H : Type) → List (DataW H) → Bool := fun _ ds => decide (uptoBulkAll ds ≤ 1048576)
def OpenSpec.upto (s : _root_.Go.ChangeSpec) : _root_.Go.OpenSpec := { _root_.Go.OpenSpec.ofChange s with cond := some uptoSmall }

/-- 'laws.FnNamesGet', WHERE WHAT IT READS IS OF BULK AT MOST 1048576: true; the input reads as it did. -/
def fnNamesGetUptoRow : OpenClaim := { program := "ytmmhmlmfhpfgbaagreatdoor", sum := "db874b2fcc4c1dbec0124f8b9a2400e73736c4b2432b5db93cc6af6cf8e1d3cd", func := "loop.example/wireforms/laws.FnNamesGet", spec := "fnNamesGet", inPlace := ["internal/bytealg.IndexByteString", "internal/bytealg.IndexString", "internal/bytealg.CountString", "internal/abi.NoEscape", "internal/bytealg.MakeNoZero"], unfollowed := true, recurses := true, named := ["internal/bytealg.MaxLen", "unicode/utf8.first", "unicode/utf8.acceptRanges"], plainKeys := false, apart := false, laid := [("unicode/utf8.acceptRanges", laid_unicode_utf8_acceptRanges), ("unicode/utf8.first", laid_unicode_utf8_first)], narrowed := true }
def FnNamesGetUptoSaid : Prop := fnNamesGetUptoRow.holds Tryz.pinned (OpenSpec.upto fnNamesGetSpec)

/-- 'laws.FnLiftField', WHERE WHAT IT READS IS OF BULK AT MOST 1048576: true; the input reads as it did. -/
def fnLiftFieldUptoRow : OpenClaim := { program := "ytmmhmlmfhpfgbaagreatdoor", sum := "db874b2fcc4c1dbec0124f8b9a2400e73736c4b2432b5db93cc6af6cf8e1d3cd", func := "loop.example/wireforms/laws.FnLiftField", spec := "fnLiftField", inPlace := ["internal/bytealg.IndexByteString", "internal/bytealg.IndexString", "internal/bytealg.CountString", "internal/abi.NoEscape", "internal/bytealg.MakeNoZero"], unfollowed := true, recurses := true, named := ["internal/bytealg.MaxLen", "unicode/utf8.first", "unicode/utf8.acceptRanges"], plainKeys := false, apart := false, laid := [("unicode/utf8.acceptRanges", laid_unicode_utf8_acceptRanges), ("unicode/utf8.first", laid_unicode_utf8_first)], narrowed := true }
def FnLiftFieldUptoSaid : Prop := fnLiftFieldUptoRow.holds Tryz.pinned (OpenSpec.upto fnLiftFieldSpec)

/-- 'laws.FnLetterPut', WHERE WHAT IT READS IS OF BULK AT MOST 1048576: true; the input reads as it did. -/
def fnLetterPutUptoRow : OpenClaim := { program := "ytmmhmlmfhpfgbaagreatdoor", sum := "db874b2fcc4c1dbec0124f8b9a2400e73736c4b2432b5db93cc6af6cf8e1d3cd", func := "loop.example/wireforms/laws.FnLetterPut", spec := "fnLetterPut", inPlace := ["internal/bytealg.IndexByteString", "internal/bytealg.IndexString", "internal/bytealg.CountString", "internal/abi.NoEscape", "internal/bytealg.MakeNoZero"], unfollowed := true, recurses := true, named := ["internal/bytealg.MaxLen", "unicode/utf8.first", "unicode/utf8.acceptRanges"], plainKeys := false, apart := false, laid := [("unicode/utf8.acceptRanges", laid_unicode_utf8_acceptRanges), ("unicode/utf8.first", laid_unicode_utf8_first)], narrowed := true }
def FnLetterPutUptoSaid : Prop := fnLetterPutUptoRow.holds Tryz.pinned (OpenSpec.upto fnLetterPutSpec)

/-- 'laws.FnLetterGet', WHERE WHAT IT READS IS OF BULK AT MOST 1048576: true; the input reads as it did. -/
def fnLetterGetUptoRow : OpenClaim := { program := "ytmmhmlmfhpfgbaagreatdoor", sum := "db874b2fcc4c1dbec0124f8b9a2400e73736c4b2432b5db93cc6af6cf8e1d3cd", func := "loop.example/wireforms/laws.FnLetterGet", spec := "fnLetterGet", inPlace := ["internal/bytealg.IndexByteString", "internal/bytealg.IndexString", "internal/bytealg.CountString", "internal/abi.NoEscape", "internal/bytealg.MakeNoZero"], unfollowed := true, recurses := true, named := ["internal/bytealg.MaxLen", "unicode/utf8.first", "unicode/utf8.acceptRanges"], plainKeys := false, apart := false, laid := [("unicode/utf8.acceptRanges", laid_unicode_utf8_acceptRanges), ("unicode/utf8.first", laid_unicode_utf8_first)], narrowed := true }
def FnLetterGetUptoSaid : Prop := fnLetterGetUptoRow.holds Tryz.pinned (OpenSpec.upto fnLetterGetSpec)

/-- 'laws.FnLetterMove', WHERE WHAT IT READS IS OF BULK AT MOST 1048576: true; the input reads as it did. -/
def fnLetterMoveUptoRow : OpenClaim := { program := "ytmmhmlmfhpfgbaagreatdoor", sum := "db874b2fcc4c1dbec0124f8b9a2400e73736c4b2432b5db93cc6af6cf8e1d3cd", func := "loop.example/wireforms/laws.FnLetterMove", spec := "fnLetterMove", inPlace := ["internal/bytealg.IndexByteString", "internal/bytealg.IndexString", "internal/bytealg.CountString", "internal/abi.NoEscape", "internal/bytealg.MakeNoZero"], unfollowed := true, recurses := true, named := ["internal/bytealg.MaxLen", "unicode/utf8.first", "unicode/utf8.acceptRanges"], plainKeys := false, apart := false, laid := [("unicode/utf8.acceptRanges", laid_unicode_utf8_acceptRanges), ("unicode/utf8.first", laid_unicode_utf8_first)], narrowed := true }
def FnLetterMoveUptoSaid : Prop := fnLetterMoveUptoRow.holds Tryz.pinned (OpenSpec.upto fnLetterMoveSpec)

/-- 'laws.FnBytesCanon', WHERE WHAT IT READS IS OF BULK AT MOST 1048576: true; the input reads as it did. -/
def fnBytesCanonUptoRow : OpenClaim := { program := "ytmmhmlmfhpfgbaagreatdoor", sum := "db874b2fcc4c1dbec0124f8b9a2400e73736c4b2432b5db93cc6af6cf8e1d3cd", func := "loop.example/wireforms/laws.FnBytesCanon", spec := "fnBytesCanon", inPlace := ["internal/bytealg.IndexByteString", "internal/bytealg.IndexString", "internal/bytealg.CountString", "internal/abi.NoEscape", "internal/bytealg.MakeNoZero"], unfollowed := true, recurses := true, named := ["internal/bytealg.MaxLen", "unicode/utf8.first", "unicode/utf8.acceptRanges"], plainKeys := false, apart := false, laid := [("unicode/utf8.acceptRanges", laid_unicode_utf8_acceptRanges), ("unicode/utf8.first", laid_unicode_utf8_first)], narrowed := true }
def FnBytesCanonUptoSaid : Prop := fnBytesCanonUptoRow.holds Tryz.pinned (OpenSpec.upto fnBytesCanonSpec)

/-- 'laws.FnEvolveLift', WHERE WHAT IT READS IS OF BULK AT MOST 1048576: true; the input reads as it did. -/
def fnEvolveLiftUptoRow : OpenClaim := { program := "ytmmhmlmfhpfgbaagreatdoor", sum := "db874b2fcc4c1dbec0124f8b9a2400e73736c4b2432b5db93cc6af6cf8e1d3cd", func := "loop.example/wireforms/laws.FnEvolveLift", spec := "fnEvolveLift", inPlace := ["internal/bytealg.IndexByteString", "internal/bytealg.IndexString", "internal/bytealg.CountString", "internal/abi.NoEscape", "internal/bytealg.MakeNoZero"], unfollowed := true, recurses := true, named := ["internal/bytealg.MaxLen", "unicode/utf8.first", "unicode/utf8.acceptRanges"], plainKeys := false, apart := false, laid := [("unicode/utf8.acceptRanges", laid_unicode_utf8_acceptRanges), ("unicode/utf8.first", laid_unicode_utf8_first)], narrowed := true }
def FnEvolveLiftUptoSaid : Prop := fnEvolveLiftUptoRow.holds Tryz.pinned (OpenSpec.upto fnEvolveLiftSpec)

end Rows
end Go.Proofs.YtmmhmlmfhpfgbaaGreatDoor
