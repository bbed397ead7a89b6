/-
  NARROWER THAN 'FOR EVERY INPUT', by the rows' own cells (each row's printed sentence says how): FnExactSchemaCount: laid · FnExactEvolveReads: laid · FnExactEvolveBoth: laid · FnExactSchemaForm: laid · FnExactSchemaAlike: laid · FnExactRegistryOk: laid.
  DERIVED. THE GIVEN ROWS OF THIS SEAT. 6 by the template 'for every input the law returns true; each argument reads behind the call as it read before'; 0 by the template 'total and deterministic' (their statements: YtldojpoheiljdaaDoorTotals.lean).
  GIVEN WITH THE SEED: the statements are not yours to turn. If you find one false, say at which input.
  Laid BY PROGRAM, IN A SANDBOX (cutbox-rows.mjs): the forced cells as the released guide's own fill.sh prints them over the translation d2dab1f3dacbcf41… (all of the seat's roots in one cut). By AI agents, Wed Nov 11 2026. No macro, syntax, notation, axiom, sorry.
-/
import Derived.Test.YtldojpoheiljdaaDoorChecked
import GoSem.PinnedTables
import GoSem.Claim
import GoSem.ClaimJoined
import GoSem.ClaimMapViews
import Derived.JoinedTies
import Derived.KernelRfl
namespace Go.Proofs.YtldojpoheiljdaaDoor
/- THE CELL 'sum', in the pinned program and in every row, IS THE sha256 OF THE DUMP (.gsa) THAT YtldojpoheiljdaaDoorProg.lean LOADS. Nothing in Lean hashes anything: it is a label: what it is worth is what the hold of that sum in a sandbox is worth. -/
noncomputable def Tryd.pinned : Pinned := { name := "ytldojpoheiljdaadoor", sum := "d2dab1f3dacbcf415b71577b40783f31194ea554ed2d6b331418375bf6035b4f", checked := Tryd.checked }
namespace Rows
def none {H : Type} : Left H := { results := [], args := [] }

/- WHAT THE LISTED PACKAGE-LEVEL VARIABLES READ AS WHEN THE CALL BEGINS. Each datum BY PROGRAM (the guide's laid-datum.mjs) off the statement by which the dump's own 'gosem.cut.vars' lays the variable. In a bare row this is a premise. The card (YtldojpoheiljdaaDoorCards.lean) ties it to the program's text. -/
def laid_unicode_utf8_acceptRanges {H : Type} : DataW H := .agg [.agg [.lit (.int .u8 128), .lit (.int .u8 191)], .agg [.lit (.int .u8 160), .lit (.int .u8 191)], .agg [.lit (.int .u8 128), .lit (.int .u8 159)], .agg [.lit (.int .u8 144), .lit (.int .u8 191)], .agg [.lit (.int .u8 128), .lit (.int .u8 143)], .agg [.lit (.int .u8 0), .lit (.int .u8 0)], .agg [.lit (.int .u8 0), .lit (.int .u8 0)], .agg [.lit (.int .u8 0), .lit (.int .u8 0)], .agg [.lit (.int .u8 0), .lit (.int .u8 0)], .agg [.lit (.int .u8 0), .lit (.int .u8 0)], .agg [.lit (.int .u8 0), .lit (.int .u8 0)], .agg [.lit (.int .u8 0), .lit (.int .u8 0)], .agg [.lit (.int .u8 0), .lit (.int .u8 0)], .agg [.lit (.int .u8 0), .lit (.int .u8 0)], .agg [.lit (.int .u8 0), .lit (.int .u8 0)], .agg [.lit (.int .u8 0), .lit (.int .u8 0)]]
/-- One of Go's own tables, pinned by name: the form's constant. -/
def laid_unicode_utf8_first : DataW Unit := Go.Pinned.utf8First

/-- 'laws.FnExactSchemaCount': WHATEVER THE INPUT: true; the input reads as it did. -/
def fnExactSchemaCountSpec : ChangeSpec := { name := "fnExactSchemaCount", fn := fun _ => fun
  | [d1, d2] => { results := [.lit (.bool true)], args := [d1, d2] }
  | _ => none }
def fnExactSchemaCountRow : OpenClaim := { program := "ytldojpoheiljdaadoor", sum := "d2dab1f3dacbcf415b71577b40783f31194ea554ed2d6b331418375bf6035b4f", func := "loop.example/wireforms/laws.FnExactSchemaCount", spec := "fnExactSchemaCount", inPlace := ["internal/bytealg.IndexByteString", "internal/bytealg.IndexString", "internal/bytealg.CountString"], unfollowed := true, recurses := true, named := ["internal/bytealg.MaxLen", "unicode/utf8.first", "unicode/utf8.acceptRanges"], plainKeys := false, apart := false, laid := [("unicode/utf8.acceptRanges", laid_unicode_utf8_acceptRanges), ("unicode/utf8.first", laid_unicode_utf8_first)] }
def FnExactSchemaCountSaid : Prop := fnExactSchemaCountRow.holds Tryd.pinned (OpenSpec.ofChange fnExactSchemaCountSpec)

/-- ITS FALSE NEIGHBOUR: 'it returns false'. Refute it at one input. -/
def fnExactSchemaCountWrong : ChangeSpec := { name := "fnExactSchemaCount", fn := fun _ => fun
  | [d1, d2] => { results := [.lit (.bool false)], args := [d1, d2] }
  | _ => none }
def FnExactSchemaCountWrongFalsely : Prop := fnExactSchemaCountRow.holds Tryd.pinned (OpenSpec.ofChange fnExactSchemaCountWrong)

/-- 'laws.FnExactEvolveReads': WHATEVER THE INPUT: true; the input reads as it did. -/
def fnExactEvolveReadsSpec : ChangeSpec := { name := "fnExactEvolveReads", fn := fun _ => fun
  | [d1, d2, d3, d4] => { results := [.lit (.bool true)], args := [d1, d2, d3, d4] }
  | _ => none }
def fnExactEvolveReadsRow : OpenClaim := { program := "ytldojpoheiljdaadoor", sum := "d2dab1f3dacbcf415b71577b40783f31194ea554ed2d6b331418375bf6035b4f", func := "loop.example/wireforms/laws.FnExactEvolveReads", spec := "fnExactEvolveReads", inPlace := ["internal/bytealg.IndexByteString", "internal/bytealg.IndexString", "internal/bytealg.CountString"], recurses := true, named := ["internal/bytealg.MaxLen", "unicode/utf8.first", "unicode/utf8.acceptRanges"], plainKeys := false, apart := false, laid := [("unicode/utf8.acceptRanges", laid_unicode_utf8_acceptRanges), ("unicode/utf8.first", laid_unicode_utf8_first)] }
def FnExactEvolveReadsSaid : Prop := fnExactEvolveReadsRow.holds Tryd.pinned (OpenSpec.ofChange fnExactEvolveReadsSpec)

/-- ITS FALSE NEIGHBOUR: 'it returns false'. Refute it at one input. -/
def fnExactEvolveReadsWrong : ChangeSpec := { name := "fnExactEvolveReads", fn := fun _ => fun
  | [d1, d2, d3, d4] => { results := [.lit (.bool false)], args := [d1, d2, d3, d4] }
  | _ => none }
def FnExactEvolveReadsWrongFalsely : Prop := fnExactEvolveReadsRow.holds Tryd.pinned (OpenSpec.ofChange fnExactEvolveReadsWrong)

/-- 'laws.FnExactEvolveBoth': WHATEVER THE INPUT: true; the input reads as it did. -/
def fnExactEvolveBothSpec : ChangeSpec := { name := "fnExactEvolveBoth", fn := fun _ => fun
  | [d1, d2, d3, d4] => { results := [.lit (.bool true)], args := [d1, d2, d3, d4] }
  | _ => none }
def fnExactEvolveBothRow : OpenClaim := { program := "ytldojpoheiljdaadoor", sum := "d2dab1f3dacbcf415b71577b40783f31194ea554ed2d6b331418375bf6035b4f", func := "loop.example/wireforms/laws.FnExactEvolveBoth", spec := "fnExactEvolveBoth", inPlace := ["internal/bytealg.IndexByteString", "internal/bytealg.IndexString", "internal/bytealg.CountString"], recurses := true, named := ["internal/bytealg.MaxLen", "unicode/utf8.first", "unicode/utf8.acceptRanges"], plainKeys := false, apart := false, laid := [("unicode/utf8.acceptRanges", laid_unicode_utf8_acceptRanges), ("unicode/utf8.first", laid_unicode_utf8_first)] }
def FnExactEvolveBothSaid : Prop := fnExactEvolveBothRow.holds Tryd.pinned (OpenSpec.ofChange fnExactEvolveBothSpec)

/-- ITS FALSE NEIGHBOUR: 'it returns false'. Refute it at one input. -/
def fnExactEvolveBothWrong : ChangeSpec := { name := "fnExactEvolveBoth", fn := fun _ => fun
  | [d1, d2, d3, d4] => { results := [.lit (.bool false)], args := [d1, d2, d3, d4] }
  | _ => none }
def FnExactEvolveBothWrongFalsely : Prop := fnExactEvolveBothRow.holds Tryd.pinned (OpenSpec.ofChange fnExactEvolveBothWrong)

/-- 'laws.FnExactSchemaForm': WHATEVER THE INPUT: true; the input reads as it did. -/
def fnExactSchemaFormSpec : ChangeSpec := { name := "fnExactSchemaForm", fn := fun _ => fun
  | [d1, d2] => { results := [.lit (.bool true)], args := [d1, d2] }
  | _ => none }
def fnExactSchemaFormRow : OpenClaim := { program := "ytldojpoheiljdaadoor", sum := "d2dab1f3dacbcf415b71577b40783f31194ea554ed2d6b331418375bf6035b4f", func := "loop.example/wireforms/laws.FnExactSchemaForm", spec := "fnExactSchemaForm", inPlace := ["internal/bytealg.IndexByteString", "internal/bytealg.IndexString", "internal/bytealg.CountString", "internal/abi.NoEscape", "internal/bytealg.MakeNoZero"], unfollowed := true, recurses := true, named := ["internal/bytealg.MaxLen", "unicode/utf8.first", "unicode/utf8.acceptRanges"], plainKeys := false, apart := false, laid := [("unicode/utf8.acceptRanges", laid_unicode_utf8_acceptRanges), ("unicode/utf8.first", laid_unicode_utf8_first)] }
def FnExactSchemaFormSaid : Prop := fnExactSchemaFormRow.holds Tryd.pinned (OpenSpec.ofChange fnExactSchemaFormSpec)

/-- ITS FALSE NEIGHBOUR: 'it returns false'. Refute it at one input. -/
def fnExactSchemaFormWrong : ChangeSpec := { name := "fnExactSchemaForm", fn := fun _ => fun
  | [d1, d2] => { results := [.lit (.bool false)], args := [d1, d2] }
  | _ => none }
def FnExactSchemaFormWrongFalsely : Prop := fnExactSchemaFormRow.holds Tryd.pinned (OpenSpec.ofChange fnExactSchemaFormWrong)

/-- 'laws.FnExactSchemaAlike': WHATEVER THE INPUT: true; the input reads as it did. -/
def fnExactSchemaAlikeSpec : ChangeSpec := { name := "fnExactSchemaAlike", fn := fun _ => fun
  | [d1, d2, d3, d4] => { results := [.lit (.bool true)], args := [d1, d2, d3, d4] }
  | _ => none }
def fnExactSchemaAlikeRow : OpenClaim := { program := "ytldojpoheiljdaadoor", sum := "d2dab1f3dacbcf415b71577b40783f31194ea554ed2d6b331418375bf6035b4f", func := "loop.example/wireforms/laws.FnExactSchemaAlike", spec := "fnExactSchemaAlike", inPlace := ["internal/bytealg.IndexByteString", "internal/bytealg.IndexString", "internal/bytealg.CountString", "internal/abi.NoEscape", "internal/bytealg.MakeNoZero"], unfollowed := true, recurses := true, named := ["internal/bytealg.MaxLen", "unicode/utf8.first", "unicode/utf8.acceptRanges"], plainKeys := false, apart := false, laid := [("unicode/utf8.acceptRanges", laid_unicode_utf8_acceptRanges), ("unicode/utf8.first", laid_unicode_utf8_first)] }
def FnExactSchemaAlikeSaid : Prop := fnExactSchemaAlikeRow.holds Tryd.pinned (OpenSpec.ofChange fnExactSchemaAlikeSpec)

/-- ITS FALSE NEIGHBOUR: 'it returns false'. Refute it at one input. -/
def fnExactSchemaAlikeWrong : ChangeSpec := { name := "fnExactSchemaAlike", fn := fun _ => fun
  | [d1, d2, d3, d4] => { results := [.lit (.bool false)], args := [d1, d2, d3, d4] }
  | _ => none }
def FnExactSchemaAlikeWrongFalsely : Prop := fnExactSchemaAlikeRow.holds Tryd.pinned (OpenSpec.ofChange fnExactSchemaAlikeWrong)

/-- 'laws.FnExactRegistryOk': WHATEVER THE INPUT: true; the input reads as it did. -/
def fnExactRegistryOkSpec : ChangeSpec := { name := "fnExactRegistryOk", fn := fun _ => fun
  | [d] => { results := [.lit (.bool true)], args := [d] }
  | _ => none }
def fnExactRegistryOkRow : OpenClaim := { program := "ytldojpoheiljdaadoor", sum := "d2dab1f3dacbcf415b71577b40783f31194ea554ed2d6b331418375bf6035b4f", func := "loop.example/wireforms/laws.FnExactRegistryOk", spec := "fnExactRegistryOk", inPlace := ["internal/bytealg.IndexByteString", "internal/bytealg.IndexString", "internal/bytealg.CountString"], recurses := true, named := ["internal/bytealg.MaxLen", "unicode/utf8.first", "unicode/utf8.acceptRanges"], plainKeys := false, apart := false, laid := [("unicode/utf8.acceptRanges", laid_unicode_utf8_acceptRanges), ("unicode/utf8.first", laid_unicode_utf8_first)] }
def FnExactRegistryOkSaid : Prop := fnExactRegistryOkRow.holds Tryd.pinned (OpenSpec.ofChange fnExactRegistryOkSpec)

/-- ITS FALSE NEIGHBOUR: 'it returns false'. Refute it at one input. -/
def fnExactRegistryOkWrong : ChangeSpec := { name := "fnExactRegistryOk", fn := fun _ => fun
  | [d] => { results := [.lit (.bool false)], args := [d] }
  | _ => none }
def FnExactRegistryOkWrongFalsely : Prop := fnExactRegistryOkRow.holds Tryd.pinned (OpenSpec.ofChange fnExactRegistryOkWrong)

/- THE SECOND FORM. 'bulk': how many values and letters a reading holds, each counted each time it is reached (what is shared counts as often as it is met; a slice's spare places count too). A statement '..UptoSaid' is the law's where the arguments, and the package variables that the reading takes, are together of bulk at most 1048576: NARROWER than '..Said'. Prove '..Said' where nothing that the law and all that it calls make is longer than what came in: it says more and counts as full. Else prove '..UptoSaid'. A law counts once. -/
mutual
def uptoBulk {H : Type} : DataW H → Nat
  | .lit (.string bytes) => bytes.length + 1
  | .lit _ => 1
  | .nil => 1
  | .ptr d => uptoBulk d + 1
  | .slice elems spare => uptoBulkAll elems + uptoBulkAll spare + 1
  | .agg parts => uptoBulkAll parts + 1
  | .iface _ d => uptoBulk d + 1
  | .map entries => uptoBulkEntries entries + 1
  | .held _ => 1
def uptoBulkAll {H : Type} : List (DataW H) → Nat
  | [] => 0
  | d :: r => uptoBulk d + uptoBulkAll r
def uptoBulkEntries {H : Type} : List (Lit × DataW H) → Nat
  | [] => 0
  | x :: r => uptoBulkEntry x + uptoBulkEntries r
def uptoBulkEntry {H : Type} : Lit × DataW H → Nat
  | (.string bytes, d) => bytes.length + uptoBulk d + 1
  | (_, d) => uptoBulk d + 1
 end
def uptoSmall : (H : Type) → List (DataW H) → Bool := fun _ ds => decide (uptoBulkAll ds ≤ 1048576)
def OpenSpec.upto (s : _root_.Go.ChangeSpec) : _root_.Go.OpenSpec := { _root_.Go.OpenSpec.ofChange s with cond := some uptoSmall }

/-- 'laws.FnExactSchemaCount', WHERE WHAT IT READS IS OF BULK AT MOST 1048576: true; the input reads as it did. -/
def fnExactSchemaCountUptoRow : OpenClaim := { program := "ytldojpoheiljdaadoor", sum := "d2dab1f3dacbcf415b71577b40783f31194ea554ed2d6b331418375bf6035b4f", func := "loop.example/wireforms/laws.FnExactSchemaCount", spec := "fnExactSchemaCount", inPlace := ["internal/bytealg.IndexByteString", "internal/bytealg.IndexString", "internal/bytealg.CountString"], unfollowed := true, recurses := true, named := ["internal/bytealg.MaxLen", "unicode/utf8.first", "unicode/utf8.acceptRanges"], plainKeys := false, apart := false, laid := [("unicode/utf8.acceptRanges", laid_unicode_utf8_acceptRanges), ("unicode/utf8.first", laid_unicode_utf8_first)], narrowed := true }
def FnExactSchemaCountUptoSaid : Prop := fnExactSchemaCountUptoRow.holds Tryd.pinned (OpenSpec.upto fnExactSchemaCountSpec)

/-- 'laws.FnExactEvolveReads', WHERE WHAT IT READS IS OF BULK AT MOST 1048576: true; the input reads as it did. -/
def fnExactEvolveReadsUptoRow : OpenClaim := { program := "ytldojpoheiljdaadoor", sum := "d2dab1f3dacbcf415b71577b40783f31194ea554ed2d6b331418375bf6035b4f", func := "loop.example/wireforms/laws.FnExactEvolveReads", spec := "fnExactEvolveReads", inPlace := ["internal/bytealg.IndexByteString", "internal/bytealg.IndexString", "internal/bytealg.CountString"], recurses := true, named := ["internal/bytealg.MaxLen", "unicode/utf8.first", "unicode/utf8.acceptRanges"], plainKeys := false, apart := false, laid := [("unicode/utf8.acceptRanges", laid_unicode_utf8_acceptRanges), ("unicode/utf8.first", laid_unicode_utf8_first)], narrowed := true }
def FnExactEvolveReadsUptoSaid : Prop := fnExactEvolveReadsUptoRow.holds Tryd.pinned (OpenSpec.upto fnExactEvolveReadsSpec)

/-- 'laws.FnExactEvolveBoth', WHERE WHAT IT READS IS OF BULK AT MOST 1048576: true; the input reads as it did. -/
def fnExactEvolveBothUptoRow : OpenClaim := { program := "ytldojpoheiljdaadoor", sum := "d2dab1f3dacbcf415b71577b40783f31194ea554ed2d6b331418375bf6035b4f", func := "loop.example/wireforms/laws.FnExactEvolveBoth", spec := "fnExactEvolveBoth", inPlace := ["internal/bytealg.IndexByteString", "internal/bytealg.IndexString", "internal/bytealg.CountString"], recurses := true, named := ["internal/bytealg.MaxLen", "unicode/utf8.first", "unicode/utf8.acceptRanges"], plainKeys := false, apart := false, laid := [("unicode/utf8.acceptRanges", laid_unicode_utf8_acceptRanges), ("unicode/utf8.first", laid_unicode_utf8_first)], narrowed := true }
def FnExactEvolveBothUptoSaid : Prop := fnExactEvolveBothUptoRow.holds Tryd.pinned (OpenSpec.upto fnExactEvolveBothSpec)

/-- 'laws.FnExactSchemaForm', WHERE WHAT IT READS IS OF BULK AT MOST 1048576: true; the input reads as it did. -/
def fnExactSchemaFormUptoRow : OpenClaim := { program := "ytldojpoheiljdaadoor", sum := "d2dab1f3dacbcf415b71577b40783f31194ea554ed2d6b331418375bf6035b4f", func := "loop.example/wireforms/laws.FnExactSchemaForm", spec := "fnExactSchemaForm", inPlace := ["internal/bytealg.IndexByteString", "internal/bytealg.IndexString", "internal/bytealg.CountString", "internal/abi.NoEscape", "internal/bytealg.MakeNoZero"], unfollowed := true, recurses := true, named := ["internal/bytealg.MaxLen", "unicode/utf8.first", "unicode/utf8.acceptRanges"], plainKeys := false, apart := false, laid := [("unicode/utf8.acceptRanges", laid_unicode_utf8_acceptRanges), ("unicode/utf8.first", laid_unicode_utf8_first)], narrowed := true }
def FnExactSchemaFormUptoSaid : Prop := fnExactSchemaFormUptoRow.holds Tryd.pinned (OpenSpec.upto fnExactSchemaFormSpec)

/-- 'laws.FnExactSchemaAlike', WHERE WHAT IT READS IS OF BULK AT MOST 1048576: true; the input reads as it did. -/
def fnExactSchemaAlikeUptoRow : OpenClaim := { program := "ytldojpoheiljdaadoor", sum := "d2dab1f3dacbcf415b71577b40783f31194ea554ed2d6b331418375bf6035b4f", func := "loop.example/wireforms/laws.FnExactSchemaAlike", spec := "fnExactSchemaAlike", inPlace := ["internal/bytealg.IndexByteString", "internal/bytealg.IndexString", "internal/bytealg.CountString", "internal/abi.NoEscape", "internal/bytealg.MakeNoZero"], unfollowed := true, recurses := true, named := ["internal/bytealg.MaxLen", "unicode/utf8.first", "unicode/utf8.acceptRanges"], plainKeys := false, apart := false, laid := [("unicode/utf8.acceptRanges", laid_unicode_utf8_acceptRanges), ("unicode/utf8.first", laid_unicode_utf8_first)], narrowed := true }
def FnExactSchemaAlikeUptoSaid : Prop := fnExactSchemaAlikeUptoRow.holds Tryd.pinned (OpenSpec.upto fnExactSchemaAlikeSpec)

/-- 'laws.FnExactRegistryOk', WHERE WHAT IT READS IS OF BULK AT MOST 1048576: true; the input reads as it did. -/
def fnExactRegistryOkUptoRow : OpenClaim := { program := "ytldojpoheiljdaadoor", sum := "d2dab1f3dacbcf415b71577b40783f31194ea554ed2d6b331418375bf6035b4f", func := "loop.example/wireforms/laws.FnExactRegistryOk", spec := "fnExactRegistryOk", inPlace := ["internal/bytealg.IndexByteString", "internal/bytealg.IndexString", "internal/bytealg.CountString"], recurses := true, named := ["internal/bytealg.MaxLen", "unicode/utf8.first", "unicode/utf8.acceptRanges"], plainKeys := false, apart := false, laid := [("unicode/utf8.acceptRanges", laid_unicode_utf8_acceptRanges), ("unicode/utf8.first", laid_unicode_utf8_first)], narrowed := true }
def FnExactRegistryOkUptoSaid : Prop := fnExactRegistryOkUptoRow.holds Tryd.pinned (OpenSpec.upto fnExactRegistryOkSpec)

end Rows
end Go.Proofs.YtldojpoheiljdaaDoor
