/-
  NARROWER THAN 'FOR EVERY INPUT', by the rows' own cells (each row's printed sentence says how): FnSchemaCount: laid · FnEvolveBoth: laid · FnExactRegistryAdd: laid · FnRegistryOk: laid · FnSchemaForm: laid · FnRegistryAdd: laid · FnSchemaAlike: laid · FnExactSchemaCut: laid · FnEvolveReads: laid · FnSchemaOrder: laid · FnSchemaCut: laid.
  DERIVED. THE GIVEN ROWS OF THIS SEAT. 11 by the template 'for every input the law returns true; each argument reads behind the call as it read before'; 0 by the template 'total and deterministic' (their statements: YtdhinlhafoiaiaaGreatDoorTotals.lean).
  GIVEN WITH THE SEED: the statements are not yours to turn. If you find one false, say at which input.
  Laid BY PROGRAM, IN A SANDBOX (cutbox-rows.mjs): the forced cells as the released guide's own fill.sh prints them over the translation 3862b798d53ac7c1… (all of the seat's roots in one cut). By AI agents, Wed Nov 11 2026. No macro, syntax, notation, axiom, sorry.
-/
import Derived.Test.YtdhinlhafoiaiaaGreatDoorChecked
import GoSem.PinnedTables
import GoSem.Claim
import GoSem.ClaimJoined
import GoSem.ClaimMapViews
import Derived.JoinedTies
import Derived.KernelRfl
namespace Go.Proofs.YtdhinlhafoiaiaaGreatDoor
/- THE CELL 'sum', in the pinned program and in every row, IS THE sha256 OF THE DUMP (.gsa) THAT YtdhinlhafoiaiaaGreatDoorProg.lean LOADS. Nothing in Lean hashes anything: it is a label: what it is worth is what the hold of that sum in a sandbox is worth. -/
noncomputable def Tryz.pinned : Pinned := { name := "ytdhinlhafoiaiaagreatdoor", sum := "3862b798d53ac7c17f1c9740c0e6b8010767b0c3d6ca07c41f68bcea6e7b2f0e", checked := Tryz.checked }
namespace Rows
def none {H : Type} : Left H := { results := [], args := [] }

/- WHAT THE LISTED PACKAGE-LEVEL VARIABLES READ AS WHEN THE CALL BEGINS. Each datum BY PROGRAM (the guide's laid-datum.mjs) off the statement by which the dump's own 'gosem.cut.vars' lays the variable. In a bare row this is a premise. The card (YtdhinlhafoiaiaaGreatDoorCards.lean) ties it to the program's text. -/
def laid_unicode_utf8_acceptRanges {H : Type} : DataW H := .agg [.agg [.lit (.int .u8 128), .lit (.int .u8 191)], .agg [.lit (.int .u8 160), .lit (.int .u8 191)], .agg [.lit (.int .u8 128), .lit (.int .u8 159)], .agg [.lit (.int .u8 144), .lit (.int .u8 191)], .agg [.lit (.int .u8 128), .lit (.int .u8 143)], .agg [.lit (.int .u8 0), .lit (.int .u8 0)], .agg [.lit (.int .u8 0), .lit (.int .u8 0)], .agg [.lit (.int .u8 0), .lit (.int .u8 0)], .agg [.lit (.int .u8 0), .lit (.int .u8 0)], .agg [.lit (.int .u8 0), .lit (.int .u8 0)], .agg [.lit (.int .u8 0), .lit (.int .u8 0)], .agg [.lit (.int .u8 0), .lit (.int .u8 0)], .agg [.lit (.int .u8 0), .lit (.int .u8 0)], .agg [.lit (.int .u8 0), .lit (.int .u8 0)], .agg [.lit (.int .u8 0), .lit (.int .u8 0)], .agg [.lit (.int .u8 0), .lit (.int .u8 0)]]
/-- One of Go's own tables, pinned by name: the form's constant. -/
def laid_unicode_utf8_first : DataW Unit := Go.Pinned.utf8First

/-- 'laws.FnSchemaCount': WHATEVER THE INPUT: true; the input reads as it did. -/
def fnSchemaCountSpec : ChangeSpec := { name := "fnSchemaCount", fn := fun _ => fun
  | [d] => { results := [.lit (.bool true)], args := [d] }
  | _ => none }
def fnSchemaCountRow : OpenClaim := { program := "ytdhinlhafoiaiaagreatdoor", sum := "3862b798d53ac7c17f1c9740c0e6b8010767b0c3d6ca07c41f68bcea6e7b2f0e", func := "loop.example/wireforms/laws.FnSchemaCount", spec := "fnSchemaCount", inPlace := ["internal/bytealg.IndexByteString", "internal/bytealg.IndexString", "internal/bytealg.CountString", "internal/abi.NoEscape", "internal/bytealg.MakeNoZero"], unfollowed := true, recurses := true, named := ["internal/bytealg.MaxLen", "unicode/utf8.first", "unicode/utf8.acceptRanges"], plainKeys := false, apart := false, laid := [("unicode/utf8.acceptRanges", laid_unicode_utf8_acceptRanges), ("unicode/utf8.first", laid_unicode_utf8_first)] }
def FnSchemaCountSaid : Prop := fnSchemaCountRow.holds Tryz.pinned (OpenSpec.ofChange fnSchemaCountSpec)

/-- ITS FALSE NEIGHBOUR: 'it returns false'. Refute it at one input. -/
def fnSchemaCountWrong : ChangeSpec := { name := "fnSchemaCount", fn := fun _ => fun
  | [d] => { results := [.lit (.bool false)], args := [d] }
  | _ => none }
def FnSchemaCountWrongFalsely : Prop := fnSchemaCountRow.holds Tryz.pinned (OpenSpec.ofChange fnSchemaCountWrong)

/-- 'laws.FnEvolveBoth': WHATEVER THE INPUT: true; the input reads as it did. -/
def fnEvolveBothSpec : ChangeSpec := { name := "fnEvolveBoth", fn := fun _ => fun
  | [d] => { results := [.lit (.bool true)], args := [d] }
  | _ => none }
def fnEvolveBothRow : OpenClaim := { program := "ytdhinlhafoiaiaagreatdoor", sum := "3862b798d53ac7c17f1c9740c0e6b8010767b0c3d6ca07c41f68bcea6e7b2f0e", func := "loop.example/wireforms/laws.FnEvolveBoth", spec := "fnEvolveBoth", inPlace := ["internal/bytealg.IndexByteString", "internal/bytealg.IndexString", "internal/bytealg.CountString"], recurses := true, named := ["internal/bytealg.MaxLen", "unicode/utf8.first", "unicode/utf8.acceptRanges"], plainKeys := false, apart := false, laid := [("unicode/utf8.acceptRanges", laid_unicode_utf8_acceptRanges), ("unicode/utf8.first", laid_unicode_utf8_first)] }
def FnEvolveBothSaid : Prop := fnEvolveBothRow.holds Tryz.pinned (OpenSpec.ofChange fnEvolveBothSpec)

/-- ITS FALSE NEIGHBOUR: 'it returns false'. Refute it at one input. -/
def fnEvolveBothWrong : ChangeSpec := { name := "fnEvolveBoth", fn := fun _ => fun
  | [d] => { results := [.lit (.bool false)], args := [d] }
  | _ => none }
def FnEvolveBothWrongFalsely : Prop := fnEvolveBothRow.holds Tryz.pinned (OpenSpec.ofChange fnEvolveBothWrong)

/-- 'laws.FnExactRegistryAdd': WHATEVER THE INPUT: true; the input reads as it did. -/
def fnExactRegistryAddSpec : ChangeSpec := { name := "fnExactRegistryAdd", fn := fun _ => fun
  | [d1, d2] => { results := [.lit (.bool true)], args := [d1, d2] }
  | _ => none }
def fnExactRegistryAddRow : OpenClaim := { program := "ytdhinlhafoiaiaagreatdoor", sum := "3862b798d53ac7c17f1c9740c0e6b8010767b0c3d6ca07c41f68bcea6e7b2f0e", func := "loop.example/wireforms/laws.FnExactRegistryAdd", spec := "fnExactRegistryAdd", inPlace := ["internal/bytealg.IndexByteString", "internal/bytealg.IndexString", "internal/bytealg.CountString"], recurses := true, named := ["internal/bytealg.MaxLen", "unicode/utf8.first", "unicode/utf8.acceptRanges"], plainKeys := false, apart := false, laid := [("unicode/utf8.acceptRanges", laid_unicode_utf8_acceptRanges), ("unicode/utf8.first", laid_unicode_utf8_first)] }
def FnExactRegistryAddSaid : Prop := fnExactRegistryAddRow.holds Tryz.pinned (OpenSpec.ofChange fnExactRegistryAddSpec)

/-- ITS FALSE NEIGHBOUR: 'it returns false'. Refute it at one input. -/
def fnExactRegistryAddWrong : ChangeSpec := { name := "fnExactRegistryAdd", fn := fun _ => fun
  | [d1, d2] => { results := [.lit (.bool false)], args := [d1, d2] }
  | _ => none }
def FnExactRegistryAddWrongFalsely : Prop := fnExactRegistryAddRow.holds Tryz.pinned (OpenSpec.ofChange fnExactRegistryAddWrong)

/-- 'laws.FnRegistryOk': WHATEVER THE INPUT: true; the input reads as it did. -/
def fnRegistryOkSpec : ChangeSpec := { name := "fnRegistryOk", fn := fun _ => fun
  | [d] => { results := [.lit (.bool true)], args := [d] }
  | _ => none }
def fnRegistryOkRow : OpenClaim := { program := "ytdhinlhafoiaiaagreatdoor", sum := "3862b798d53ac7c17f1c9740c0e6b8010767b0c3d6ca07c41f68bcea6e7b2f0e", func := "loop.example/wireforms/laws.FnRegistryOk", spec := "fnRegistryOk", inPlace := ["internal/bytealg.IndexByteString", "internal/bytealg.IndexString", "internal/bytealg.CountString"], recurses := true, named := ["internal/bytealg.MaxLen", "unicode/utf8.first", "unicode/utf8.acceptRanges"], plainKeys := false, apart := false, laid := [("unicode/utf8.acceptRanges", laid_unicode_utf8_acceptRanges), ("unicode/utf8.first", laid_unicode_utf8_first)] }
def FnRegistryOkSaid : Prop := fnRegistryOkRow.holds Tryz.pinned (OpenSpec.ofChange fnRegistryOkSpec)

/-- ITS FALSE NEIGHBOUR: 'it returns false'. Refute it at one input. -/
def fnRegistryOkWrong : ChangeSpec := { name := "fnRegistryOk", fn := fun _ => fun
  | [d] => { results := [.lit (.bool false)], args := [d] }
  | _ => none }
def FnRegistryOkWrongFalsely : Prop := fnRegistryOkRow.holds Tryz.pinned (OpenSpec.ofChange fnRegistryOkWrong)

/-- 'laws.FnSchemaForm': WHATEVER THE INPUT: true; the input reads as it did. -/
def fnSchemaFormSpec : ChangeSpec := { name := "fnSchemaForm", fn := fun _ => fun
  | [d] => { results := [.lit (.bool true)], args := [d] }
  | _ => none }
def fnSchemaFormRow : OpenClaim := { program := "ytdhinlhafoiaiaagreatdoor", sum := "3862b798d53ac7c17f1c9740c0e6b8010767b0c3d6ca07c41f68bcea6e7b2f0e", func := "loop.example/wireforms/laws.FnSchemaForm", spec := "fnSchemaForm", inPlace := ["internal/bytealg.IndexByteString", "internal/bytealg.IndexString", "internal/bytealg.CountString", "internal/abi.NoEscape", "internal/bytealg.MakeNoZero"], unfollowed := true, recurses := true, named := ["internal/bytealg.MaxLen", "unicode/utf8.first", "unicode/utf8.acceptRanges"], plainKeys := false, apart := false, laid := [("unicode/utf8.acceptRanges", laid_unicode_utf8_acceptRanges), ("unicode/utf8.first", laid_unicode_utf8_first)] }
def FnSchemaFormSaid : Prop := fnSchemaFormRow.holds Tryz.pinned (OpenSpec.ofChange fnSchemaFormSpec)

/-- ITS FALSE NEIGHBOUR: 'it returns false'. Refute it at one input. -/
def fnSchemaFormWrong : ChangeSpec := { name := "fnSchemaForm", fn := fun _ => fun
  | [d] => { results := [.lit (.bool false)], args := [d] }
  | _ => none }
def FnSchemaFormWrongFalsely : Prop := fnSchemaFormRow.holds Tryz.pinned (OpenSpec.ofChange fnSchemaFormWrong)

/-- 'laws.FnRegistryAdd': WHATEVER THE INPUT: true; the input reads as it did. -/
def fnRegistryAddSpec : ChangeSpec := { name := "fnRegistryAdd", fn := fun _ => fun
  | [d] => { results := [.lit (.bool true)], args := [d] }
  | _ => none }
def fnRegistryAddRow : OpenClaim := { program := "ytdhinlhafoiaiaagreatdoor", sum := "3862b798d53ac7c17f1c9740c0e6b8010767b0c3d6ca07c41f68bcea6e7b2f0e", func := "loop.example/wireforms/laws.FnRegistryAdd", spec := "fnRegistryAdd", inPlace := ["internal/bytealg.IndexByteString", "internal/bytealg.IndexString", "internal/bytealg.CountString"], recurses := true, named := ["internal/bytealg.MaxLen", "unicode/utf8.first", "unicode/utf8.acceptRanges"], plainKeys := false, apart := false, laid := [("unicode/utf8.acceptRanges", laid_unicode_utf8_acceptRanges), ("unicode/utf8.first", laid_unicode_utf8_first)] }
def FnRegistryAddSaid : Prop := fnRegistryAddRow.holds Tryz.pinned (OpenSpec.ofChange fnRegistryAddSpec)

/-- ITS FALSE NEIGHBOUR: 'it returns false'. Refute it at one input. -/
def fnRegistryAddWrong : ChangeSpec := { name := "fnRegistryAdd", fn := fun _ => fun
  | [d] => { results := [.lit (.bool false)], args := [d] }
  | _ => none }
def FnRegistryAddWrongFalsely : Prop := fnRegistryAddRow.holds Tryz.pinned (OpenSpec.ofChange fnRegistryAddWrong)

/-- 'laws.FnSchemaAlike': WHATEVER THE INPUT: true; the input reads as it did. -/
def fnSchemaAlikeSpec : ChangeSpec := { name := "fnSchemaAlike", fn := fun _ => fun
  | [d] => { results := [.lit (.bool true)], args := [d] }
  | _ => none }
def fnSchemaAlikeRow : OpenClaim := { program := "ytdhinlhafoiaiaagreatdoor", sum := "3862b798d53ac7c17f1c9740c0e6b8010767b0c3d6ca07c41f68bcea6e7b2f0e", func := "loop.example/wireforms/laws.FnSchemaAlike", spec := "fnSchemaAlike", inPlace := ["internal/bytealg.IndexByteString", "internal/bytealg.IndexString", "internal/bytealg.CountString", "internal/abi.NoEscape", "internal/bytealg.MakeNoZero"], unfollowed := true, recurses := true, named := ["internal/bytealg.MaxLen", "unicode/utf8.first", "unicode/utf8.acceptRanges"], plainKeys := false, apart := false, laid := [("unicode/utf8.acceptRanges", laid_unicode_utf8_acceptRanges), ("unicode/utf8.first", laid_unicode_utf8_first)] }
def FnSchemaAlikeSaid : Prop := fnSchemaAlikeRow.holds Tryz.pinned (OpenSpec.ofChange fnSchemaAlikeSpec)

/-- ITS FALSE NEIGHBOUR: 'it returns false'. Refute it at one input. -/
def fnSchemaAlikeWrong : ChangeSpec := { name := "fnSchemaAlike", fn := fun _ => fun
  | [d] => { results := [.lit (.bool false)], args := [d] }
  | _ => none }
def FnSchemaAlikeWrongFalsely : Prop := fnSchemaAlikeRow.holds Tryz.pinned (OpenSpec.ofChange fnSchemaAlikeWrong)

/-- 'laws.FnExactSchemaCut': WHATEVER THE INPUT: true; the input reads as it did. -/
def fnExactSchemaCutSpec : ChangeSpec := { name := "fnExactSchemaCut", fn := fun _ => fun
  | [d1, d2] => { results := [.lit (.bool true)], args := [d1, d2] }
  | _ => none }
def fnExactSchemaCutRow : OpenClaim := { program := "ytdhinlhafoiaiaagreatdoor", sum := "3862b798d53ac7c17f1c9740c0e6b8010767b0c3d6ca07c41f68bcea6e7b2f0e", func := "loop.example/wireforms/laws.FnExactSchemaCut", spec := "fnExactSchemaCut", inPlace := ["internal/bytealg.IndexByteString", "internal/bytealg.IndexString", "internal/bytealg.CountString", "internal/abi.NoEscape"], unfollowed := true, recurses := true, named := ["internal/bytealg.MaxLen", "unicode/utf8.first", "unicode/utf8.acceptRanges"], plainKeys := false, apart := false, laid := [("unicode/utf8.acceptRanges", laid_unicode_utf8_acceptRanges), ("unicode/utf8.first", laid_unicode_utf8_first)] }
def FnExactSchemaCutSaid : Prop := fnExactSchemaCutRow.holds Tryz.pinned (OpenSpec.ofChange fnExactSchemaCutSpec)

/-- ITS FALSE NEIGHBOUR: 'it returns false'. Refute it at one input. -/
def fnExactSchemaCutWrong : ChangeSpec := { name := "fnExactSchemaCut", fn := fun _ => fun
  | [d1, d2] => { results := [.lit (.bool false)], args := [d1, d2] }
  | _ => none }
def FnExactSchemaCutWrongFalsely : Prop := fnExactSchemaCutRow.holds Tryz.pinned (OpenSpec.ofChange fnExactSchemaCutWrong)

/-- 'laws.FnEvolveReads': WHATEVER THE INPUT: true; the input reads as it did. -/
def fnEvolveReadsSpec : ChangeSpec := { name := "fnEvolveReads", fn := fun _ => fun
  | [d] => { results := [.lit (.bool true)], args := [d] }
  | _ => none }
def fnEvolveReadsRow : OpenClaim := { program := "ytdhinlhafoiaiaagreatdoor", sum := "3862b798d53ac7c17f1c9740c0e6b8010767b0c3d6ca07c41f68bcea6e7b2f0e", func := "loop.example/wireforms/laws.FnEvolveReads", spec := "fnEvolveReads", inPlace := ["internal/bytealg.IndexByteString", "internal/bytealg.IndexString", "internal/bytealg.CountString"], unfollowed := true, recurses := true, named := ["internal/bytealg.MaxLen", "unicode/utf8.first", "unicode/utf8.acceptRanges"], plainKeys := false, apart := false, laid := [("unicode/utf8.acceptRanges", laid_unicode_utf8_acceptRanges), ("unicode/utf8.first", laid_unicode_utf8_first)] }
def FnEvolveReadsSaid : Prop := fnEvolveReadsRow.holds Tryz.pinned (OpenSpec.ofChange fnEvolveReadsSpec)

/-- ITS FALSE NEIGHBOUR: 'it returns false'. Refute it at one input. -/
def fnEvolveReadsWrong : ChangeSpec := { name := "fnEvolveReads", fn := fun _ => fun
  | [d] => { results := [.lit (.bool false)], args := [d] }
  | _ => none }
def FnEvolveReadsWrongFalsely : Prop := fnEvolveReadsRow.holds Tryz.pinned (OpenSpec.ofChange fnEvolveReadsWrong)

/-- 'laws.FnSchemaOrder': WHATEVER THE INPUT: true; the input reads as it did. -/
def fnSchemaOrderSpec : ChangeSpec := { name := "fnSchemaOrder", fn := fun _ => fun
  | [d] => { results := [.lit (.bool true)], args := [d] }
  | _ => none }
def fnSchemaOrderRow : OpenClaim := { program := "ytdhinlhafoiaiaagreatdoor", sum := "3862b798d53ac7c17f1c9740c0e6b8010767b0c3d6ca07c41f68bcea6e7b2f0e", func := "loop.example/wireforms/laws.FnSchemaOrder", spec := "fnSchemaOrder", inPlace := ["internal/bytealg.IndexByteString", "internal/bytealg.IndexString", "internal/bytealg.CountString", "internal/abi.NoEscape", "internal/bytealg.MakeNoZero"], unfollowed := true, recurses := true, named := ["internal/bytealg.MaxLen", "unicode/utf8.first", "unicode/utf8.acceptRanges"], plainKeys := false, apart := false, laid := [("unicode/utf8.acceptRanges", laid_unicode_utf8_acceptRanges), ("unicode/utf8.first", laid_unicode_utf8_first)] }
def FnSchemaOrderSaid : Prop := fnSchemaOrderRow.holds Tryz.pinned (OpenSpec.ofChange fnSchemaOrderSpec)

/-- ITS FALSE NEIGHBOUR: 'it returns false'. Refute it at one input. -/
def fnSchemaOrderWrong : ChangeSpec := { name := "fnSchemaOrder", fn := fun _ => fun
  | [d] => { results := [.lit (.bool false)], args := [d] }
  | _ => none }
def FnSchemaOrderWrongFalsely : Prop := fnSchemaOrderRow.holds Tryz.pinned (OpenSpec.ofChange fnSchemaOrderWrong)

/-- 'laws.FnSchemaCut': WHATEVER THE INPUT: true; the input reads as it did. -/
def fnSchemaCutSpec : ChangeSpec := { name := "fnSchemaCut", fn := fun _ => fun
  | [d] => { results := [.lit (.bool true)], args := [d] }
  | _ => none }
def fnSchemaCutRow : OpenClaim := { program := "ytdhinlhafoiaiaagreatdoor", sum := "3862b798d53ac7c17f1c9740c0e6b8010767b0c3d6ca07c41f68bcea6e7b2f0e", func := "loop.example/wireforms/laws.FnSchemaCut", spec := "fnSchemaCut", inPlace := ["internal/bytealg.IndexByteString", "internal/bytealg.IndexString", "internal/bytealg.CountString", "internal/abi.NoEscape"], unfollowed := true, recurses := true, named := ["internal/bytealg.MaxLen", "unicode/utf8.first", "unicode/utf8.acceptRanges"], plainKeys := false, apart := false, laid := [("unicode/utf8.acceptRanges", laid_unicode_utf8_acceptRanges), ("unicode/utf8.first", laid_unicode_utf8_first)] }
def FnSchemaCutSaid : Prop := fnSchemaCutRow.holds Tryz.pinned (OpenSpec.ofChange fnSchemaCutSpec)

/-- ITS FALSE NEIGHBOUR: 'it returns false'. Refute it at one input. -/
def fnSchemaCutWrong : ChangeSpec := { name := "fnSchemaCut", fn := fun _ => fun
  | [d] => { results := [.lit (.bool false)], args := [d] }
  | _ => none }
def FnSchemaCutWrongFalsely : Prop := fnSchemaCutRow.holds Tryz.pinned (OpenSpec.ofChange fnSchemaCutWrong)

/- THE SECOND FORM. 'bulk': how many values and letters a reading holds, each counted each time it is reached (what is shared counts as often as it is met; a slice's spare places count too). A statement '..UptoSaid' is the law's where the arguments, and the package variables that the reading takes, are together of bulk at most 1048576: NARROWER than '..Said'. Prove '..Said' where nothing that the law and all that it calls make is longer than what came in: it says more and counts as full. Else prove '..UptoSaid'. A law counts once. -/
mutual
def uptoBulk {H : Type} : DataW H → Nat
  | .lit (.string bytes) => bytes.length + 1
  | .lit _ => 1
  | .nil => 1
  | .ptr d => uptoBulk d + 1
  | .slice elems spare => uptoBulkAll elems + uptoBulkAll spare + 1
  | .agg parts => uptoBulkAll parts + 1
  | .iface _ d => uptoBulk d + 1
  | .map entries => uptoBulkEntries entries + 1
  | .held _ => 1
def uptoBulkAll {H : Type} : List (DataW H) → Nat
  | [] => 0
  | d :: r => uptoBulk d + uptoBulkAll r
def uptoBulkEntries {H : Type} : List (Lit × DataW H) → Nat
  | [] => 0
  | x :: r => uptoBulkEntry x + uptoBulkEntries r
def uptoBulkEntry {H : Type} : Lit × DataW H → Nat
  | (.string bytes, d) => bytes.length + uptoBulk d + 1
  | (_, d) => uptoBulk d + 1
 end
def uptoSmall : (H : Type) → List (DataW H) → Bool := fun _ ds => decide (uptoBulkAll ds ≤ 1048576)
def OpenSpec.upto (s : _root_.Go.ChangeSpec) : _root_.Go.OpenSpec := { _root_.Go.OpenSpec.ofChange s with cond := some uptoSmall }

/-- 'laws.FnSchemaCount', WHERE WHAT IT READS IS OF BULK AT MOST 1048576: true; the input reads as it did. -/
def fnSchemaCountUptoRow : OpenClaim := { program := "ytdhinlhafoiaiaagreatdoor", sum := "3862b798d53ac7c17f1c9740c0e6b8010767b0c3d6ca07c41f68bcea6e7b2f0e", func := "loop.example/wireforms/laws.FnSchemaCount", spec := "fnSchemaCount", inPlace := ["internal/bytealg.IndexByteString", "internal/bytealg.IndexString", "internal/bytealg.CountString", "internal/abi.NoEscape", "internal/bytealg.MakeNoZero"], unfollowed := true, recurses := true, named := ["internal/bytealg.MaxLen", "unicode/utf8.first", "unicode/utf8.acceptRanges"], plainKeys := false, apart := false, laid := [("unicode/utf8.acceptRanges", laid_unicode_utf8_acceptRanges), ("unicode/utf8.first", laid_unicode_utf8_first)], narrowed := true }
def FnSchemaCountUptoSaid : Prop := fnSchemaCountUptoRow.holds Tryz.pinned (OpenSpec.upto fnSchemaCountSpec)

/-- 'laws.FnEvolveBoth', WHERE WHAT IT READS IS OF BULK AT MOST 1048576: true; the input reads as it did. -/
def fnEvolveBothUptoRow : OpenClaim := { program := "ytdhinlhafoiaiaagreatdoor", sum := "3862b798d53ac7c17f1c9740c0e6b8010767b0c3d6ca07c41f68bcea6e7b2f0e", func := "loop.example/wireforms/laws.FnEvolveBoth", spec := "fnEvolveBoth", inPlace := ["internal/bytealg.IndexByteString", "internal/bytealg.IndexString", "internal/bytealg.CountString"], recurses := true, named := ["internal/bytealg.MaxLen", "unicode/utf8.first", "unicode/utf8.acceptRanges"], plainKeys := false, apart := false, laid := [("unicode/utf8.acceptRanges", laid_unicode_utf8_acceptRanges), ("unicode/utf8.first", laid_unicode_utf8_first)], narrowed := true }
def FnEvolveBothUptoSaid : Prop := fnEvolveBothUptoRow.holds Tryz.pinned (OpenSpec.upto fnEvolveBothSpec)

/-- 'laws.FnExactRegistryAdd', WHERE WHAT IT READS IS OF BULK AT MOST 1048576: true; the input reads as it did. -/
def fnExactRegistryAddUptoRow : OpenClaim := { program := "ytdhinlhafoiaiaagreatdoor", sum := "3862b798d53ac7c17f1c9740c0e6b8010767b0c3d6ca07c41f68bcea6e7b2f0e", func := "loop.example/wireforms/laws.FnExactRegistryAdd", spec := "fnExactRegistryAdd", inPlace := ["internal/bytealg.IndexByteString", "internal/bytealg.IndexString", "internal/bytealg.CountString"], recurses := true, named := ["internal/bytealg.MaxLen", "unicode/utf8.first", "unicode/utf8.acceptRanges"], plainKeys := false, apart := false, laid := [("unicode/utf8.acceptRanges", laid_unicode_utf8_acceptRanges), ("unicode/utf8.first", laid_unicode_utf8_first)], narrowed := true }
def FnExactRegistryAddUptoSaid : Prop := fnExactRegistryAddUptoRow.holds Tryz.pinned (OpenSpec.upto fnExactRegistryAddSpec)

/-- 'laws.FnRegistryOk', WHERE WHAT IT READS IS OF BULK AT MOST 1048576: true; the input reads as it did. -/
def fnRegistryOkUptoRow : OpenClaim := { program := "ytdhinlhafoiaiaagreatdoor", sum := "3862b798d53ac7c17f1c9740c0e6b8010767b0c3d6ca07c41f68bcea6e7b2f0e", func := "loop.example/wireforms/laws.FnRegistryOk", spec := "fnRegistryOk", inPlace := ["internal/bytealg.IndexByteString", "internal/bytealg.IndexString", "internal/bytealg.CountString"], recurses := true, named := ["internal/bytealg.MaxLen", "unicode/utf8.first", "unicode/utf8.acceptRanges"], plainKeys := false, apart := false, laid := [("unicode/utf8.acceptRanges", laid_unicode_utf8_acceptRanges), ("unicode/utf8.first", laid_unicode_utf8_first)], narrowed := true }
def FnRegistryOkUptoSaid : Prop := fnRegistryOkUptoRow.holds Tryz.pinned (OpenSpec.upto fnRegistryOkSpec)

/-- 'laws.FnSchemaForm', WHERE WHAT IT READS IS OF BULK AT MOST 1048576: true; the input reads as it did. -/
def fnSchemaFormUptoRow : OpenClaim := { program := "ytdhinlhafoiaiaagreatdoor", sum := "3862b798d53ac7c17f1c9740c0e6b8010767b0c3d6ca07c41f68bcea6e7b2f0e", func := "loop.example/wireforms/laws.FnSchemaForm", spec := "fnSchemaForm", inPlace := ["internal/bytealg.IndexByteString", "internal/bytealg.IndexString", "internal/bytealg.CountString", "internal/abi.NoEscape", "internal/bytealg.MakeNoZero"], unfollowed := true, recurses := true, named := ["internal/bytealg.MaxLen", "unicode/utf8.first", "unicode/utf8.acceptRanges"], plainKeys := false, apart := false, laid := [("unicode/utf8.acceptRanges", laid_unicode_utf8_acceptRanges), ("unicode/utf8.first", laid_unicode_utf8_first)], narrowed := true }
def FnSchemaFormUptoSaid : Prop := fnSchemaFormUptoRow.holds Tryz.pinned (OpenSpec.upto fnSchemaFormSpec)

/-- 'laws.FnRegistryAdd', WHERE WHAT IT READS IS OF BULK AT MOST 1048576: true; the input reads as it did. -/
def fnRegistryAddUptoRow : OpenClaim := { program := "ytdhinlhafoiaiaagreatdoor", sum := "3862b798d53ac7c17f1c9740c0e6b8010767b0c3d6ca07c41f68bcea6e7b2f0e", func := "loop.example/wireforms/laws.FnRegistryAdd", spec := "fnRegistryAdd", inPlace := ["internal/bytealg.IndexByteString", "internal/bytealg.IndexString", "internal/bytealg.CountString"], recurses := true, named := ["internal/bytealg.MaxLen", "unicode/utf8.first", "unicode/utf8.acceptRanges"], plainKeys := false, apart := false, laid := [("unicode/utf8.acceptRanges", laid_unicode_utf8_acceptRanges), ("unicode/utf8.first", laid_unicode_utf8_first)], narrowed := true }
def FnRegistryAddUptoSaid : Prop := fnRegistryAddUptoRow.holds Tryz.pinned (OpenSpec.upto fnRegistryAddSpec)

/-- 'laws.FnSchemaAlike', WHERE WHAT IT READS IS OF BULK AT MOST 1048576: true; the input reads as it did. -/
def fnSchemaAlikeUptoRow : OpenClaim := { program := "ytdhinlhafoiaiaagreatdoor", sum := "3862b798d53ac7c17f1c9740c0e6b8010767b0c3d6ca07c41f68bcea6e7b2f0e", func := "loop.example/wireforms/laws.FnSchemaAlike", spec := "fnSchemaAlike", inPlace := ["internal/bytealg.IndexByteString", "internal/bytealg.IndexString", "internal/bytealg.CountString", "internal/abi.NoEscape", "internal/bytealg.MakeNoZero"], unfollowed := true, recurses := true, named := ["internal/bytealg.MaxLen", "unicode/utf8.first", "unicode/utf8.acceptRanges"], plainKeys := false, apart := false, laid := [("unicode/utf8.acceptRanges", laid_unicode_utf8_acceptRanges), ("unicode/utf8.first", laid_unicode_utf8_first)], narrowed := true }
def FnSchemaAlikeUptoSaid : Prop := fnSchemaAlikeUptoRow.holds Tryz.pinned (OpenSpec.upto fnSchemaAlikeSpec)

/-- 'laws.FnExactSchemaCut', WHERE WHAT IT READS IS OF BULK AT MOST 1048576: true; the input reads as it did. -/
def fnExactSchemaCutUptoRow : OpenClaim := { program := "ytdhinlhafoiaiaagreatdoor", sum := "3862b798d53ac7c17f1c9740c0e6b8010767b0c3d6ca07c41f68bcea6e7b2f0e", func := "loop.example/wireforms/laws.FnExactSchemaCut", spec := "fnExactSchemaCut", inPlace := ["internal/bytealg.IndexByteString", "internal/bytealg.IndexString", "internal/bytealg.CountString", "internal/abi.NoEscape"], unfollowed := true, recurses := true, named := ["internal/bytealg.MaxLen", "unicode/utf8.first", "unicode/utf8.acceptRanges"], plainKeys := false, apart := false, laid := [("unicode/utf8.acceptRanges", laid_unicode_utf8_acceptRanges), ("unicode/utf8.first", laid_unicode_utf8_first)], narrowed := true }
def FnExactSchemaCutUptoSaid : Prop := fnExactSchemaCutUptoRow.holds Tryz.pinned (OpenSpec.upto fnExactSchemaCutSpec)

/-- 'laws.FnEvolveReads', WHERE WHAT IT READS IS OF BULK AT MOST 1048576: true; the input reads as it did. -/
def fnEvolveReadsUptoRow : OpenClaim := { program := "ytdhinlhafoiaiaagreatdoor", sum := "3862b798d53ac7c17f1c9740c0e6b8010767b0c3d6ca07c41f68bcea6e7b2f0e", func := "loop.example/wireforms/laws.FnEvolveReads", spec := "fnEvolveReads", inPlace := ["internal/bytealg.IndexByteString", "internal/bytealg.IndexString", "internal/bytealg.CountString"], unfollowed := true, recurses := true, named := ["internal/bytealg.MaxLen", "unicode/utf8.first", "unicode/utf8.acceptRanges"], plainKeys := false, apart := false, laid := [("unicode/utf8.acceptRanges", laid_unicode_utf8_acceptRanges), ("unicode/utf8.first", laid_unicode_utf8_first)], narrowed := true }
def FnEvolveReadsUptoSaid : Prop := fnEvolveReadsUptoRow.holds Tryz.pinned (OpenSpec.upto fnEvolveReadsSpec)

/-- 'laws.FnSchemaOrder', WHERE WHAT IT READS IS OF BULK AT MOST 1048576: true; the input reads as it did. -/
def fnSchemaOrderUptoRow : OpenClaim := { program := "ytdhinlhafoiaiaagreatdoor", sum := "3862b798d53ac7c17f1c9740c0e6b8010767b0c3d6ca07c41f68bcea6e7b2f0e", func := "loop.example/wireforms/laws.FnSchemaOrder", spec := "fnSchemaOrder", inPlace := ["internal/bytealg.IndexByteString", "internal/bytealg.IndexString", "internal/bytealg.CountString", "internal/abi.NoEscape", "internal/bytealg.MakeNoZero"], unfollowed := true, recurses := true, named := ["internal/bytealg.MaxLen", "unicode/utf8.first", "unicode/utf8.acceptRanges"], plainKeys := false, apart := false, laid := [("unicode/utf8.acceptRanges", laid_unicode_utf8_acceptRanges), ("unicode/utf8.first", laid_unicode_utf8_first)], narrowed := true }
def FnSchemaOrderUptoSaid : Prop := fnSchemaOrderUptoRow.holds Tryz.pinned (OpenSpec.upto fnSchemaOrderSpec)

/-- 'laws.FnSchemaCut', WHERE WHAT IT READS IS OF BULK AT MOST 1048576: true; the input reads as it did. -/
def fnSchemaCutUptoRow : OpenClaim := { program := "ytdhinlhafoiaiaagreatdoor", sum := "3862b798d53ac7c17f1c9740c0e6b8010767b0c3d6ca07c41f68bcea6e7b2f0e", func := "loop.example/wireforms/laws.FnSchemaCut", spec := "fnSchemaCut", inPlace := ["internal/bytealg.IndexByteString", "internal/bytealg.IndexString", "internal/bytealg.CountString", "internal/abi.NoEscape"], unfollowed := true, recurses := true, named := ["internal/bytealg.MaxLen", "unicode/utf8.first", "unicode/utf8.acceptRanges"], plainKeys := false, apart := false, laid := [("unicode/utf8.acceptRanges", laid_unicode_utf8_acceptRanges), ("unicode/utf8.first", laid_unicode_utf8_first)], narrowed := true }
def FnSchemaCutUptoSaid : Prop := fnSchemaCutUptoRow.holds Tryz.pinned (OpenSpec.upto fnSchemaCutSpec)

end Rows
end Go.Proofs.YtdhinlhafoiaiaaGreatDoor
