/-
  NARROWER THAN 'FOR EVERY INPUT', by the rows' own cells (each row's printed sentence says how): FnExactRegistryAdd: laid · FnRegistryAdd: laid · FnExactEvolveLift: laid · FnExactEvolveLost: laid · FnExactRegistryPath: laid · FnLiftTwice: laid · FnEvolveLost: laid · FnRegistryPath: laid · FnExactPathLeaves: laid · FnLiftField: laid.
  DERIVED. THE GIVEN ROWS OF THIS SEAT. 10 by the template 'for every input the law returns true; each argument reads behind the call as it read before'; 0 by the template 'total and deterministic' (their statements: YtcjfgbcdlcdeaaaGreatDoorTotals.lean).
  GIVEN WITH THE SEED: the statements are not yours to turn. If you find one false, say at which input.
  Laid BY PROGRAM, IN A SANDBOX (cutbox-rows.mjs): the forced cells as the released guide's own fill.sh prints them over the translation 6a4f281edda524c7… (all of the seat's roots in one cut). By AI agents, Wed Nov 11 2026. No macro, syntax, notation, axiom, sorry.
-/
import Derived.Test.YtcjfgbcdlcdeaaaGreatDoorChecked
import GoSem.PinnedTables
import GoSem.Claim
import GoSem.ClaimJoined
import GoSem.ClaimMapViews
import Derived.JoinedTies
import Derived.KernelRfl
namespace Go.Proofs.YtcjfgbcdlcdeaaaGreatDoor
/- THE CELL 'sum', in the pinned program and in every row, IS THE sha256 OF THE DUMP (.gsa) THAT YtcjfgbcdlcdeaaaGreatDoorProg.lean LOADS. Nothing in Lean hashes anything: it is a label: what it is worth is what the hold of that sum in a sandbox is worth. -/
noncomputable def Tryz.pinned : Pinned := { name := "ytcjfgbcdlcdeaaagreatdoor", sum := "6a4f281edda524c7bee18e091e202a3e2a8c1af468325b0f7fa02f18c45437c9", checked := Tryz.checked }
namespace Rows
def none {H : Type} : Left H := { results := [], args := [] }

/- WHAT THE LISTED PACKAGE-LEVEL VARIABLES READ AS WHEN THE CALL BEGINS. Each datum BY PROGRAM (the guide's laid-datum.mjs) off the statement by which the dump's own 'gosem.cut.vars' lays the variable. In a bare row this is a premise. The card (YtcjfgbcdlcdeaaaGreatDoorCards.lean) ties it to the program's text. -/
def laid_unicode_utf8_acceptRanges {H : Type} : DataW H := .agg [.agg [.lit (.int .u8 128), .lit (.int .u8 191)], .agg [.lit (.int .u8 160), .lit (.int .u8 191)], .agg [.lit (.int .u8 128), .lit (.int .u8 159)], .agg [.lit (.int .u8 144), .lit (.int .u8 191)], .agg [.lit (.int .u8 128), .lit (.int .u8 143)], .agg [.lit (.int .u8 0), .lit (.int .u8 0)], .agg [.lit (.int .u8 0), .lit (.int .u8 0)], .agg [.lit (.int .u8 0), .lit (.int .u8 0)], .agg [.lit (.int .u8 0), .lit (.int .u8 0)], .agg [.lit (.int .u8 0), .lit (.int .u8 0)], .agg [.lit (.int .u8 0), .lit (.int .u8 0)], .agg [.lit (.int .u8 0), .lit (.int .u8 0)], .agg [.lit (.int .u8 0), .lit (.int .u8 0)], .agg [.lit (.int .u8 0), .lit (.int .u8 0)], .agg [.lit (.int .u8 0), .lit (.int .u8 0)], .agg [.lit (.int .u8 0), .lit (.int .u8 0)]]
/-- One of Go's own tables, pinned by name: the form's constant. -/
def laid_unicode_utf8_first : DataW Unit := Go.Pinned.utf8First

/-- 'laws.FnExactRegistryAdd': WHATEVER THE INPUT: true; the input reads as it did. -/
def fnExactRegistryAddSpec : ChangeSpec := { name := "fnExactRegistryAdd", fn := fun _ => fun
  | [d1, d2] => { results := [.lit (.bool true)], args := [d1, d2] }
  | _ => none }
def fnExactRegistryAddRow : OpenClaim := { program := "ytcjfgbcdlcdeaaagreatdoor", sum := "6a4f281edda524c7bee18e091e202a3e2a8c1af468325b0f7fa02f18c45437c9", func := "loop.example/wireforms/laws.FnExactRegistryAdd", spec := "fnExactRegistryAdd", inPlace := ["internal/bytealg.IndexByteString", "internal/bytealg.IndexString", "internal/bytealg.CountString"], recurses := true, named := ["internal/bytealg.MaxLen", "unicode/utf8.first", "unicode/utf8.acceptRanges"], plainKeys := false, apart := false, laid := [("unicode/utf8.acceptRanges", laid_unicode_utf8_acceptRanges), ("unicode/utf8.first", laid_unicode_utf8_first)] }
def FnExactRegistryAddSaid : Prop := fnExactRegistryAddRow.holds Tryz.pinned (OpenSpec.ofChange fnExactRegistryAddSpec)

/-- ITS FALSE NEIGHBOUR: 'it returns false'. Refute it at one input. -/
def fnExactRegistryAddWrong : ChangeSpec := { name := "fnExactRegistryAdd", fn := fun _ => fun
  | [d1, d2] => { results := [.lit (.bool false)], args := [d1, d2] }
  | _ => none }
def FnExactRegistryAddWrongFalsely : Prop := fnExactRegistryAddRow.holds Tryz.pinned (OpenSpec.ofChange fnExactRegistryAddWrong)

/-- 'laws.FnRegistryAdd': WHATEVER THE INPUT: true; the input reads as it did. -/
def fnRegistryAddSpec : ChangeSpec := { name := "fnRegistryAdd", fn := fun _ => fun
  | [d] => { results := [.lit (.bool true)], args := [d] }
  | _ => none }
def fnRegistryAddRow : OpenClaim := { program := "ytcjfgbcdlcdeaaagreatdoor", sum := "6a4f281edda524c7bee18e091e202a3e2a8c1af468325b0f7fa02f18c45437c9", func := "loop.example/wireforms/laws.FnRegistryAdd", spec := "fnRegistryAdd", inPlace := ["internal/bytealg.IndexByteString", "internal/bytealg.IndexString", "internal/bytealg.CountString"], recurses := true, named := ["internal/bytealg.MaxLen", "unicode/utf8.first", "unicode/utf8.acceptRanges"], plainKeys := false, apart := false, laid := [("unicode/utf8.acceptRanges", laid_unicode_utf8_acceptRanges), ("unicode/utf8.first", laid_unicode_utf8_first)] }
def FnRegistryAddSaid : Prop := fnRegistryAddRow.holds Tryz.pinned (OpenSpec.ofChange fnRegistryAddSpec)

/-- ITS FALSE NEIGHBOUR: 'it returns false'. Refute it at one input. -/
def fnRegistryAddWrong : ChangeSpec := { name := "fnRegistryAdd", fn := fun _ => fun
  | [d] => { results := [.lit (.bool false)], args := [d] }
  | _ => none }
def FnRegistryAddWrongFalsely : Prop := fnRegistryAddRow.holds Tryz.pinned (OpenSpec.ofChange fnRegistryAddWrong)

/-- 'laws.FnExactEvolveLift': WHATEVER THE INPUT: true; the input reads as it did. -/
def fnExactEvolveLiftSpec : ChangeSpec := { name := "fnExactEvolveLift", fn := fun _ => fun
  | [d1, d2, d3, d4, d5] => { results := [.lit (.bool true)], args := [d1, d2, d3, d4, d5] }
  | _ => none }
def fnExactEvolveLiftRow : OpenClaim := { program := "ytcjfgbcdlcdeaaagreatdoor", sum := "6a4f281edda524c7bee18e091e202a3e2a8c1af468325b0f7fa02f18c45437c9", func := "loop.example/wireforms/laws.FnExactEvolveLift", spec := "fnExactEvolveLift", inPlace := ["internal/bytealg.IndexByteString", "internal/bytealg.IndexString", "internal/bytealg.CountString", "internal/abi.NoEscape", "internal/bytealg.MakeNoZero"], unfollowed := true, recurses := true, named := ["internal/bytealg.MaxLen", "unicode/utf8.first", "unicode/utf8.acceptRanges"], plainKeys := false, apart := false, laid := [("unicode/utf8.acceptRanges", laid_unicode_utf8_acceptRanges), ("unicode/utf8.first", laid_unicode_utf8_first)] }
def FnExactEvolveLiftSaid : Prop := fnExactEvolveLiftRow.holds Tryz.pinned (OpenSpec.ofChange fnExactEvolveLiftSpec)

/-- ITS FALSE NEIGHBOUR: 'it returns false'. Refute it at one input. -/
def fnExactEvolveLiftWrong : ChangeSpec := { name := "fnExactEvolveLift", fn := fun _ => fun
  | [d1, d2, d3, d4, d5] => { results := [.lit (.bool false)], args := [d1, d2, d3, d4, d5] }
  | _ => none }
def FnExactEvolveLiftWrongFalsely : Prop := fnExactEvolveLiftRow.holds Tryz.pinned (OpenSpec.ofChange fnExactEvolveLiftWrong)

/-- 'laws.FnExactEvolveLost': WHATEVER THE INPUT: true; the input reads as it did. -/
def fnExactEvolveLostSpec : ChangeSpec := { name := "fnExactEvolveLost", fn := fun _ => fun
  | [d1, d2, d3, d4, d5] => { results := [.lit (.bool true)], args := [d1, d2, d3, d4, d5] }
  | _ => none }
def fnExactEvolveLostRow : OpenClaim := { program := "ytcjfgbcdlcdeaaagreatdoor", sum := "6a4f281edda524c7bee18e091e202a3e2a8c1af468325b0f7fa02f18c45437c9", func := "loop.example/wireforms/laws.FnExactEvolveLost", spec := "fnExactEvolveLost", inPlace := ["internal/bytealg.IndexByteString", "internal/bytealg.IndexString", "internal/bytealg.CountString", "internal/abi.NoEscape", "internal/bytealg.MakeNoZero"], unfollowed := true, recurses := true, named := ["internal/bytealg.MaxLen", "unicode/utf8.first", "unicode/utf8.acceptRanges"], plainKeys := false, apart := false, laid := [("unicode/utf8.acceptRanges", laid_unicode_utf8_acceptRanges), ("unicode/utf8.first", laid_unicode_utf8_first)] }
def FnExactEvolveLostSaid : Prop := fnExactEvolveLostRow.holds Tryz.pinned (OpenSpec.ofChange fnExactEvolveLostSpec)

/-- ITS FALSE NEIGHBOUR: 'it returns false'. Refute it at one input. -/
def fnExactEvolveLostWrong : ChangeSpec := { name := "fnExactEvolveLost", fn := fun _ => fun
  | [d1, d2, d3, d4, d5] => { results := [.lit (.bool false)], args := [d1, d2, d3, d4, d5] }
  | _ => none }
def FnExactEvolveLostWrongFalsely : Prop := fnExactEvolveLostRow.holds Tryz.pinned (OpenSpec.ofChange fnExactEvolveLostWrong)

/-- 'laws.FnExactRegistryPath': WHATEVER THE INPUT: true; the input reads as it did. -/
def fnExactRegistryPathSpec : ChangeSpec := { name := "fnExactRegistryPath", fn := fun _ => fun
  | [d1, d2, d3] => { results := [.lit (.bool true)], args := [d1, d2, d3] }
  | _ => none }
def fnExactRegistryPathRow : OpenClaim := { program := "ytcjfgbcdlcdeaaagreatdoor", sum := "6a4f281edda524c7bee18e091e202a3e2a8c1af468325b0f7fa02f18c45437c9", func := "loop.example/wireforms/laws.FnExactRegistryPath", spec := "fnExactRegistryPath", inPlace := ["internal/bytealg.IndexByteString", "internal/bytealg.IndexString", "internal/bytealg.CountString", "internal/abi.NoEscape", "internal/bytealg.MakeNoZero"], unfollowed := true, recurses := true, named := ["internal/bytealg.MaxLen", "unicode/utf8.first", "unicode/utf8.acceptRanges"], plainKeys := false, apart := false, laid := [("unicode/utf8.acceptRanges", laid_unicode_utf8_acceptRanges), ("unicode/utf8.first", laid_unicode_utf8_first)] }
def FnExactRegistryPathSaid : Prop := fnExactRegistryPathRow.holds Tryz.pinned (OpenSpec.ofChange fnExactRegistryPathSpec)

/-- ITS FALSE NEIGHBOUR: 'it returns false'. Refute it at one input. -/
def fnExactRegistryPathWrong : ChangeSpec := { name := "fnExactRegistryPath", fn := fun _ => fun
  | [d1, d2, d3] => { results := [.lit (.bool false)], args := [d1, d2, d3] }
  | _ => none }
def FnExactRegistryPathWrongFalsely : Prop := fnExactRegistryPathRow.holds Tryz.pinned (OpenSpec.ofChange fnExactRegistryPathWrong)

/-- 'laws.FnLiftTwice': WHATEVER THE INPUT: true; the input reads as it did. -/
def fnLiftTwiceSpec : ChangeSpec := { name := "fnLiftTwice", fn := fun _ => fun
  | [d] => { results := [.lit (.bool true)], args := [d] }
  | _ => none }
def fnLiftTwiceRow : OpenClaim := { program := "ytcjfgbcdlcdeaaagreatdoor", sum := "6a4f281edda524c7bee18e091e202a3e2a8c1af468325b0f7fa02f18c45437c9", func := "loop.example/wireforms/laws.FnLiftTwice", spec := "fnLiftTwice", inPlace := ["internal/bytealg.IndexByteString", "internal/bytealg.IndexString", "internal/bytealg.CountString", "internal/abi.NoEscape", "internal/bytealg.MakeNoZero"], unfollowed := true, recurses := true, named := ["internal/bytealg.MaxLen", "unicode/utf8.first", "unicode/utf8.acceptRanges"], plainKeys := false, apart := false, laid := [("unicode/utf8.acceptRanges", laid_unicode_utf8_acceptRanges), ("unicode/utf8.first", laid_unicode_utf8_first)] }
def FnLiftTwiceSaid : Prop := fnLiftTwiceRow.holds Tryz.pinned (OpenSpec.ofChange fnLiftTwiceSpec)

/-- ITS FALSE NEIGHBOUR: 'it returns false'. Refute it at one input. -/
def fnLiftTwiceWrong : ChangeSpec := { name := "fnLiftTwice", fn := fun _ => fun
  | [d] => { results := [.lit (.bool false)], args := [d] }
  | _ => none }
def FnLiftTwiceWrongFalsely : Prop := fnLiftTwiceRow.holds Tryz.pinned (OpenSpec.ofChange fnLiftTwiceWrong)

/-- 'laws.FnEvolveLost': WHATEVER THE INPUT: true; the input reads as it did. -/
def fnEvolveLostSpec : ChangeSpec := { name := "fnEvolveLost", fn := fun _ => fun
  | [d] => { results := [.lit (.bool true)], args := [d] }
  | _ => none }
def fnEvolveLostRow : OpenClaim := { program := "ytcjfgbcdlcdeaaagreatdoor", sum := "6a4f281edda524c7bee18e091e202a3e2a8c1af468325b0f7fa02f18c45437c9", func := "loop.example/wireforms/laws.FnEvolveLost", spec := "fnEvolveLost", inPlace := ["internal/bytealg.IndexByteString", "internal/bytealg.IndexString", "internal/bytealg.CountString", "internal/abi.NoEscape", "internal/bytealg.MakeNoZero"], unfollowed := true, recurses := true, named := ["internal/bytealg.MaxLen", "unicode/utf8.first", "unicode/utf8.acceptRanges"], plainKeys := false, apart := false, laid := [("unicode/utf8.acceptRanges", laid_unicode_utf8_acceptRanges), ("unicode/utf8.first", laid_unicode_utf8_first)] }
def FnEvolveLostSaid : Prop := fnEvolveLostRow.holds Tryz.pinned (OpenSpec.ofChange fnEvolveLostSpec)

/-- ITS FALSE NEIGHBOUR: 'it returns false'. Refute it at one input. -/
def fnEvolveLostWrong : ChangeSpec := { name := "fnEvolveLost", fn := fun _ => fun
  | [d] => { results := [.lit (.bool false)], args := [d] }
  | _ => none }
def FnEvolveLostWrongFalsely : Prop := fnEvolveLostRow.holds Tryz.pinned (OpenSpec.ofChange fnEvolveLostWrong)

/-- 'laws.FnRegistryPath': WHATEVER THE INPUT: true; the input reads as it did. -/
def fnRegistryPathSpec : ChangeSpec := { name := "fnRegistryPath", fn := fun _ => fun
  | [d] => { results := [.lit (.bool true)], args := [d] }
  | _ => none }
def fnRegistryPathRow : OpenClaim := { program := "ytcjfgbcdlcdeaaagreatdoor", sum := "6a4f281edda524c7bee18e091e202a3e2a8c1af468325b0f7fa02f18c45437c9", func := "loop.example/wireforms/laws.FnRegistryPath", spec := "fnRegistryPath", inPlace := ["internal/bytealg.IndexByteString", "internal/bytealg.IndexString", "internal/bytealg.CountString", "internal/abi.NoEscape", "internal/bytealg.MakeNoZero"], unfollowed := true, recurses := true, named := ["internal/bytealg.MaxLen", "unicode/utf8.first", "unicode/utf8.acceptRanges"], plainKeys := false, apart := false, laid := [("unicode/utf8.acceptRanges", laid_unicode_utf8_acceptRanges), ("unicode/utf8.first", laid_unicode_utf8_first)] }
def FnRegistryPathSaid : Prop := fnRegistryPathRow.holds Tryz.pinned (OpenSpec.ofChange fnRegistryPathSpec)

/-- ITS FALSE NEIGHBOUR: 'it returns false'. Refute it at one input. -/
def fnRegistryPathWrong : ChangeSpec := { name := "fnRegistryPath", fn := fun _ => fun
  | [d] => { results := [.lit (.bool false)], args := [d] }
  | _ => none }
def FnRegistryPathWrongFalsely : Prop := fnRegistryPathRow.holds Tryz.pinned (OpenSpec.ofChange fnRegistryPathWrong)

/-- 'laws.FnExactPathLeaves': WHATEVER THE INPUT: true; the input reads as it did. -/
def fnExactPathLeavesSpec : ChangeSpec := { name := "fnExactPathLeaves", fn := fun _ => fun
  | [d1, d2, d3] => { results := [.lit (.bool true)], args := [d1, d2, d3] }
  | _ => none }
def fnExactPathLeavesRow : OpenClaim := { program := "ytcjfgbcdlcdeaaagreatdoor", sum := "6a4f281edda524c7bee18e091e202a3e2a8c1af468325b0f7fa02f18c45437c9", func := "loop.example/wireforms/laws.FnExactPathLeaves", spec := "fnExactPathLeaves", inPlace := ["internal/bytealg.IndexByteString", "internal/bytealg.IndexString", "internal/bytealg.CountString", "internal/abi.NoEscape", "internal/bytealg.MakeNoZero"], unfollowed := true, recurses := true, named := ["internal/bytealg.MaxLen", "unicode/utf8.first", "unicode/utf8.acceptRanges"], plainKeys := false, apart := false, laid := [("unicode/utf8.acceptRanges", laid_unicode_utf8_acceptRanges), ("unicode/utf8.first", laid_unicode_utf8_first)] }
def FnExactPathLeavesSaid : Prop := fnExactPathLeavesRow.holds Tryz.pinned (OpenSpec.ofChange fnExactPathLeavesSpec)

/-- ITS FALSE NEIGHBOUR: 'it returns false'. Refute it at one input. -/
def fnExactPathLeavesWrong : ChangeSpec := { name := "fnExactPathLeaves", fn := fun _ => fun
  | [d1, d2, d3] => { results := [.lit (.bool false)], args := [d1, d2, d3] }
  | _ => none }
def FnExactPathLeavesWrongFalsely : Prop := fnExactPathLeavesRow.holds Tryz.pinned (OpenSpec.ofChange fnExactPathLeavesWrong)

/-- 'laws.FnLiftField': WHATEVER THE INPUT: true; the input reads as it did. -/
def fnLiftFieldSpec : ChangeSpec := { name := "fnLiftField", fn := fun _ => fun
  | [d] => { results := [.lit (.bool true)], args := [d] }
  | _ => none }
def fnLiftFieldRow : OpenClaim := { program := "ytcjfgbcdlcdeaaagreatdoor", sum := "6a4f281edda524c7bee18e091e202a3e2a8c1af468325b0f7fa02f18c45437c9", func := "loop.example/wireforms/laws.FnLiftField", spec := "fnLiftField", inPlace := ["internal/bytealg.IndexByteString", "internal/bytealg.IndexString", "internal/bytealg.CountString", "internal/abi.NoEscape", "internal/bytealg.MakeNoZero"], unfollowed := true, recurses := true, named := ["internal/bytealg.MaxLen", "unicode/utf8.first", "unicode/utf8.acceptRanges"], plainKeys := false, apart := false, laid := [("unicode/utf8.acceptRanges", laid_unicode_utf8_acceptRanges), ("unicode/utf8.first", laid_unicode_utf8_first)] }
def FnLiftFieldSaid : Prop := fnLiftFieldRow.holds Tryz.pinned (OpenSpec.ofChange fnLiftFieldSpec)

/-- ITS FALSE NEIGHBOUR: 'it returns false'. Refute it at one input. -/
def fnLiftFieldWrong : ChangeSpec := { name := "fnLiftField", fn := fun _ => fun
  | [d] => { results := [.lit (.bool false)], args := [d] }
  | _ => none }
def FnLiftFieldWrongFalsely : Prop := fnLiftFieldRow.holds Tryz.pinned (OpenSpec.ofChange fnLiftFieldWrong)

/- THE SECOND FORM. 'bulk': how many values and letters a reading holds, each counted each time it is reached (what is shared counts as often as it is met; a slice's spare places count too). A statement '..UptoSaid' is the law's where the arguments, and the package variables that the reading takes, are together of bulk at most 1048576: NARROWER than '..Said'. Prove '..Said' where nothing that the law and all that it calls make is longer than what came in: it says more and counts as full. Else prove '..UptoSaid'. A law counts once. -/
mutual
def uptoBulk {H : Type} : DataW H → Nat
  | .lit (.string bytes) => bytes.length + 1
  | .lit _ => 1
  | .nil => 1
  | .ptr d => uptoBulk d + 1
  | .slice elems spare => uptoBulkAll elems + uptoBulkAll spare + 1
  | .agg parts => uptoBulkAll parts + 1
  | .iface _ d => uptoBulk d + 1
  | .map entries => uptoBulkEntries entries + 1
  | .held _ => 1
def uptoBulkAll {H : Type} : List (DataW H) → Nat
  | [] => 0
  | d :: r => uptoBulk d + uptoBulkAll r
def uptoBulkEntries {H : Type} : List (Lit × DataW H) → Nat
  | [] => 0
  | x :: r => uptoBulkEntry x + uptoBulkEntries r
def uptoBulkEntry {H : Type} : Lit × DataW H → Nat
  | (.string bytes, d) => bytes.length + uptoBulk d + 1
  | (_, d) => uptoBulk d + 1
 end
def uptoSmall : (H : Type) → List (DataW H) → Bool := fun _ ds => decide (uptoBulkAll ds ≤ 1048576)
def OpenSpec.upto (s : _root_.Go.ChangeSpec) : _root_.Go.OpenSpec := { _root_.Go.OpenSpec.ofChange s with cond := some uptoSmall }

/-- 'laws.FnExactRegistryAdd', WHERE WHAT IT READS IS OF BULK AT MOST 1048576: true; the input reads as it did. -/
def fnExactRegistryAddUptoRow : OpenClaim := { program := "ytcjfgbcdlcdeaaagreatdoor", sum := "6a4f281edda524c7bee18e091e202a3e2a8c1af468325b0f7fa02f18c45437c9", func := "loop.example/wireforms/laws.FnExactRegistryAdd", spec := "fnExactRegistryAdd", inPlace := ["internal/bytealg.IndexByteString", "internal/bytealg.IndexString", "internal/bytealg.CountString"], recurses := true, named := ["internal/bytealg.MaxLen", "unicode/utf8.first", "unicode/utf8.acceptRanges"], plainKeys := false, apart := false, laid := [("unicode/utf8.acceptRanges", laid_unicode_utf8_acceptRanges), ("unicode/utf8.first", laid_unicode_utf8_first)], narrowed := true }
def FnExactRegistryAddUptoSaid : Prop := fnExactRegistryAddUptoRow.holds Tryz.pinned (OpenSpec.upto fnExactRegistryAddSpec)

/-- 'laws.FnRegistryAdd', WHERE WHAT IT READS IS OF BULK AT MOST 1048576: true; the input reads as it did. -/
def fnRegistryAddUptoRow : OpenClaim := { program := "ytcjfgbcdlcdeaaagreatdoor", sum := "6a4f281edda524c7bee18e091e202a3e2a8c1af468325b0f7fa02f18c45437c9", func := "loop.example/wireforms/laws.FnRegistryAdd", spec := "fnRegistryAdd", inPlace := ["internal/bytealg.IndexByteString", "internal/bytealg.IndexString", "internal/bytealg.CountString"], recurses := true, named := ["internal/bytealg.MaxLen", "unicode/utf8.first", "unicode/utf8.acceptRanges"], plainKeys := false, apart := false, laid := [("unicode/utf8.acceptRanges", laid_unicode_utf8_acceptRanges), ("unicode/utf8.first", laid_unicode_utf8_first)], narrowed := true }
def FnRegistryAddUptoSaid : Prop := fnRegistryAddUptoRow.holds Tryz.pinned (OpenSpec.upto fnRegistryAddSpec)

/-- 'laws.FnExactEvolveLift', WHERE WHAT IT READS IS OF BULK AT MOST 1048576: true; the input reads as it did. -/
def fnExactEvolveLiftUptoRow : OpenClaim := { program := "ytcjfgbcdlcdeaaagreatdoor", sum := "6a4f281edda524c7bee18e091e202a3e2a8c1af468325b0f7fa02f18c45437c9", func := "loop.example/wireforms/laws.FnExactEvolveLift", spec := "fnExactEvolveLift", inPlace := ["internal/bytealg.IndexByteString", "internal/bytealg.IndexString", "internal/bytealg.CountString", "internal/abi.NoEscape", "internal/bytealg.MakeNoZero"], unfollowed := true, recurses := true, named := ["internal/bytealg.MaxLen", "unicode/utf8.first", "unicode/utf8.acceptRanges"], plainKeys := false, apart := false, laid := [("unicode/utf8.acceptRanges", laid_unicode_utf8_acceptRanges), ("unicode/utf8.first", laid_unicode_utf8_first)], narrowed := true }
def FnExactEvolveLiftUptoSaid : Prop := fnExactEvolveLiftUptoRow.holds Tryz.pinned (OpenSpec.upto fnExactEvolveLiftSpec)

/-- 'laws.FnExactEvolveLost', WHERE WHAT IT READS IS OF BULK AT MOST 1048576: true; the input reads as it did. -/
def fnExactEvolveLostUptoRow : OpenClaim := { program := "ytcjfgbcdlcdeaaagreatdoor", sum := "6a4f281edda524c7bee18e091e202a3e2a8c1af468325b0f7fa02f18c45437c9", func := "loop.example/wireforms/laws.FnExactEvolveLost", spec := "fnExactEvolveLost", inPlace := ["internal/bytealg.IndexByteString", "internal/bytealg.IndexString", "internal/bytealg.CountString", "internal/abi.NoEscape", "internal/bytealg.MakeNoZero"], unfollowed := true, recurses := true, named := ["internal/bytealg.MaxLen", "unicode/utf8.first", "unicode/utf8.acceptRanges"], plainKeys := false, apart := false, laid := [("unicode/utf8.acceptRanges", laid_unicode_utf8_acceptRanges), ("unicode/utf8.first", laid_unicode_utf8_first)], narrowed := true }
def FnExactEvolveLostUptoSaid : Prop := fnExactEvolveLostUptoRow.holds Tryz.pinned (OpenSpec.upto fnExactEvolveLostSpec)

/-- 'laws.FnExactRegistryPath', WHERE WHAT IT READS IS OF BULK AT MOST 1048576: true; the input reads as it did. -/
def fnExactRegistryPathUptoRow : OpenClaim := { program := "ytcjfgbcdlcdeaaagreatdoor", sum := "6a4f281edda524c7bee18e091e202a3e2a8c1af468325b0f7fa02f18c45437c9", func := "loop.example/wireforms/laws.FnExactRegistryPath", spec := "fnExactRegistryPath", inPlace := ["internal/bytealg.IndexByteString", "internal/bytealg.IndexString", "internal/bytealg.CountString", "internal/abi.NoEscape", "internal/bytealg.MakeNoZero"], unfollowed := true, recurses := true, named := ["internal/bytealg.MaxLen", "unicode/utf8.first", "unicode/utf8.acceptRanges"], plainKeys := false, apart := false, laid := [("unicode/utf8.acceptRanges", laid_unicode_utf8_acceptRanges), ("unicode/utf8.first", laid_unicode_utf8_first)], narrowed := true }
def FnExactRegistryPathUptoSaid : Prop := fnExactRegistryPathUptoRow.holds Tryz.pinned (OpenSpec.upto fnExactRegistryPathSpec)

/-- 'laws.FnLiftTwice', WHERE WHAT IT READS IS OF BULK AT MOST 1048576: true; the input reads as it did. -/
def fnLiftTwiceUptoRow : OpenClaim := { program := "ytcjfgbcdlcdeaaagreatdoor", sum := "6a4f281edda524c7bee18e091e202a3e2a8c1af468325b0f7fa02f18c45437c9", func := "loop.example/wireforms/laws.FnLiftTwice", spec := "fnLiftTwice", inPlace := ["internal/bytealg.IndexByteString", "internal/bytealg.IndexString", "internal/bytealg.CountString", "internal/abi.NoEscape", "internal/bytealg.MakeNoZero"], unfollowed := true, recurses := true, named := ["internal/bytealg.MaxLen", "unicode/utf8.first", "unicode/utf8.acceptRanges"], plainKeys := false, apart := false, laid := [("unicode/utf8.acceptRanges", laid_unicode_utf8_acceptRanges), ("unicode/utf8.first", laid_unicode_utf8_first)], narrowed := true }
def FnLiftTwiceUptoSaid : Prop := fnLiftTwiceUptoRow.holds Tryz.pinned (OpenSpec.upto fnLiftTwiceSpec)

/-- 'laws.FnEvolveLost', WHERE WHAT IT READS IS OF BULK AT MOST 1048576: true; the input reads as it did. -/
def fnEvolveLostUptoRow : OpenClaim := { program := "ytcjfgbcdlcdeaaagreatdoor", sum := "6a4f281edda524c7bee18e091e202a3e2a8c1af468325b0f7fa02f18c45437c9", func := "loop.example/wireforms/laws.FnEvolveLost", spec := "fnEvolveLost", inPlace := ["internal/bytealg.IndexByteString", "internal/bytealg.IndexString", "internal/bytealg.CountString", "internal/abi.NoEscape", "internal/bytealg.MakeNoZero"], unfollowed := true, recurses := true, named := ["internal/bytealg.MaxLen", "unicode/utf8.first", "unicode/utf8.acceptRanges"], plainKeys := false, apart := false, laid := [("unicode/utf8.acceptRanges", laid_unicode_utf8_acceptRanges), ("unicode/utf8.first", laid_unicode_utf8_first)], narrowed := true }
def FnEvolveLostUptoSaid : Prop := fnEvolveLostUptoRow.holds Tryz.pinned (OpenSpec.upto fnEvolveLostSpec)

/-- 'laws.FnRegistryPath', WHERE WHAT IT READS IS OF BULK AT MOST 1048576: true; the input reads as it did. -/
def fnRegistryPathUptoRow : OpenClaim := { program := "ytcjfgbcdlcdeaaagreatdoor", sum := "6a4f281edda524c7bee18e091e202a3e2a8c1af468325b0f7fa02f18c45437c9", func := "loop.example/wireforms/laws.FnRegistryPath", spec := "fnRegistryPath", inPlace := ["internal/bytealg.IndexByteString", "internal/bytealg.IndexString", "internal/bytealg.CountString", "internal/abi.NoEscape", "internal/bytealg.MakeNoZero"], unfollowed := true, recurses := true, named := ["internal/bytealg.MaxLen", "unicode/utf8.first", "unicode/utf8.acceptRanges"], plainKeys := false, apart := false, laid := [("unicode/utf8.acceptRanges", laid_unicode_utf8_acceptRanges), ("unicode/utf8.first", laid_unicode_utf8_first)], narrowed := true }
def FnRegistryPathUptoSaid : Prop := fnRegistryPathUptoRow.holds Tryz.pinned (OpenSpec.upto fnRegistryPathSpec)

/-- 'laws.FnExactPathLeaves', WHERE WHAT IT READS IS OF BULK AT MOST 1048576: true; the input reads as it did. -/
def fnExactPathLeavesUptoRow : OpenClaim := { program := "ytcjfgbcdlcdeaaagreatdoor", sum := "6a4f281edda524c7bee18e091e202a3e2a8c1af468325b0f7fa02f18c45437c9", func := "loop.example/wireforms/laws.FnExactPathLeaves", spec := "fnExactPathLeaves", inPlace := ["internal/bytealg.IndexByteString", "internal/bytealg.IndexString", "internal/bytealg.CountString", "internal/abi.NoEscape", "internal/bytealg.MakeNoZero"], unfollowed := true, recurses := true, named := ["internal/bytealg.MaxLen", "unicode/utf8.first", "unicode/utf8.acceptRanges"], plainKeys := false, apart := false, laid := [("unicode/utf8.acceptRanges", laid_unicode_utf8_acceptRanges), ("unicode/utf8.first", laid_unicode_utf8_first)], narrowed := true }
def FnExactPathLeavesUptoSaid : Prop := fnExactPathLeavesUptoRow.holds Tryz.pinned (OpenSpec.upto fnExactPathLeavesSpec)

/-- 'laws.FnLiftField', WHERE WHAT IT READS IS OF BULK AT MOST 1048576: true; the input reads as it did. -/
def fnLiftFieldUptoRow : OpenClaim := { program := "ytcjfgbcdlcdeaaagreatdoor", sum := "6a4f281edda524c7bee18e091e202a3e2a8c1af468325b0f7fa02f18c45437c9", func := "loop.example/wireforms/laws.FnLiftField", spec := "fnLiftField", inPlace := ["internal/bytealg.IndexByteString", "internal/bytealg.IndexString", "internal/bytealg.CountString", "internal/abi.NoEscape", "internal/bytealg.MakeNoZero"], unfollowed := true, recurses := true, named := ["internal/bytealg.MaxLen", "unicode/utf8.first", "unicode/utf8.acceptRanges"], plainKeys := false, apart := false, laid := [("unicode/utf8.acceptRanges", laid_unicode_utf8_acceptRanges), ("unicode/utf8.first", laid_unicode_utf8_first)], narrowed := true }
def FnLiftFieldUptoSaid : Prop := fnLiftFieldUptoRow.holds Tryz.pinned (OpenSpec.upto fnLiftFieldSpec)

end Rows
end Go.Proofs.YtcjfgbcdlcdeaaaGreatDoor
