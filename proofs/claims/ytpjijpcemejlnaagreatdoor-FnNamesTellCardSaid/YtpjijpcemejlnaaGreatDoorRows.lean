/-
  NARROWER THAN 'FOR EVERY INPUT', by the rows' own cells (each row's printed sentence says how): FnLiftTwice: laid · FnEvolveLost: laid · FnExactPathLeaves: laid · FnExactNamesGet: laid · FnExactNamesPut: laid · FnExactNamesTell: laid · FnNamesTell: laid · FnNamesPut: laid · FnNamesOrder: laid.
  DERIVED. THE GIVEN ROWS OF THIS SEAT. 9 by the template 'for every input the law returns true; each argument reads behind the call as it read before'; 0 by the template 'total and deterministic' (their statements: YtpjijpcemejlnaaGreatDoorTotals.lean).
  GIVEN WITH THE SEED: the statements are not yours to turn. If you find one false, say at which input.
  Laid BY PROGRAM, IN A SANDBOX (cutbox-rows.mjs): the forced cells as the released guide's own fill.sh prints them over the translation 109c9a334c7372df… (all of the seat's roots in one cut). By AI agents, Wed Nov 11 2026. No macro, syntax, notation, axiom, sorry.
-/
import Derived.Test.YtpjijpcemejlnaaGreatDoorChecked
import GoSem.PinnedTables
import GoSem.Claim
import GoSem.ClaimJoined
import GoSem.ClaimMapViews
import Derived.JoinedTies
import Derived.KernelRfl
namespace Go.Proofs.YtpjijpcemejlnaaGreatDoor
/- THE CELL 'sum', in the pinned program and in every row, IS THE sha256 OF THE DUMP (.gsa) THAT YtpjijpcemejlnaaGreatDoorProg.lean LOADS. Nothing in Lean hashes anything: it is a label: what it is worth is what the hold of that sum in a sandbox is worth. -/
noncomputable def Tryz.pinned : Pinned := { name := "ytpjijpcemejlnaagreatdoor", sum := "109c9a334c7372df54864fb23590c6aa9ed7787ea93c4f9e0e1652da4f7b15cd", checked := Tryz.checked }
namespace Rows
def none {H : Type} : Left H := { results := [], args := [] }

/- WHAT THE LISTED PACKAGE-LEVEL VARIABLES READ AS WHEN THE CALL BEGINS. Each datum BY PROGRAM (the guide's laid-datum.mjs) off the statement by which the dump's own 'gosem.cut.vars' lays the variable. In a bare row this is a premise. The card (YtpjijpcemejlnaaGreatDoorCards.lean) ties it to the program's text. -/
def laid_unicode_utf8_acceptRanges {H : Type} : DataW H := .agg [.agg [.lit (.int .u8 128), .lit (.int .u8 191)], .agg [.lit (.int .u8 160), .lit (.int .u8 191)], .agg [.lit (.int .u8 128), .lit (.int .u8 159)], .agg [.lit (.int .u8 144), .lit (.int .u8 191)], .agg [.lit (.int .u8 128), .lit (.int .u8 143)], .agg [.lit (.int .u8 0), .lit (.int .u8 0)], .agg [.lit (.int .u8 0), .lit (.int .u8 0)], .agg [.lit (.int .u8 0), .lit (.int .u8 0)], .agg [.lit (.int .u8 0), .lit (.int .u8 0)], .agg [.lit (.int .u8 0), .lit (.int .u8 0)], .agg [.lit (.int .u8 0), .lit (.int .u8 0)], .agg [.lit (.int .u8 0), .lit (.int .u8 0)], .agg [.lit (.int .u8 0), .lit (.int .u8 0)], .agg [.lit (.int .u8 0), .lit (.int .u8 0)], .agg [.lit (.int .u8 0), .lit (.int .u8 0)], .agg [.lit (.int .u8 0), .lit (.int .u8 0)]]
/-- One of Go's own tables, pinned by name: the form's constant. -/
def laid_unicode_utf8_first : DataW Unit := Go.Pinned.utf8First

/-- 'laws.FnLiftTwice': WHATEVER THE INPUT: true; the input reads as it did. -/
def fnLiftTwiceSpec : ChangeSpec := { name := "fnLiftTwice", fn := fun _ => fun
  | [d] => { results := [.lit (.bool true)], args := [d] }
  | _ => none }
def fnLiftTwiceRow : OpenClaim := { program := "ytpjijpcemejlnaagreatdoor", sum := "109c9a334c7372df54864fb23590c6aa9ed7787ea93c4f9e0e1652da4f7b15cd", func := "loop.example/wireforms/laws.FnLiftTwice", spec := "fnLiftTwice", inPlace := ["internal/bytealg.IndexByteString", "internal/bytealg.IndexString", "internal/bytealg.CountString", "internal/abi.NoEscape", "internal/bytealg.MakeNoZero"], unfollowed := true, recurses := true, named := ["internal/bytealg.MaxLen", "unicode/utf8.first", "unicode/utf8.acceptRanges"], plainKeys := false, apart := false, laid := [("unicode/utf8.acceptRanges", laid_unicode_utf8_acceptRanges), ("unicode/utf8.first", laid_unicode_utf8_first)] }
def FnLiftTwiceSaid : Prop := fnLiftTwiceRow.holds Tryz.pinned (OpenSpec.ofChange fnLiftTwiceSpec)

/-- ITS FALSE NEIGHBOUR: 'it returns false'. Refute it at one input. -/
def fnLiftTwiceWrong : ChangeSpec := { name := "fnLiftTwice", fn := fun _ => fun
  | [d] => { results := [.lit (.bool false)], args := [d] }
  | _ => none }
def FnLiftTwiceWrongFalsely : Prop := fnLiftTwiceRow.holds Tryz.pinned (OpenSpec.ofChange fnLiftTwiceWrong)

/-- 'laws.FnEvolveLost': WHATEVER THE INPUT: true; the input reads as it did. -/
def fnEvolveLostSpec : ChangeSpec := { name := "fnEvolveLost", fn := fun _ => fun
  | [d] => { results := [.lit (.bool true)], args := [d] }
  | _ => none }
def fnEvolveLostRow : OpenClaim := { program := "ytpjijpcemejlnaagreatdoor", sum := "109c9a334c7372df54864fb23590c6aa9ed7787ea93c4f9e0e1652da4f7b15cd", func := "loop.example/wireforms/laws.FnEvolveLost", spec := "fnEvolveLost", inPlace := ["internal/bytealg.IndexByteString", "internal/bytealg.IndexString", "internal/bytealg.CountString", "internal/abi.NoEscape", "internal/bytealg.MakeNoZero"], unfollowed := true, recurses := true, named := ["internal/bytealg.MaxLen", "unicode/utf8.first", "unicode/utf8.acceptRanges"], plainKeys := false, apart := false, laid := [("unicode/utf8.acceptRanges", laid_unicode_utf8_acceptRanges), ("unicode/utf8.first", laid_unicode_utf8_first)] }
def FnEvolveLostSaid : Prop := fnEvolveLostRow.holds Tryz.pinned (OpenSpec.ofChange fnEvolveLostSpec)

/-- ITS FALSE NEIGHBOUR: 'it returns false'. Refute it at one input. -/
def fnEvolveLostWrong : ChangeSpec := { name := "fnEvolveLost", fn := fun _ => fun
  | [d] => { results := [.lit (.bool false)], args := [d] }
  | _ => none }
def FnEvolveLostWrongFalsely : Prop := fnEvolveLostRow.holds Tryz.pinned (OpenSpec.ofChange fnEvolveLostWrong)

/-- 'laws.FnExactPathLeaves': WHATEVER THE INPUT: true; the input reads as it did. -/
def fnExactPathLeavesSpec : ChangeSpec := { name := "fnExactPathLeaves", fn := fun _ => fun
  | [d1, d2, d3] => { results := [.lit (.bool true)], args := [d1, d2, d3] }
  | _ => none }
def fnExactPathLeavesRow : OpenClaim := { program := "ytpjijpcemejlnaagreatdoor", sum := "109c9a334c7372df54864fb23590c6aa9ed7787ea93c4f9e0e1652da4f7b15cd", func := "loop.example/wireforms/laws.FnExactPathLeaves", spec := "fnExactPathLeaves", inPlace := ["internal/bytealg.IndexByteString", "internal/bytealg.IndexString", "internal/bytealg.CountString", "internal/abi.NoEscape", "internal/bytealg.MakeNoZero"], unfollowed := true, recurses := true, named := ["internal/bytealg.MaxLen", "unicode/utf8.first", "unicode/utf8.acceptRanges"], plainKeys := false, apart := false, laid := [("unicode/utf8.acceptRanges", laid_unicode_utf8_acceptRanges), ("unicode/utf8.first", laid_unicode_utf8_first)] }
def FnExactPathLeavesSaid : Prop := fnExactPathLeavesRow.holds Tryz.pinned (OpenSpec.ofChange fnExactPathLeavesSpec)

/-- ITS FALSE NEIGHBOUR: 'it returns false'. Refute it at one input. -/
def fnExactPathLeavesWrong : ChangeSpec := { name := "fnExactPathLeaves", fn := fun _ => fun
  | [d1, d2, d3] => { results := [.lit (.bool false)], args := [d1, d2, d3] }
  | _ => none }
def FnExactPathLeavesWrongFalsely : Prop := fnExactPathLeavesRow.holds Tryz.pinned (OpenSpec.ofChange fnExactPathLeavesWrong)

/-- 'laws.FnExactNamesGet': WHATEVER THE INPUT: true; the input reads as it did. -/
def fnExactNamesGetSpec : ChangeSpec := { name := "fnExactNamesGet", fn := fun _ => fun
  | [d1, d2, d3] => { results := [.lit (.bool true)], args := [d1, d2, d3] }
  | _ => none }
def fnExactNamesGetRow : OpenClaim := { program := "ytpjijpcemejlnaagreatdoor", sum := "109c9a334c7372df54864fb23590c6aa9ed7787ea93c4f9e0e1652da4f7b15cd", func := "loop.example/wireforms/laws.FnExactNamesGet", spec := "fnExactNamesGet", inPlace := ["internal/bytealg.IndexByteString", "internal/bytealg.IndexString", "internal/bytealg.CountString", "internal/abi.NoEscape", "internal/bytealg.MakeNoZero"], unfollowed := true, recurses := true, named := ["internal/bytealg.MaxLen", "unicode/utf8.first", "unicode/utf8.acceptRanges"], plainKeys := false, apart := false, laid := [("unicode/utf8.acceptRanges", laid_unicode_utf8_acceptRanges), ("unicode/utf8.first", laid_unicode_utf8_first)] }
def FnExactNamesGetSaid : Prop := fnExactNamesGetRow.holds Tryz.pinned (OpenSpec.ofChange fnExactNamesGetSpec)

/-- ITS FALSE NEIGHBOUR: 'it returns false'. Refute it at one input. -/
def fnExactNamesGetWrong : ChangeSpec := { name := "fnExactNamesGet", fn := fun _ => fun
  | [d1, d2, d3] => { results := [.lit (.bool false)], args := [d1, d2, d3] }
  | _ => none }
def FnExactNamesGetWrongFalsely : Prop := fnExactNamesGetRow.holds Tryz.pinned (OpenSpec.ofChange fnExactNamesGetWrong)

/-- 'laws.FnExactNamesPut': WHATEVER THE INPUT: true; the input reads as it did. -/
def fnExactNamesPutSpec : ChangeSpec := { name := "fnExactNamesPut", fn := fun _ => fun
  | [d1, d2, d3] => { results := [.lit (.bool true)], args := [d1, d2, d3] }
  | _ => none }
def fnExactNamesPutRow : OpenClaim := { program := "ytpjijpcemejlnaagreatdoor", sum := "109c9a334c7372df54864fb23590c6aa9ed7787ea93c4f9e0e1652da4f7b15cd", func := "loop.example/wireforms/laws.FnExactNamesPut", spec := "fnExactNamesPut", inPlace := ["internal/bytealg.IndexByteString", "internal/bytealg.IndexString", "internal/bytealg.CountString", "internal/abi.NoEscape", "internal/bytealg.MakeNoZero"], unfollowed := true, recurses := true, named := ["internal/bytealg.MaxLen", "unicode/utf8.first", "unicode/utf8.acceptRanges"], plainKeys := false, apart := false, laid := [("unicode/utf8.acceptRanges", laid_unicode_utf8_acceptRanges), ("unicode/utf8.first", laid_unicode_utf8_first)] }
def FnExactNamesPutSaid : Prop := fnExactNamesPutRow.holds Tryz.pinned (OpenSpec.ofChange fnExactNamesPutSpec)

/-- ITS FALSE NEIGHBOUR: 'it returns false'. Refute it at one input. -/
def fnExactNamesPutWrong : ChangeSpec := { name := "fnExactNamesPut", fn := fun _ => fun
  | [d1, d2, d3] => { results := [.lit (.bool false)], args := [d1, d2, d3] }
  | _ => none }
def FnExactNamesPutWrongFalsely : Prop := fnExactNamesPutRow.holds Tryz.pinned (OpenSpec.ofChange fnExactNamesPutWrong)

/-- 'laws.FnExactNamesTell': WHATEVER THE INPUT: true; the input reads as it did. -/
def fnExactNamesTellSpec : ChangeSpec := { name := "fnExactNamesTell", fn := fun _ => fun
  | [d1, d2, d3] => { results := [.lit (.bool true)], args := [d1, d2, d3] }
  | _ => none }
def fnExactNamesTellRow : OpenClaim := { program := "ytpjijpcemejlnaagreatdoor", sum := "109c9a334c7372df54864fb23590c6aa9ed7787ea93c4f9e0e1652da4f7b15cd", func := "loop.example/wireforms/laws.FnExactNamesTell", spec := "fnExactNamesTell", inPlace := ["internal/bytealg.IndexByteString", "internal/bytealg.IndexString", "internal/bytealg.CountString", "internal/abi.NoEscape", "internal/bytealg.MakeNoZero"], unfollowed := true, recurses := true, named := ["internal/bytealg.MaxLen", "unicode/utf8.first", "unicode/utf8.acceptRanges"], plainKeys := false, apart := false, laid := [("unicode/utf8.acceptRanges", laid_unicode_utf8_acceptRanges), ("unicode/utf8.first", laid_unicode_utf8_first)] }
def FnExactNamesTellSaid : Prop := fnExactNamesTellRow.holds Tryz.pinned (OpenSpec.ofChange fnExactNamesTellSpec)

/-- ITS FALSE NEIGHBOUR: 'it returns false'. Refute it at one input. -/
def fnExactNamesTellWrong : ChangeSpec := { name := "fnExactNamesTell", fn := fun _ => fun
  | [d1, d2, d3] => { results := [.lit (.bool false)], args := [d1, d2, d3] }
  | _ => none }
def FnExactNamesTellWrongFalsely : Prop := fnExactNamesTellRow.holds Tryz.pinned (OpenSpec.ofChange fnExactNamesTellWrong)

/-- 'laws.FnNamesTell': WHATEVER THE INPUT: true; the input reads as it did. -/
def fnNamesTellSpec : ChangeSpec := { name := "fnNamesTell", fn := fun _ => fun
  | [d] => { results := [.lit (.bool true)], args := [d] }
  | _ => none }
def fnNamesTellRow : OpenClaim := { program := "ytpjijpcemejlnaagreatdoor", sum := "109c9a334c7372df54864fb23590c6aa9ed7787ea93c4f9e0e1652da4f7b15cd", func := "loop.example/wireforms/laws.FnNamesTell", spec := "fnNamesTell", inPlace := ["internal/bytealg.IndexByteString", "internal/bytealg.IndexString", "internal/bytealg.CountString", "internal/abi.NoEscape", "internal/bytealg.MakeNoZero"], unfollowed := true, recurses := true, named := ["internal/bytealg.MaxLen", "unicode/utf8.first", "unicode/utf8.acceptRanges"], plainKeys := false, apart := false, laid := [("unicode/utf8.acceptRanges", laid_unicode_utf8_acceptRanges), ("unicode/utf8.first", laid_unicode_utf8_first)] }
def FnNamesTellSaid : Prop := fnNamesTellRow.holds Tryz.pinned (OpenSpec.ofChange fnNamesTellSpec)

/-- ITS FALSE NEIGHBOUR: 'it returns false'. Refute it at one input. -/
def fnNamesTellWrong : ChangeSpec := { name := "fnNamesTell", fn := fun _ => fun
  | [d] => { results := [.lit (.bool false)], args := [d] }
  | _ => none }
def FnNamesTellWrongFalsely : Prop := fnNamesTellRow.holds Tryz.pinned (OpenSpec.ofChange fnNamesTellWrong)

/-- 'laws.FnNamesPut': WHATEVER THE INPUT: true; the input reads as it did. -/
def fnNamesPutSpec : ChangeSpec := { name := "fnNamesPut", fn := fun _ => fun
  | [d] => { results := [.lit (.bool true)], args := [d] }
  | _ => none }
def fnNamesPutRow : OpenClaim := { program := "ytpjijpcemejlnaagreatdoor", sum := "109c9a334c7372df54864fb23590c6aa9ed7787ea93c4f9e0e1652da4f7b15cd", func := "loop.example/wireforms/laws.FnNamesPut", spec := "fnNamesPut", inPlace := ["internal/bytealg.IndexByteString", "internal/bytealg.IndexString", "internal/bytealg.CountString", "internal/abi.NoEscape", "internal/bytealg.MakeNoZero"], unfollowed := true, recurses := true, named := ["internal/bytealg.MaxLen", "unicode/utf8.first", "unicode/utf8.acceptRanges"], plainKeys := false, apart := false, laid := [("unicode/utf8.acceptRanges", laid_unicode_utf8_acceptRanges), ("unicode/utf8.first", laid_unicode_utf8_first)] }
def FnNamesPutSaid : Prop := fnNamesPutRow.holds Tryz.pinned (OpenSpec.ofChange fnNamesPutSpec)

/-- ITS FALSE NEIGHBOUR: 'it returns false'. Refute it at one input. -/
def fnNamesPutWrong : ChangeSpec := { name := "fnNamesPut", fn := fun _ => fun
  | [d] => { results := [.lit (.bool false)], args := [d] }
  | _ => none }
def FnNamesPutWrongFalsely : Prop := fnNamesPutRow.holds Tryz.pinned (OpenSpec.ofChange fnNamesPutWrong)

/-- 'laws.FnNamesOrder': WHATEVER THE INPUT: true; the input reads as it did. -/
def fnNamesOrderSpec : ChangeSpec := { name := "fnNamesOrder", fn := fun _ => fun
  | [d] => { results := [.lit (.bool true)], args := [d] }
  | _ => none }
def fnNamesOrderRow : OpenClaim := { program := "ytpjijpcemejlnaagreatdoor", sum := "109c9a334c7372df54864fb23590c6aa9ed7787ea93c4f9e0e1652da4f7b15cd", func := "loop.example/wireforms/laws.FnNamesOrder", spec := "fnNamesOrder", inPlace := ["internal/bytealg.IndexByteString", "internal/bytealg.IndexString", "internal/bytealg.CountString", "internal/abi.NoEscape", "internal/bytealg.MakeNoZero"], unfollowed := true, recurses := true, named := ["internal/bytealg.MaxLen", "unicode/utf8.first", "unicode/utf8.acceptRanges"], plainKeys := false, apart := false, laid := [("unicode/utf8.acceptRanges", laid_unicode_utf8_acceptRanges), ("unicode/utf8.first", laid_unicode_utf8_first)] }
def FnNamesOrderSaid : Prop := fnNamesOrderRow.holds Tryz.pinned (OpenSpec.ofChange fnNamesOrderSpec)

/-- ITS FALSE NEIGHBOUR: 'it returns false'. Refute it at one input. -/
def fnNamesOrderWrong : ChangeSpec := { name := "fnNamesOrder", fn := fun _ => fun
  | [d] => { results := [.lit (.bool false)], args := [d] }
  | _ => none }
def FnNamesOrderWrongFalsely : Prop := fnNamesOrderRow.holds Tryz.pinned (OpenSpec.ofChange fnNamesOrderWrong)

/- THE SECOND FORM. 'bulk': how many values and letters a reading holds, each counted each time it is reached (what is shared counts as often as it is met; a slice's spare places count too). A statement '..UptoSaid' is the law's where the arguments, and the package variables that the reading takes, are together of bulk at most 1048576: NARROWER than '..Said'. Prove '..Said' where nothing that the law and all that it calls make is longer than what came in: it says more and counts as full. Else prove '..UptoSaid'. A law counts once. -/
mutual
def uptoBulk {H : Type} : DataW H → Nat
  | .lit (.string bytes) => bytes.length + 1
  | .lit _ => 1
  | .nil => 1
  | .ptr d => uptoBulk d + 1
  | .slice elems spare => uptoBulkAll elems + uptoBulkAll spare + 1
  | .agg parts => uptoBulkAll parts + 1
  | .iface _ d => uptoBulk d + 1
  | .map entries => uptoBulkEntries entries + 1
  | .held _ => 1
def uptoBulkAll {H : Type} : List (DataW H) → Nat
  | [] => 0
  | d :: r => uptoBulk d + uptoBulkAll r
def uptoBulkEntries {H : Type} : List (Lit × DataW H) → Nat
  | [] => 0
  | x :: r => uptoBulkEntry x + uptoBulkEntries r
def uptoBulkEntry {H : Type} : Lit × DataW H → Nat
  | (.string bytes, d) => bytes.length + uptoBulk d + 1
  | (_, d) => uptoBulk d + 1
 end
def uptoSmall : (H : Type) → List (DataW H) → Bool := fun _ ds => decide (uptoBulkAll ds ≤ 1048576)
def OpenSpec.upto (s : _root_.Go.ChangeSpec) : _root_.Go.OpenSpec := { _root_.Go.OpenSpec.ofChange s with cond := some uptoSmall }

/-- 'laws.FnLiftTwice', WHERE WHAT IT READS IS OF BULK AT MOST 1048576: true; the input reads as it did. -/
def fnLiftTwiceUptoRow : OpenClaim := { program := "ytpjijpcemejlnaagreatdoor", sum := "109c9a334c7372df54864fb23590c6aa9ed7787ea93c4f9e0e1652da4f7b15cd", func := "loop.example/wireforms/laws.FnLiftTwice", spec := "fnLiftTwice", inPlace := ["internal/bytealg.IndexByteString", "internal/bytealg.IndexString", "internal/bytealg.CountString", "internal/abi.NoEscape", "internal/bytealg.MakeNoZero"], unfollowed := true, recurses := true, named := ["internal/bytealg.MaxLen", "unicode/utf8.first", "unicode/utf8.acceptRanges"], plainKeys := false, apart := false, laid := [("unicode/utf8.acceptRanges", laid_unicode_utf8_acceptRanges), ("unicode/utf8.first", laid_unicode_utf8_first)], narrowed := true }
def FnLiftTwiceUptoSaid : Prop := fnLiftTwiceUptoRow.holds Tryz.pinned (OpenSpec.upto fnLiftTwiceSpec)

/-- 'laws.FnEvolveLost', WHERE WHAT IT READS IS OF BULK AT MOST 1048576: true; the input reads as it did. -/
def fnEvolveLostUptoRow : OpenClaim := { program := "ytpjijpcemejlnaagreatdoor", sum := "109c9a334c7372df54864fb23590c6aa9ed7787ea93c4f9e0e1652da4f7b15cd", func := "loop.example/wireforms/laws.FnEvolveLost", spec := "fnEvolveLost", inPlace := ["internal/bytealg.IndexByteString", "internal/bytealg.IndexString", "internal/bytealg.CountString", "internal/abi.NoEscape", "internal/bytealg.MakeNoZero"], unfollowed := true, recurses := true, named := ["internal/bytealg.MaxLen", "unicode/utf8.first", "unicode/utf8.acceptRanges"], plainKeys := false, apart := false, laid := [("unicode/utf8.acceptRanges", laid_unicode_utf8_acceptRanges), ("unicode/utf8.first", laid_unicode_utf8_first)], narrowed := true }
def FnEvolveLostUptoSaid : Prop := fnEvolveLostUptoRow.holds Tryz.pinned (OpenSpec.upto fnEvolveLostSpec)

/-- 'laws.FnExactPathLeaves', WHERE WHAT IT READS IS OF BULK AT MOST 1048576: true; the input reads as it did. -/
def fnExactPathLeavesUptoRow : OpenClaim := { program := "ytpjijpcemejlnaagreatdoor", sum := "109c9a334c7372df54864fb23590c6aa9ed7787ea93c4f9e0e1652da4f7b15cd", func := "loop.example/wireforms/laws.FnExactPathLeaves", spec := "fnExactPathLeaves", inPlace := ["internal/bytealg.IndexByteString", "internal/bytealg.IndexString", "internal/bytealg.CountString", "internal/abi.NoEscape", "internal/bytealg.MakeNoZero"], unfollowed := true, recurses := true, named := ["internal/bytealg.MaxLen", "unicode/utf8.first", "unicode/utf8.acceptRanges"], plainKeys := false, apart := false, laid := [("unicode/utf8.acceptRanges", laid_unicode_utf8_acceptRanges), ("unicode/utf8.first", laid_unicode_utf8_first)], narrowed := true }
def FnExactPathLeavesUptoSaid : Prop := fnExactPathLeavesUptoRow.holds Tryz.pinned (OpenSpec.upto fnExactPathLeavesSpec)

/-- 'laws.FnExactNamesGet', WHERE WHAT IT READS IS OF BULK AT MOST 1048576: true; the input reads as it did. -/
def fnExactNamesGetUptoRow : OpenClaim := { program := "ytpjijpcemejlnaagreatdoor", sum := "109c9a334c7372df54864fb23590c6aa9ed7787ea93c4f9e0e1652da4f7b15cd", func := "loop.example/wireforms/laws.FnExactNamesGet", spec := "fnExactNamesGet", inPlace := ["internal/bytealg.IndexByteString", "internal/bytealg.IndexString", "internal/bytealg.CountString", "internal/abi.NoEscape", "internal/bytealg.MakeNoZero"], unfollowed := true, recurses := true, named := ["internal/bytealg.MaxLen", "unicode/utf8.first", "unicode/utf8.acceptRanges"], plainKeys := false, apart := false, laid := [("unicode/utf8.acceptRanges", laid_unicode_utf8_acceptRanges), ("unicode/utf8.first", laid_unicode_utf8_first)], narrowed := true }
def FnExactNamesGetUptoSaid : Prop := fnExactNamesGetUptoRow.holds Tryz.pinned (OpenSpec.upto fnExactNamesGetSpec)

/-- 'laws.FnExactNamesPut', WHERE WHAT IT READS IS OF BULK AT MOST 1048576: true; the input reads as it did. -/
def fnExactNamesPutUptoRow : OpenClaim := { program := "ytpjijpcemejlnaagreatdoor", sum := "109c9a334c7372df54864fb23590c6aa9ed7787ea93c4f9e0e1652da4f7b15cd", func := "loop.example/wireforms/laws.FnExactNamesPut", spec := "fnExactNamesPut", inPlace := ["internal/bytealg.IndexByteString", "internal/bytealg.IndexString", "internal/bytealg.CountString", "internal/abi.NoEscape", "internal/bytealg.MakeNoZero"], unfollowed := true, recurses := true, named := ["internal/bytealg.MaxLen", "unicode/utf8.first", "unicode/utf8.acceptRanges"], plainKeys := false, apart := false, laid := [("unicode/utf8.acceptRanges", laid_unicode_utf8_acceptRanges), ("unicode/utf8.first", laid_unicode_utf8_first)], narrowed := true }
def FnExactNamesPutUptoSaid : Prop := fnExactNamesPutUptoRow.holds Tryz.pinned (OpenSpec.upto fnExactNamesPutSpec)

/-- 'laws.FnExactNamesTell', WHERE WHAT IT READS IS OF BULK AT MOST 1048576: true; the input reads as it did. -/
def fnExactNamesTellUptoRow : OpenClaim := { program := "ytpjijpcemejlnaagreatdoor", sum := "109c9a334c7372df54864fb23590c6aa9ed7787ea93c4f9e0e1652da4f7b15cd", func := "loop.example/wireforms/laws.FnExactNamesTell", spec := "fnExactNamesTell", inPlace := ["internal/bytealg.IndexByteString", "internal/bytealg.IndexString", "internal/bytealg.CountString", "internal/abi.NoEscape", "internal/bytealg.MakeNoZero"], unfollowed := true, recurses := true, named := ["internal/bytealg.MaxLen", "unicode/utf8.first", "unicode/utf8.acceptRanges"], plainKeys := false, apart := false, laid := [("unicode/utf8.acceptRanges", laid_unicode_utf8_acceptRanges), ("unicode/utf8.first", laid_unicode_utf8_first)], narrowed := true }
def FnExactNamesTellUptoSaid : Prop := fnExactNamesTellUptoRow.holds Tryz.pinned (OpenSpec.upto fnExactNamesTellSpec)

/-- 'laws.FnNamesTell', WHERE WHAT IT READS IS OF BULK AT MOST 1048576: true; the input reads as it did. -/
def fnNamesTellUptoRow : OpenClaim := { program := "ytpjijpcemejlnaagreatdoor", sum := "109c9a334c7372df54864fb23590c6aa9ed7787ea93c4f9e0e1652da4f7b15cd", func := "loop.example/wireforms/laws.FnNamesTell", spec := "fnNamesTell", inPlace := ["internal/bytealg.IndexByteString", "internal/bytealg.IndexString", "internal/bytealg.CountString", "internal/abi.NoEscape", "internal/bytealg.MakeNoZero"], unfollowed := true, recurses := true, named := ["internal/bytealg.MaxLen", "unicode/utf8.first", "unicode/utf8.acceptRanges"], plainKeys := false, apart := false, laid := [("unicode/utf8.acceptRanges", laid_unicode_utf8_acceptRanges), ("unicode/utf8.first", laid_unicode_utf8_first)], narrowed := true }
def FnNamesTellUptoSaid : Prop := fnNamesTellUptoRow.holds Tryz.pinned (OpenSpec.upto fnNamesTellSpec)

/-- 'laws.FnNamesPut', WHERE WHAT IT READS IS OF BULK AT MOST 1048576: true; the input reads as it did. -/
def fnNamesPutUptoRow : OpenClaim := { program := "ytpjijpcemejlnaagreatdoor", sum := "109c9a334c7372df54864fb23590c6aa9ed7787ea93c4f9e0e1652da4f7b15cd", func := "loop.example/wireforms/laws.FnNamesPut", spec := "fnNamesPut", inPlace := ["internal/bytealg.IndexByteString", "internal/bytealg.IndexString", "internal/bytealg.CountString", "internal/abi.NoEscape", "internal/bytealg.MakeNoZero"], unfollowed := true, recurses := true, named := ["internal/bytealg.MaxLen", "unicode/utf8.first", "unicode/utf8.acceptRanges"], plainKeys := false, apart := false, laid := [("unicode/utf8.acceptRanges", laid_unicode_utf8_acceptRanges), ("unicode/utf8.first", laid_unicode_utf8_first)], narrowed := true }
def FnNamesPutUptoSaid : Prop := fnNamesPutUptoRow.holds Tryz.pinned (OpenSpec.upto fnNamesPutSpec)

/-- 'laws.FnNamesOrder', WHERE WHAT IT READS IS OF BULK AT MOST 1048576: true; the input reads as it did. -/
def fnNamesOrderUptoRow : OpenClaim := { program := "ytpjijpcemejlnaagreatdoor", sum := "109c9a334c7372df54864fb23590c6aa9ed7787ea93c4f9e0e1652da4f7b15cd", func := "loop.example/wireforms/laws.FnNamesOrder", spec := "fnNamesOrder", inPlace := ["internal/bytealg.IndexByteString", "internal/bytealg.IndexString", "internal/bytealg.CountString", "internal/abi.NoEscape", "internal/bytealg.MakeNoZero"], unfollowed := true, recurses := true, named := ["internal/bytealg.MaxLen", "unicode/utf8.first", "unicode/utf8.acceptRanges"], plainKeys := false, apart := false, laid := [("unicode/utf8.acceptRanges", laid_unicode_utf8_acceptRanges), ("unicode/utf8.first", laid_unicode_utf8_first)], narrowed := true }
def FnNamesOrderUptoSaid : Prop := fnNamesOrderUptoRow.holds Tryz.pinned (OpenSpec.upto fnNamesOrderSpec)

end Rows
end Go.Proofs.YtpjijpcemejlnaaGreatDoor
