/-
  No cell of these rows narrows 'for every input' (looked for: loops, veiled, ifaces, maps, wideKeys, modest, calm, conditions, laid).
  DERIVED. THE GIVEN ROWS OF THIS SEAT. 12 by the template 'for every input the law returns true; each argument reads behind the call as it read before'; 0 by the template 'total and deterministic' (their statements: YtjbpjpakcpjheaaTotals.lean).
  GIVEN WITH THE SEED: the statements are not yours to turn. If you find one false, say at which input.
  Laid BY PROGRAM, IN A SANDBOX (cutbox-rows.mjs): the forced cells as the released guide's own fill.sh prints them over the translation d316d52016d31ee4… (all of the seat's roots in one cut). By AI agents, Wed Nov 11 2026. No macro, syntax, notation, axiom, sorry.
-/
import Derived.Test.YtjbpjpakcpjheaaChecked
import GoSem.Claim
import GoSem.ClaimJoined
import GoSem.ClaimMapViews
import Derived.JoinedTies
import Derived.KernelRfl
namespace Go.Proofs.Ytjbpjpakcpjheaa
/- THE CELL 'sum', in the pinned program and in every row, IS THE sha256 OF THE DUMP (.gsa) THAT YtjbpjpakcpjheaaProg.lean LOADS. Nothing in Lean hashes anything: it is a label: what it is worth is what the hold of that sum in a sandbox is worth. -/
noncomputable def Try.pinned : Pinned := { name := "ytjbpjpakcpjheaa", sum := "d316d52016d31ee43f3a028b84a764623b242f3f90f7611969fb704a5977963b", checked := Try.checked }
namespace Rows
def none {H : Type} : Left H := { results := [], args := [] }

/-- 'laws.FnExactSumOf': WHATEVER THE INPUT: true; the input reads as it did. -/
def fnExactSumOfSpec : ChangeSpec := { name := "fnExactSumOf", fn := fun _ => fun
  | [d] => { results := [.lit (.bool true)], args := [d] }
  | _ => none }
def fnExactSumOfRow : OpenClaim := { program := "ytjbpjpakcpjheaa", sum := "d316d52016d31ee43f3a028b84a764623b242f3f90f7611969fb704a5977963b", func := "loop.example/wireforms/laws.FnExactSumOf", spec := "fnExactSumOf", apart := false }
def FnExactSumOfSaid : Prop := fnExactSumOfRow.holds Try.pinned (OpenSpec.ofChange fnExactSumOfSpec)

/-- ITS FALSE NEIGHBOUR: 'it returns false'. Refute it at one input. -/
def fnExactSumOfWrong : ChangeSpec := { name := "fnExactSumOf", fn := fun _ => fun
  | [d] => { results := [.lit (.bool false)], args := [d] }
  | _ => none }
def FnExactSumOfWrongFalsely : Prop := fnExactSumOfRow.holds Try.pinned (OpenSpec.ofChange fnExactSumOfWrong)

/-- 'laws.FnExactFramePut': WHATEVER THE INPUT: true; the input reads as it did. -/
def fnExactFramePutSpec : ChangeSpec := { name := "fnExactFramePut", fn := fun _ => fun
  | [d] => { results := [.lit (.bool true)], args := [d] }
  | _ => none }
def fnExactFramePutRow : OpenClaim := { program := "ytjbpjpakcpjheaa", sum := "d316d52016d31ee43f3a028b84a764623b242f3f90f7611969fb704a5977963b", func := "loop.example/wireforms/laws.FnExactFramePut", spec := "fnExactFramePut", recurses := true, apart := false }
def FnExactFramePutSaid : Prop := fnExactFramePutRow.holds Try.pinned (OpenSpec.ofChange fnExactFramePutSpec)

/-- ITS FALSE NEIGHBOUR: 'it returns false'. Refute it at one input. -/
def fnExactFramePutWrong : ChangeSpec := { name := "fnExactFramePut", fn := fun _ => fun
  | [d] => { results := [.lit (.bool false)], args := [d] }
  | _ => none }
def FnExactFramePutWrongFalsely : Prop := fnExactFramePutRow.holds Try.pinned (OpenSpec.ofChange fnExactFramePutWrong)

/-- 'laws.FnSumOf': WHATEVER THE INPUT: true; the input reads as it did. -/
def fnSumOfSpec : ChangeSpec := { name := "fnSumOf", fn := fun _ => fun
  | [d1, d2] => { results := [.lit (.bool true)], args := [d1, d2] }
  | _ => none }
def fnSumOfRow : OpenClaim := { program := "ytjbpjpakcpjheaa", sum := "d316d52016d31ee43f3a028b84a764623b242f3f90f7611969fb704a5977963b", func := "loop.example/wireforms/laws.FnSumOf", spec := "fnSumOf", recurses := true, apart := false }
def FnSumOfSaid : Prop := fnSumOfRow.holds Try.pinned (OpenSpec.ofChange fnSumOfSpec)

/-- ITS FALSE NEIGHBOUR: 'it returns false'. Refute it at one input. -/
def fnSumOfWrong : ChangeSpec := { name := "fnSumOf", fn := fun _ => fun
  | [d1, d2] => { results := [.lit (.bool false)], args := [d1, d2] }
  | _ => none }
def FnSumOfWrongFalsely : Prop := fnSumOfRow.holds Try.pinned (OpenSpec.ofChange fnSumOfWrong)

/-- 'laws.FnExactFramesPut': WHATEVER THE INPUT: true; the input reads as it did. -/
def fnExactFramesPutSpec : ChangeSpec := { name := "fnExactFramesPut", fn := fun _ => fun
  | [d] => { results := [.lit (.bool true)], args := [d] }
  | _ => none }
def fnExactFramesPutRow : OpenClaim := { program := "ytjbpjpakcpjheaa", sum := "d316d52016d31ee43f3a028b84a764623b242f3f90f7611969fb704a5977963b", func := "loop.example/wireforms/laws.FnExactFramesPut", spec := "fnExactFramesPut", inPlace := ["internal/abi.NoEscape"], recurses := true, apart := false }
def FnExactFramesPutSaid : Prop := fnExactFramesPutRow.holds Try.pinned (OpenSpec.ofChange fnExactFramesPutSpec)

/-- ITS FALSE NEIGHBOUR: 'it returns false'. Refute it at one input. -/
def fnExactFramesPutWrong : ChangeSpec := { name := "fnExactFramesPut", fn := fun _ => fun
  | [d] => { results := [.lit (.bool false)], args := [d] }
  | _ => none }
def FnExactFramesPutWrongFalsely : Prop := fnExactFramesPutRow.holds Try.pinned (OpenSpec.ofChange fnExactFramesPutWrong)

/-- 'laws.FnFramePut': WHATEVER THE INPUT: true; the input reads as it did. -/
def fnFramePutSpec : ChangeSpec := { name := "fnFramePut", fn := fun _ => fun
  | [d] => { results := [.lit (.bool true)], args := [d] }
  | _ => none }
def fnFramePutRow : OpenClaim := { program := "ytjbpjpakcpjheaa", sum := "d316d52016d31ee43f3a028b84a764623b242f3f90f7611969fb704a5977963b", func := "loop.example/wireforms/laws.FnFramePut", spec := "fnFramePut", recurses := true, apart := false }
def FnFramePutSaid : Prop := fnFramePutRow.holds Try.pinned (OpenSpec.ofChange fnFramePutSpec)

/-- ITS FALSE NEIGHBOUR: 'it returns false'. Refute it at one input. -/
def fnFramePutWrong : ChangeSpec := { name := "fnFramePut", fn := fun _ => fun
  | [d] => { results := [.lit (.bool false)], args := [d] }
  | _ => none }
def FnFramePutWrongFalsely : Prop := fnFramePutRow.holds Try.pinned (OpenSpec.ofChange fnFramePutWrong)

/-- 'laws.FnFramesJunk': WHATEVER THE INPUT: true; the input reads as it did. -/
def fnFramesJunkSpec : ChangeSpec := { name := "fnFramesJunk", fn := fun _ => fun
  | [d1, d2] => { results := [.lit (.bool true)], args := [d1, d2] }
  | _ => none }
def fnFramesJunkRow : OpenClaim := { program := "ytjbpjpakcpjheaa", sum := "d316d52016d31ee43f3a028b84a764623b242f3f90f7611969fb704a5977963b", func := "loop.example/wireforms/laws.FnFramesJunk", spec := "fnFramesJunk", inPlace := ["internal/abi.NoEscape"], recurses := true, apart := false }
def FnFramesJunkSaid : Prop := fnFramesJunkRow.holds Try.pinned (OpenSpec.ofChange fnFramesJunkSpec)

/-- ITS FALSE NEIGHBOUR: 'it returns false'. Refute it at one input. -/
def fnFramesJunkWrong : ChangeSpec := { name := "fnFramesJunk", fn := fun _ => fun
  | [d1, d2] => { results := [.lit (.bool false)], args := [d1, d2] }
  | _ => none }
def FnFramesJunkWrongFalsely : Prop := fnFramesJunkRow.holds Try.pinned (OpenSpec.ofChange fnFramesJunkWrong)

/-- 'laws.FnFramesPut': WHATEVER THE INPUT: true; the input reads as it did. -/
def fnFramesPutSpec : ChangeSpec := { name := "fnFramesPut", fn := fun _ => fun
  | [d] => { results := [.lit (.bool true)], args := [d] }
  | _ => none }
def fnFramesPutRow : OpenClaim := { program := "ytjbpjpakcpjheaa", sum := "d316d52016d31ee43f3a028b84a764623b242f3f90f7611969fb704a5977963b", func := "loop.example/wireforms/laws.FnFramesPut", spec := "fnFramesPut", inPlace := ["internal/abi.NoEscape"], recurses := true, apart := false }
def FnFramesPutSaid : Prop := fnFramesPutRow.holds Try.pinned (OpenSpec.ofChange fnFramesPutSpec)

/-- ITS FALSE NEIGHBOUR: 'it returns false'. Refute it at one input. -/
def fnFramesPutWrong : ChangeSpec := { name := "fnFramesPut", fn := fun _ => fun
  | [d] => { results := [.lit (.bool false)], args := [d] }
  | _ => none }
def FnFramesPutWrongFalsely : Prop := fnFramesPutRow.holds Try.pinned (OpenSpec.ofChange fnFramesPutWrong)

/-- 'laws.FnExactFramesGet': WHATEVER THE INPUT: true; the input reads as it did. -/
def fnExactFramesGetSpec : ChangeSpec := { name := "fnExactFramesGet", fn := fun _ => fun
  | [d] => { results := [.lit (.bool true)], args := [d] }
  | _ => none }
def fnExactFramesGetRow : OpenClaim := { program := "ytjbpjpakcpjheaa", sum := "d316d52016d31ee43f3a028b84a764623b242f3f90f7611969fb704a5977963b", func := "loop.example/wireforms/laws.FnExactFramesGet", spec := "fnExactFramesGet", recurses := true, apart := false }
def FnExactFramesGetSaid : Prop := fnExactFramesGetRow.holds Try.pinned (OpenSpec.ofChange fnExactFramesGetSpec)

/-- ITS FALSE NEIGHBOUR: 'it returns false'. Refute it at one input. -/
def fnExactFramesGetWrong : ChangeSpec := { name := "fnExactFramesGet", fn := fun _ => fun
  | [d] => { results := [.lit (.bool false)], args := [d] }
  | _ => none }
def FnExactFramesGetWrongFalsely : Prop := fnExactFramesGetRow.holds Try.pinned (OpenSpec.ofChange fnExactFramesGetWrong)

/-- 'laws.FnFramesAhead': WHATEVER THE INPUT: true; the input reads as it did. -/
def fnFramesAheadSpec : ChangeSpec := { name := "fnFramesAhead", fn := fun _ => fun
  | [d1, d2] => { results := [.lit (.bool true)], args := [d1, d2] }
  | _ => none }
def fnFramesAheadRow : OpenClaim := { program := "ytjbpjpakcpjheaa", sum := "d316d52016d31ee43f3a028b84a764623b242f3f90f7611969fb704a5977963b", func := "loop.example/wireforms/laws.FnFramesAhead", spec := "fnFramesAhead", inPlace := ["internal/abi.NoEscape"], recurses := true, apart := false }
def FnFramesAheadSaid : Prop := fnFramesAheadRow.holds Try.pinned (OpenSpec.ofChange fnFramesAheadSpec)

/-- ITS FALSE NEIGHBOUR: 'it returns false'. Refute it at one input. -/
def fnFramesAheadWrong : ChangeSpec := { name := "fnFramesAhead", fn := fun _ => fun
  | [d1, d2] => { results := [.lit (.bool false)], args := [d1, d2] }
  | _ => none }
def FnFramesAheadWrongFalsely : Prop := fnFramesAheadRow.holds Try.pinned (OpenSpec.ofChange fnFramesAheadWrong)

/-- 'laws.FnExactFramesFeed': WHATEVER THE INPUT: true; the input reads as it did. -/
def fnExactFramesFeedSpec : ChangeSpec := { name := "fnExactFramesFeed", fn := fun _ => fun
  | [d1, d2] => { results := [.lit (.bool true)], args := [d1, d2] }
  | _ => none }
def fnExactFramesFeedRow : OpenClaim := { program := "ytjbpjpakcpjheaa", sum := "d316d52016d31ee43f3a028b84a764623b242f3f90f7611969fb704a5977963b", func := "loop.example/wireforms/laws.FnExactFramesFeed", spec := "fnExactFramesFeed", recurses := true, apart := false }
def FnExactFramesFeedSaid : Prop := fnExactFramesFeedRow.holds Try.pinned (OpenSpec.ofChange fnExactFramesFeedSpec)

/-- ITS FALSE NEIGHBOUR: 'it returns false'. Refute it at one input. -/
def fnExactFramesFeedWrong : ChangeSpec := { name := "fnExactFramesFeed", fn := fun _ => fun
  | [d1, d2] => { results := [.lit (.bool false)], args := [d1, d2] }
  | _ => none }
def FnExactFramesFeedWrongFalsely : Prop := fnExactFramesFeedRow.holds Try.pinned (OpenSpec.ofChange fnExactFramesFeedWrong)

/-- 'laws.FnFramesGet': WHATEVER THE INPUT: true; the input reads as it did. -/
def fnFramesGetSpec : ChangeSpec := { name := "fnFramesGet", fn := fun _ => fun
  | [d] => { results := [.lit (.bool true)], args := [d] }
  | _ => none }
def fnFramesGetRow : OpenClaim := { program := "ytjbpjpakcpjheaa", sum := "d316d52016d31ee43f3a028b84a764623b242f3f90f7611969fb704a5977963b", func := "loop.example/wireforms/laws.FnFramesGet", spec := "fnFramesGet", recurses := true, apart := false }
def FnFramesGetSaid : Prop := fnFramesGetRow.holds Try.pinned (OpenSpec.ofChange fnFramesGetSpec)

/-- ITS FALSE NEIGHBOUR: 'it returns false'. Refute it at one input. -/
def fnFramesGetWrong : ChangeSpec := { name := "fnFramesGet", fn := fun _ => fun
  | [d] => { results := [.lit (.bool false)], args := [d] }
  | _ => none }
def FnFramesGetWrongFalsely : Prop := fnFramesGetRow.holds Try.pinned (OpenSpec.ofChange fnFramesGetWrong)

/-- 'laws.FnFramesFeed': WHATEVER THE INPUT: true; the input reads as it did. -/
def fnFramesFeedSpec : ChangeSpec := { name := "fnFramesFeed", fn := fun _ => fun
  | [d1, d2] => { results := [.lit (.bool true)], args := [d1, d2] }
  | _ => none }
def fnFramesFeedRow : OpenClaim := { program := "ytjbpjpakcpjheaa", sum := "d316d52016d31ee43f3a028b84a764623b242f3f90f7611969fb704a5977963b", func := "loop.example/wireforms/laws.FnFramesFeed", spec := "fnFramesFeed", recurses := true, apart := false }
def FnFramesFeedSaid : Prop := fnFramesFeedRow.holds Try.pinned (OpenSpec.ofChange fnFramesFeedSpec)

/-- ITS FALSE NEIGHBOUR: 'it returns false'. Refute it at one input. -/
def fnFramesFeedWrong : ChangeSpec := { name := "fnFramesFeed", fn := fun _ => fun
  | [d1, d2] => { results := [.lit (.bool false)], args := [d1, d2] }
  | _ => none }
def FnFramesFeedWrongFalsely : Prop := fnFramesFeedRow.holds Try.pinned (OpenSpec.ofChange fnFramesFeedWrong)

/- THE SECOND FORM. 'bulk': how many values and letters a reading holds, each counted each time it is reached (what is shared counts as often as it is met; a slice's spare places count too). A statement '..UptoSaid' is the law's where the arguments, and the package variables that the reading takes, are together of bulk at most 1048576: NARROWER than '..Said'. Prove '..Said' where nothing that the law and all that it calls make is longer than what came in: it says more and counts as full. Else prove '..UptoSaid'. A law counts once. -/
mutual
def uptoBulk {H : Type} : DataW H → Nat
  | .lit (.string bytes) => bytes.length + 1
  | .lit _ => 1
  | .nil => 1
  | .ptr d => uptoBulk d + 1
  | .slice elems spare => uptoBulkAll elems + uptoBulkAll spare + 1
  | .agg parts => uptoBulkAll parts + 1
  | .iface _ d => uptoBulk d + 1
  | .map entries => uptoBulkEntries entries + 1
  | .held _ => 1
def uptoBulkAll {H : Type} : List (DataW H) → Nat
  | [] => 0
  | d :: r => uptoBulk d + uptoBulkAll r
def uptoBulkEntries {H : Type} : List (Lit × DataW H) → Nat
  | [] => 0
  | x :: r => uptoBulkEntry x + uptoBulkEntries r
def uptoBulkEntry {H : Type} : Lit × DataW H → Nat
  | (.string bytes, d) => bytes.length + uptoBulk d + 1
  | (_, d) => uptoBulk d + 1
 end
def uptoSmall : (H : Type) → List (DataW H) → Bool := fun _ ds => decide (uptoBulkAll ds ≤ 1048576)
def OpenSpec.upto (s : _root_.Go.ChangeSpec) : _root_.Go.OpenSpec := { _root_.Go.OpenSpec.ofChange s with cond := some uptoSmall }

/-- 'laws.FnExactSumOf', WHERE WHAT IT READS IS OF BULK AT MOST 1048576: true; the input reads as it did. -/
def fnExactSumOfUptoRow : OpenClaim := { program := "ytjbpjpakcpjheaa", sum := "d316d52016d31ee43f3a028b84a764623b242f3f90f7611969fb704a5977963b", func := "loop.example/wireforms/laws.FnExactSumOf", spec := "fnExactSumOf", apart := false, narrowed := true }
def FnExactSumOfUptoSaid : Prop := fnExactSumOfUptoRow.holds Try.pinned (OpenSpec.upto fnExactSumOfSpec)

/-- 'laws.FnExactFramePut', WHERE WHAT IT READS IS OF BULK AT MOST 1048576: true; the input reads as it did. -/
def fnExactFramePutUptoRow : OpenClaim := { program := "ytjbpjpakcpjheaa", sum := "d316d52016d31ee43f3a028b84a764623b242f3f90f7611969fb704a5977963b", func := "loop.example/wireforms/laws.FnExactFramePut", spec := "fnExactFramePut", recurses := true, apart := false, narrowed := true }
def FnExactFramePutUptoSaid : Prop := fnExactFramePutUptoRow.holds Try.pinned (OpenSpec.upto fnExactFramePutSpec)

/-- 'laws.FnSumOf', WHERE WHAT IT READS IS OF BULK AT MOST 1048576: true; the input reads as it did. -/
def fnSumOfUptoRow : OpenClaim := { program := "ytjbpjpakcpjheaa", sum := "d316d52016d31ee43f3a028b84a764623b242f3f90f7611969fb704a5977963b", func := "loop.example/wireforms/laws.FnSumOf", spec := "fnSumOf", recurses := true, apart := false, narrowed := true }
def FnSumOfUptoSaid : Prop := fnSumOfUptoRow.holds Try.pinned (OpenSpec.upto fnSumOfSpec)

/-- 'laws.FnExactFramesPut', WHERE WHAT IT READS IS OF BULK AT MOST 1048576: true; the input reads as it did. -/
def fnExactFramesPutUptoRow : OpenClaim := { program := "ytjbpjpakcpjheaa", sum := "d316d52016d31ee43f3a028b84a764623b242f3f90f7611969fb704a5977963b", func := "loop.example/wireforms/laws.FnExactFramesPut", spec := "fnExactFramesPut", inPlace := ["internal/abi.NoEscape"], recurses := true, apart := false, narrowed := true }
def FnExactFramesPutUptoSaid : Prop := fnExactFramesPutUptoRow.holds Try.pinned (OpenSpec.upto fnExactFramesPutSpec)

/-- 'laws.FnFramePut', WHERE WHAT IT READS IS OF BULK AT MOST 1048576: true; the input reads as it did. -/
def fnFramePutUptoRow : OpenClaim := { program := "ytjbpjpakcpjheaa", sum := "d316d52016d31ee43f3a028b84a764623b242f3f90f7611969fb704a5977963b", func := "loop.example/wireforms/laws.FnFramePut", spec := "fnFramePut", recurses := true, apart := false, narrowed := true }
def FnFramePutUptoSaid : Prop := fnFramePutUptoRow.holds Try.pinned (OpenSpec.upto fnFramePutSpec)

/-- 'laws.FnFramesJunk', WHERE WHAT IT READS IS OF BULK AT MOST 1048576: true; the input reads as it did. -/
def fnFramesJunkUptoRow : OpenClaim := { program := "ytjbpjpakcpjheaa", sum := "d316d52016d31ee43f3a028b84a764623b242f3f90f7611969fb704a5977963b", func := "loop.example/wireforms/laws.FnFramesJunk", spec := "fnFramesJunk", inPlace := ["internal/abi.NoEscape"], recurses := true, apart := false, narrowed := true }
def FnFramesJunkUptoSaid : Prop := fnFramesJunkUptoRow.holds Try.pinned (OpenSpec.upto fnFramesJunkSpec)

/-- 'laws.FnFramesPut', WHERE WHAT IT READS IS OF BULK AT MOST 1048576: true; the input reads as it did. -/
def fnFramesPutUptoRow : OpenClaim := { program := "ytjbpjpakcpjheaa", sum := "d316d52016d31ee43f3a028b84a764623b242f3f90f7611969fb704a5977963b", func := "loop.example/wireforms/laws.FnFramesPut", spec := "fnFramesPut", inPlace := ["internal/abi.NoEscape"], recurses := true, apart := false, narrowed := true }
def FnFramesPutUptoSaid : Prop := fnFramesPutUptoRow.holds Try.pinned (OpenSpec.upto fnFramesPutSpec)

/-- 'laws.FnExactFramesGet', WHERE WHAT IT READS IS OF BULK AT MOST 1048576: true; the input reads as it did. -/
def fnExactFramesGetUptoRow : OpenClaim := { program := "ytjbpjpakcpjheaa", sum := "d316d52016d31ee43f3a028b84a764623b242f3f90f7611969fb704a5977963b", func := "loop.example/wireforms/laws.FnExactFramesGet", spec := "fnExactFramesGet", recurses := true, apart := false, narrowed := true }
def FnExactFramesGetUptoSaid : Prop := fnExactFramesGetUptoRow.holds Try.pinned (OpenSpec.upto fnExactFramesGetSpec)

/-- 'laws.FnFramesAhead', WHERE WHAT IT READS IS OF BULK AT MOST 1048576: true; the input reads as it did. -/
def fnFramesAheadUptoRow : OpenClaim := { program := "ytjbpjpakcpjheaa", sum := "d316d52016d31ee43f3a028b84a764623b242f3f90f7611969fb704a5977963b", func := "loop.example/wireforms/laws.FnFramesAhead", spec := "fnFramesAhead", inPlace := ["internal/abi.NoEscape"], recurses := true, apart := false, narrowed := true }
def FnFramesAheadUptoSaid : Prop := fnFramesAheadUptoRow.holds Try.pinned (OpenSpec.upto fnFramesAheadSpec)

/-- 'laws.FnExactFramesFeed', WHERE WHAT IT READS IS OF BULK AT MOST 1048576: true; the input reads as it did. -/
def fnExactFramesFeedUptoRow : OpenClaim := { program := "ytjbpjpakcpjheaa", sum := "d316d52016d31ee43f3a028b84a764623b242f3f90f7611969fb704a5977963b", func := "loop.example/wireforms/laws.FnExactFramesFeed", spec := "fnExactFramesFeed", recurses := true, apart := false, narrowed := true }
def FnExactFramesFeedUptoSaid : Prop := fnExactFramesFeedUptoRow.holds Try.pinned (OpenSpec.upto fnExactFramesFeedSpec)

/-- 'laws.FnFramesGet', WHERE WHAT IT READS IS OF BULK AT MOST 1048576: true; the input reads as it did. -/
def fnFramesGetUptoRow : OpenClaim := { program := "ytjbpjpakcpjheaa", sum := "d316d52016d31ee43f3a028b84a764623b242f3f90f7611969fb704a5977963b", func := "loop.example/wireforms/laws.FnFramesGet", spec := "fnFramesGet", recurses := true, apart := false, narrowed := true }
def FnFramesGetUptoSaid : Prop := fnFramesGetUptoRow.holds Try.pinned (OpenSpec.upto fnFramesGetSpec)

/-- 'laws.FnFramesFeed', WHERE WHAT IT READS IS OF BULK AT MOST 1048576: true; the input reads as it did. -/
def fnFramesFeedUptoRow : OpenClaim := { program := "ytjbpjpakcpjheaa", sum := "d316d52016d31ee43f3a028b84a764623b242f3f90f7611969fb704a5977963b", func := "loop.example/wireforms/laws.FnFramesFeed", spec := "fnFramesFeed", recurses := true, apart := false, narrowed := true }
def FnFramesFeedUptoSaid : Prop := fnFramesFeedUptoRow.holds Try.pinned (OpenSpec.upto fnFramesFeedSpec)

end Rows
end Go.Proofs.Ytjbpjpakcpjheaa
