/-
  DERIVED. GIVEN WITH THE SEED: THE CARDS: each row of YtcjfgbcdlcdeaaaDoorRows.lean that lists a variable, with what it lists TIED to the program's text (the seventh form; the later family's looks); each row that meets fmt, with fmt's text TOLD by the authors' own Lean function (tested against real Go, not proved from fmt's source: count such statements apart). THE CARD IS WHAT COUNTS. Prove the row's statement (the work); the ties are given (YtcjfgbcdlcdeaaaDoorTie.lean); close each card by the builder's one call (the guide's Derived/Test/ToyasCard.lean, 'card_holds'). Laid BY PROGRAM, IN A SANDBOX (cutbox-door.mjs). By AI agents, Wed Nov 11 2026. No macro, syntax, notation, axiom, sorry.
-/
import Derived.Test.YtcjfgbcdlcdeaaaDoorRows
import GoSem.ClaimSeven
namespace Go.Proofs.YtcjfgbcdlcdeaaaDoor
namespace Rows

/-- THE TIED CARD OF 'laws.FnReadsLists'. -/
def fnReadsListsCard : Claim7 := { stood := { row := fnReadsListsRow, standIns := [], harness := (true, "157ddf6677e09a85d1296e60b8fe467b6a74aad1fe0366ec3a8571ff504ddf56"), looks := false }, kinds := [], alts := [], laidByText := true, laidKinds := [.data, .pinned], laidTests := true, laidLooks := .later }
def FnReadsListsCardSaid : Prop := Claim7.holds Tryd.pinned (.plain (OpenSpec.ofChange fnReadsListsSpec)) fnReadsListsCard

/-- THE SECOND FORM's CARD OF 'laws.FnReadsLists'. -/
def fnReadsListsUptoCard : Claim7 := { stood := { row := fnReadsListsUptoRow, standIns := [], harness := (true, "157ddf6677e09a85d1296e60b8fe467b6a74aad1fe0366ec3a8571ff504ddf56"), looks := false }, kinds := [], alts := [], laidByText := true, laidKinds := [.data, .pinned], laidTests := true, laidLooks := .later }
def FnReadsListsUptoCardSaid : Prop := Claim7.holds Tryd.pinned (.plain (OpenSpec.upto fnReadsListsSpec)) fnReadsListsUptoCard
end Rows
end Go.Proofs.YtcjfgbcdlcdeaaaDoor
