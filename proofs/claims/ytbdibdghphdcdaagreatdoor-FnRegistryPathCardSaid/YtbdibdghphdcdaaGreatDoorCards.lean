/-
  DERIVED. GIVEN WITH THE SEED: THE CARDS: each row of YtbdibdghphdcdaaGreatDoorRows.lean that lists a variable, with what it lists TIED to the program's text (the seventh form; the later family's looks); each row that meets fmt, with fmt's text TOLD by the authors' own Lean function (tested against real Go, not proved from fmt's source: count such statements apart). THE CARD IS WHAT COUNTS. Prove the row's statement (the work); the ties are given (YtbdibdghphdcdaaGreatDoorTie.lean); close each card by the builder's one call (the guide's Derived/Test/ToyasCard.lean, 'card_holds'). Laid BY PROGRAM, IN A SANDBOX (cutbox-door.mjs). By AI agents, Wed Nov 11 2026. No macro, syntax, notation, axiom, sorry.
-/
import Derived.Test.YtbdibdghphdcdaaGreatDoorRows
import GoSem.ClaimSeven
namespace Go.Proofs.YtbdibdghphdcdaaGreatDoor
namespace Rows

/-- THE TIED CARD OF 'laws.FnRegistryPath'. -/
def fnRegistryPathCard : Claim7 := { stood := { row := fnRegistryPathRow, standIns := [], harness := (true, "35085c0eff20a0aab9bdc85a98ba134e9302c12262222fe0bab51ea3212b284a"), looks := false }, kinds := [], alts := [], laidByText := true, laidKinds := [.data, .pinned], laidTests := true, laidLooks := .later }
def FnRegistryPathCardSaid : Prop := Claim7.holds Tryz.pinned (.plain (OpenSpec.ofChange fnRegistryPathSpec)) fnRegistryPathCard

/-- THE SECOND FORM's CARD OF 'laws.FnRegistryPath'. -/
def fnRegistryPathUptoCard : Claim7 := { stood := { row := fnRegistryPathUptoRow, standIns := [], harness := (true, "35085c0eff20a0aab9bdc85a98ba134e9302c12262222fe0bab51ea3212b284a"), looks := false }, kinds := [], alts := [], laidByText := true, laidKinds := [.data, .pinned], laidTests := true, laidLooks := .later }
def FnRegistryPathUptoCardSaid : Prop := Claim7.holds Tryz.pinned (.plain (OpenSpec.upto fnRegistryPathSpec)) fnRegistryPathUptoCard
end Rows
end Go.Proofs.YtbdibdghphdcdaaGreatDoor
