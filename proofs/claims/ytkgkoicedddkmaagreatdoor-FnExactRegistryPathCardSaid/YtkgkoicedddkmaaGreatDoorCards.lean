/-
  DERIVED. GIVEN WITH THE SEED: THE CARDS: each row of YtkgkoicedddkmaaGreatDoorRows.lean that lists a variable, with what it lists TIED to the program's text (the seventh form; the later family's looks); each row that meets fmt, with fmt's text TOLD by the authors' own Lean function (tested against real Go, not proved from fmt's source: count such statements apart). THE CARD IS WHAT COUNTS. Prove the row's statement (the work); the ties are given (YtkgkoicedddkmaaGreatDoorTie.lean); close each card by the builder's one call (the guide's Derived/Test/ToyasCard.lean, 'card_holds'). Laid BY PROGRAM, IN A SANDBOX (cutbox-door.mjs). By AI agents, Wed Nov 11 2026. No macro, syntax, notation, axiom, sorry.
-/
import Derived.Test.YtkgkoicedddkmaaGreatDoorRows
import GoSem.ClaimSeven
namespace Go.Proofs.YtkgkoicedddkmaaGreatDoor
namespace Rows

/-- THE TIED CARD OF 'laws.FnExactEvolveLift'. -/
def fnExactEvolveLiftCard : Claim7 := { stood := { row := fnExactEvolveLiftRow, standIns := [], harness := (true, "5b9a41b7e69d906dffdb0f0c385d050b7a794a22155309c8dedb680e6cc5b557"), looks := false }, kinds := [], alts := [], laidByText := true, laidKinds := [.data, .pinned], laidTests := true, laidLooks := .later }
def FnExactEvolveLiftCardSaid : Prop := Claim7.holds Tryz.pinned (.plain (OpenSpec.ofChange fnExactEvolveLiftSpec)) fnExactEvolveLiftCard

/-- THE TIED CARD OF 'laws.FnExactEvolveLost'. -/
def fnExactEvolveLostCard : Claim7 := { stood := { row := fnExactEvolveLostRow, standIns := [], harness := (true, "5b9a41b7e69d906dffdb0f0c385d050b7a794a22155309c8dedb680e6cc5b557"), looks := false }, kinds := [], alts := [], laidByText := true, laidKinds := [.data, .pinned], laidTests := true, laidLooks := .later }
def FnExactEvolveLostCardSaid : Prop := Claim7.holds Tryz.pinned (.plain (OpenSpec.ofChange fnExactEvolveLostSpec)) fnExactEvolveLostCard

/-- THE TIED CARD OF 'laws.FnExactRegistryPath'. -/
def fnExactRegistryPathCard : Claim7 := { stood := { row := fnExactRegistryPathRow, standIns := [], harness := (true, "5b9a41b7e69d906dffdb0f0c385d050b7a794a22155309c8dedb680e6cc5b557"), looks := false }, kinds := [], alts := [], laidByText := true, laidKinds := [.data, .pinned], laidTests := true, laidLooks := .later }
def FnExactRegistryPathCardSaid : Prop := Claim7.holds Tryz.pinned (.plain (OpenSpec.ofChange fnExactRegistryPathSpec)) fnExactRegistryPathCard

/-- THE SECOND FORM's CARD OF 'laws.FnExactEvolveLift'. -/
def fnExactEvolveLiftUptoCard : Claim7 := { stood := { row := fnExactEvolveLiftUptoRow, standIns := [], harness := (true, "5b9a41b7e69d906dffdb0f0c385d050b7a794a22155309c8dedb680e6cc5b557"), looks := false }, kinds := [], alts := [], laidByText := true, laidKinds := [.data, .pinned], laidTests := true, laidLooks := .later }
def FnExactEvolveLiftUptoCardSaid : Prop := Claim7.holds Tryz.pinned (.plain (OpenSpec.upto fnExactEvolveLiftSpec)) fnExactEvolveLiftUptoCard

/-- THE SECOND FORM's CARD OF 'laws.FnExactEvolveLost'. -/
def fnExactEvolveLostUptoCard : Claim7 := { stood := { row := fnExactEvolveLostUptoRow, standIns := [], harness := (true, "5b9a41b7e69d906dffdb0f0c385d050b7a794a22155309c8dedb680e6cc5b557"), looks := false }, kinds := [], alts := [], laidByText := true, laidKinds := [.data, .pinned], laidTests := true, laidLooks := .later }
def FnExactEvolveLostUptoCardSaid : Prop := Claim7.holds Tryz.pinned (.plain (OpenSpec.upto fnExactEvolveLostSpec)) fnExactEvolveLostUptoCard

/-- THE SECOND FORM's CARD OF 'laws.FnExactRegistryPath'. -/
def fnExactRegistryPathUptoCard : Claim7 := { stood := { row := fnExactRegistryPathUptoRow, standIns := [], harness := (true, "5b9a41b7e69d906dffdb0f0c385d050b7a794a22155309c8dedb680e6cc5b557"), looks := false }, kinds := [], alts := [], laidByText := true, laidKinds := [.data, .pinned], laidTests := true, laidLooks := .later }
def FnExactRegistryPathUptoCardSaid : Prop := Claim7.holds Tryz.pinned (.plain (OpenSpec.upto fnExactRegistryPathSpec)) fnExactRegistryPathUptoCard
end Rows
end Go.Proofs.YtkgkoicedddkmaaGreatDoor
