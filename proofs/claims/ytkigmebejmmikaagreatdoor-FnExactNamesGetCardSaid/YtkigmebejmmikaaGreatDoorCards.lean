/-
  DERIVED. GIVEN WITH THE SEED: THE CARDS: each row of YtkigmebejmmikaaGreatDoorRows.lean that lists a variable, with what it lists TIED to the program's text (the seventh form; the later family's looks); each row that meets fmt, with fmt's text TOLD by the authors' own Lean function (tested against real Go, not proved from fmt's source: count such statements apart). THE CARD IS WHAT COUNTS. Prove the row's statement (the work); the ties are given (YtkigmebejmmikaaGreatDoorTie.lean); close each card by the builder's one call (the guide's Derived/Test/ToyasCard.lean, 'card_holds'). Laid BY PROGRAM, IN A SANDBOX (cutbox-door.mjs). By AI agents, Wed Nov 11 2026. No macro, syntax, notation, axiom, sorry.
-/
import Derived.Test.YtkigmebejmmikaaGreatDoorRows
import GoSem.ClaimSeven
namespace Go.Proofs.YtkigmebejmmikaaGreatDoor
namespace Rows

/-- THE TIED CARD OF 'laws.FnExactNamesPut'. -/
def fnExactNamesPutCard : Claim7 := { stood := { row := fnExactNamesPutRow, standIns := [], harness := (true, "58c339c30e6e8030d0df4b4e2da9e5de00e5e4d593f60ddfa46f995c686dddc5"), looks := false }, kinds := [], alts := [], laidByText := true, laidKinds := [.data, .pinned], laidTests := true, laidLooks := .later }
def FnExactNamesPutCardSaid : Prop := Claim7.holds Tryz.pinned (.plain (OpenSpec.ofChange fnExactNamesPutSpec)) fnExactNamesPutCard

/-- THE TIED CARD OF 'laws.FnExactNamesGet'. -/
def fnExactNamesGetCard : Claim7 := { stood := { row := fnExactNamesGetRow, standIns := [], harness := (true, "58c339c30e6e8030d0df4b4e2da9e5de00e5e4d593f60ddfa46f995c686dddc5"), looks := false }, kinds := [], alts := [], laidByText := true, laidKinds := [.data, .pinned], laidTests := true, laidLooks := .later }
def FnExactNamesGetCardSaid : Prop := Claim7.holds Tryz.pinned (.plain (OpenSpec.ofChange fnExactNamesGetSpec)) fnExactNamesGetCard

/-- THE TIED CARD OF 'laws.FnNamesPut'. -/
def fnNamesPutCard : Claim7 := { stood := { row := fnNamesPutRow, standIns := [], harness := (true, "58c339c30e6e8030d0df4b4e2da9e5de00e5e4d593f60ddfa46f995c686dddc5"), looks := false }, kinds := [], alts := [], laidByText := true, laidKinds := [.data, .pinned], laidTests := true, laidLooks := .later }
def FnNamesPutCardSaid : Prop := Claim7.holds Tryz.pinned (.plain (OpenSpec.ofChange fnNamesPutSpec)) fnNamesPutCard

/-- THE TIED CARD OF 'laws.FnNamesGet'. -/
def fnNamesGetCard : Claim7 := { stood := { row := fnNamesGetRow, standIns := [], harness := (true, "58c339c30e6e8030d0df4b4e2da9e5de00e5e4d593f60ddfa46f995c686dddc5"), looks := false }, kinds := [], alts := [], laidByText := true, laidKinds := [.data, .pinned], laidTests := true, laidLooks := .later }
def FnNamesGetCardSaid : Prop := Claim7.holds Tryz.pinned (.plain (OpenSpec.ofChange fnNamesGetSpec)) fnNamesGetCard

/-- THE TIED CARD OF 'laws.FnNamesOrder'. -/
def fnNamesOrderCard : Claim7 := { stood := { row := fnNamesOrderRow, standIns := [], harness := (true, "58c339c30e6e8030d0df4b4e2da9e5de00e5e4d593f60ddfa46f995c686dddc5"), looks := false }, kinds := [], alts := [], laidByText := true, laidKinds := [.data, .pinned], laidTests := true, laidLooks := .later }
def FnNamesOrderCardSaid : Prop := Claim7.holds Tryz.pinned (.plain (OpenSpec.ofChange fnNamesOrderSpec)) fnNamesOrderCard

/-- THE SECOND FORM's CARD OF 'laws.FnExactNamesPut'. -/
def fnExactNamesPutUptoCard : Claim7 := { stood := { row := fnExactNamesPutUptoRow, standIns := [], harness := (true, "58c339c30e6e8030d0df4b4e2da9e5de00e5e4d593f60ddfa46f995c686dddc5"), looks := false }, kinds := [], alts := [], laidByText := true, laidKinds := [.data, .pinned], laidTests := true, laidLooks := .later }
def FnExactNamesPutUptoCardSaid : Prop := Claim7.holds Tryz.pinned (.plain (OpenSpec.upto fnExactNamesPutSpec)) fnExactNamesPutUptoCard

/-- THE SECOND FORM's CARD OF 'laws.FnExactNamesGet'. -/
def fnExactNamesGetUptoCard : Claim7 := { stood := { row := fnExactNamesGetUptoRow, standIns := [], harness := (true, "58c339c30e6e8030d0df4b4e2da9e5de00e5e4d593f60ddfa46f995c686dddc5"), looks := false }, kinds := [], alts := [], laidByText := true, laidKinds := [.data, .pinned], laidTests := true, laidLooks := .later }
def FnExactNamesGetUptoCardSaid : Prop := Claim7.holds Tryz.pinned (.plain (OpenSpec.upto fnExactNamesGetSpec)) fnExactNamesGetUptoCard

/-- THE SECOND FORM's CARD OF 'laws.FnNamesPut'. -/
def fnNamesPutUptoCard : Claim7 := { stood := { row := fnNamesPutUptoRow, standIns := [], harness := (true, "58c339c30e6e8030d0df4b4e2da9e5de00e5e4d593f60ddfa46f995c686dddc5"), looks := false }, kinds := [], alts := [], laidByText := true, laidKinds := [.data, .pinned], laidTests := true, laidLooks := .later }
def FnNamesPutUptoCardSaid : Prop := Claim7.holds Tryz.pinned (.plain (OpenSpec.upto fnNamesPutSpec)) fnNamesPutUptoCard

/-- THE SECOND FORM's CARD OF 'laws.FnNamesGet'. -/
def fnNamesGetUptoCard : Claim7 := { stood := { row := fnNamesGetUptoRow, standIns := [], harness := (true, "58c339c30e6e8030d0df4b4e2da9e5de00e5e4d593f60ddfa46f995c686dddc5"), looks := false }, kinds := [], alts := [], laidByText := true, laidKinds := [.data, .pinned], laidTests := true, laidLooks := .later }
def FnNamesGetUptoCardSaid : Prop := Claim7.holds Tryz.pinned (.plain (OpenSpec.upto fnNamesGetSpec)) fnNamesGetUptoCard

/-- THE SECOND FORM's CARD OF 'laws.FnNamesOrder'. -/
def fnNamesOrderUptoCard : Claim7 := { stood := { row := fnNamesOrderUptoRow, standIns := [], harness := (true, "58c339c30e6e8030d0df4b4e2da9e5de00e5e4d593f60ddfa46f995c686dddc5"), looks := false }, kinds := [], alts := [], laidByText := true, laidKinds := [.data, .pinned], laidTests := true, laidLooks := .later }
def FnNamesOrderUptoCardSaid : Prop := Claim7.holds Tryz.pinned (.plain (OpenSpec.upto fnNamesOrderSpec)) fnNamesOrderUptoCard
end Rows
end Go.Proofs.YtkigmebejmmikaaGreatDoor
