/-
  DERIVED. GIVEN WITH THE SEED: THE CARDS: each row of YtpjijpcemejlnaaGreatDoorRows.lean that lists a variable, with what it lists TIED to the program's text (the seventh form; the later family's looks); each row that meets fmt, with fmt's text TOLD by the authors' own Lean function (tested against real Go, not proved from fmt's source: count such statements apart). THE CARD IS WHAT COUNTS. Prove the row's statement (the work); the ties are given (YtpjijpcemejlnaaGreatDoorTie.lean); close each card by the builder's one call (the guide's Derived/Test/ToyasCard.lean, 'card_holds'). Laid BY PROGRAM, IN A SANDBOX (cutbox-door.mjs). By AI agents, Wed Nov 11 2026. No macro, syntax, notation, axiom, sorry.
-/
import Derived.Test.YtpjijpcemejlnaaGreatDoorRows
import GoSem.ClaimSeven
namespace Go.Proofs.YtpjijpcemejlnaaGreatDoor
namespace Rows

/-- THE TIED CARD OF 'laws.FnLiftTwice'. -/
def fnLiftTwiceCard : Claim7 := { stood := { row := fnLiftTwiceRow, standIns := [], harness := (true, "8f33693a6efdbc0969545fb54424a606e2074328f6bef282871ff5ecd07af660"), looks := false }, kinds := [], alts := [], laidByText := true, laidKinds := [.data, .pinned], laidTests := true, laidLooks := .later }
def FnLiftTwiceCardSaid : Prop := Claim7.holds Tryz.pinned (.plain (OpenSpec.ofChange fnLiftTwiceSpec)) fnLiftTwiceCard

/-- THE TIED CARD OF 'laws.FnEvolveLost'. -/
def fnEvolveLostCard : Claim7 := { stood := { row := fnEvolveLostRow, standIns := [], harness := (true, "8f33693a6efdbc0969545fb54424a606e2074328f6bef282871ff5ecd07af660"), looks := false }, kinds := [], alts := [], laidByText := true, laidKinds := [.data, .pinned], laidTests := true, laidLooks := .later }
def FnEvolveLostCardSaid : Prop := Claim7.holds Tryz.pinned (.plain (OpenSpec.ofChange fnEvolveLostSpec)) fnEvolveLostCard

/-- THE TIED CARD OF 'laws.FnExactPathLeaves'. -/
def fnExactPathLeavesCard : Claim7 := { stood := { row := fnExactPathLeavesRow, standIns := [], harness := (true, "8f33693a6efdbc0969545fb54424a606e2074328f6bef282871ff5ecd07af660"), looks := false }, kinds := [], alts := [], laidByText := true, laidKinds := [.data, .pinned], laidTests := true, laidLooks := .later }
def FnExactPathLeavesCardSaid : Prop := Claim7.holds Tryz.pinned (.plain (OpenSpec.ofChange fnExactPathLeavesSpec)) fnExactPathLeavesCard

/-- THE TIED CARD OF 'laws.FnExactNamesGet'. -/
def fnExactNamesGetCard : Claim7 := { stood := { row := fnExactNamesGetRow, standIns := [], harness := (true, "8f33693a6efdbc0969545fb54424a606e2074328f6bef282871ff5ecd07af660"), looks := false }, kinds := [], alts := [], laidByText := true, laidKinds := [.data, .pinned], laidTests := true, laidLooks := .later }
def FnExactNamesGetCardSaid : Prop := Claim7.holds Tryz.pinned (.plain (OpenSpec.ofChange fnExactNamesGetSpec)) fnExactNamesGetCard

/-- THE TIED CARD OF 'laws.FnExactNamesPut'. -/
def fnExactNamesPutCard : Claim7 := { stood := { row := fnExactNamesPutRow, standIns := [], harness := (true, "8f33693a6efdbc0969545fb54424a606e2074328f6bef282871ff5ecd07af660"), looks := false }, kinds := [], alts := [], laidByText := true, laidKinds := [.data, .pinned], laidTests := true, laidLooks := .later }
def FnExactNamesPutCardSaid : Prop := Claim7.holds Tryz.pinned (.plain (OpenSpec.ofChange fnExactNamesPutSpec)) fnExactNamesPutCard

/-- THE TIED CARD OF 'laws.FnExactNamesTell'. -/
def fnExactNamesTellCard : Claim7 := { stood := { row := fnExactNamesTellRow, standIns := [], harness := (true, "8f33693a6efdbc0969545fb54424a606e2074328f6bef282871ff5ecd07af660"), looks := false }, kinds := [], alts := [], laidByText := true, laidKinds := [.data, .pinned], laidTests := true, laidLooks := .later }
def FnExactNamesTellCardSaid : Prop := Claim7.holds Tryz.pinned (.plain (OpenSpec.ofChange fnExactNamesTellSpec)) fnExactNamesTellCard

/-- THE TIED CARD OF 'laws.FnNamesTell'. -/
def fnNamesTellCard : Claim7 := { stood := { row := fnNamesTellRow, standIns := [], harness := (true, "8f33693a6efdbc0969545fb54424a606e2074328f6bef282871ff5ecd07af660"), looks := false }, kinds := [], alts := [], laidByText := true, laidKinds := [.data, .pinned], laidTests := true, laidLooks := .later }
def FnNamesTellCardSaid : Prop := Claim7.holds Tryz.pinned (.plain (OpenSpec.ofChange fnNamesTellSpec)) fnNamesTellCard

/-- THE TIED CARD OF 'laws.FnNamesPut'. -/
def fnNamesPutCard : Claim7 := { stood := { row := fnNamesPutRow, standIns := [], harness := (true, "8f33693a6efdbc0969545fb54424a606e2074328f6bef282871ff5ecd07af660"), looks := false }, kinds := [], alts := [], laidByText := true, laidKinds := [.data, .pinned], laidTests := true, laidLooks := .later }
def FnNamesPutCardSaid : Prop := Claim7.holds Tryz.pinned (.plain (OpenSpec.ofChange fnNamesPutSpec)) fnNamesPutCard

/-- THE TIED CARD OF 'laws.FnNamesOrder'. -/
def fnNamesOrderCard : Claim7 := { stood := { row := fnNamesOrderRow, standIns := [], harness := (true, "8f33693a6efdbc0969545fb54424a606e2074328f6bef282871ff5ecd07af660"), looks := false }, kinds := [], alts := [], laidByText := true, laidKinds := [.data, .pinned], laidTests := true, laidLooks := .later }
def FnNamesOrderCardSaid : Prop := Claim7.holds Tryz.pinned (.plain (OpenSpec.ofChange fnNamesOrderSpec)) fnNamesOrderCard

/-- THE SECOND FORM's CARD OF 'laws.FnLiftTwice'. -/
def fnLiftTwiceUptoCard : Claim7 := { stood := { row := fnLiftTwiceUptoRow, standIns := [], harness := (true, "8f33693a6efdbc0969545fb54424a606e2074328f6bef282871ff5ecd07af660"), looks := false }, kinds := [], alts := [], laidByText := true, laidKinds := [.data, .pinned], laidTests := true, laidLooks := .later }
def FnLiftTwiceUptoCardSaid : Prop := Claim7.holds Tryz.pinned (.plain (OpenSpec.upto fnLiftTwiceSpec)) fnLiftTwiceUptoCard

/-- THE SECOND FORM's CARD OF 'laws.FnEvolveLost'. -/
def fnEvolveLostUptoCard : Claim7 := { stood := { row := fnEvolveLostUptoRow, standIns := [], harness := (true, "8f33693a6efdbc0969545fb54424a606e2074328f6bef282871ff5ecd07af660"), looks := false }, kinds := [], alts := [], laidByText := true, laidKinds := [.data, .pinned], laidTests := true, laidLooks := .later }
def FnEvolveLostUptoCardSaid : Prop := Claim7.holds Tryz.pinned (.plain (OpenSpec.upto fnEvolveLostSpec)) fnEvolveLostUptoCard

/-- THE SECOND FORM's CARD OF 'laws.FnExactPathLeaves'. -/
def fnExactPathLeavesUptoCard : Claim7 := { stood := { row := fnExactPathLeavesUptoRow, standIns := [], harness := (true, "8f33693a6efdbc0969545fb54424a606e2074328f6bef282871ff5ecd07af660"), looks := false }, kinds := [], alts := [], laidByText := true, laidKinds := [.data, .pinned], laidTests := true, laidLooks := .later }
def FnExactPathLeavesUptoCardSaid : Prop := Claim7.holds Tryz.pinned (.plain (OpenSpec.upto fnExactPathLeavesSpec)) fnExactPathLeavesUptoCard

/-- THE SECOND FORM's CARD OF 'laws.FnExactNamesGet'. -/
def fnExactNamesGetUptoCard : Claim7 := { stood := { row := fnExactNamesGetUptoRow, standIns := [], harness := (true, "8f33693a6efdbc0969545fb54424a606e2074328f6bef282871ff5ecd07af660"), looks := false }, kinds := [], alts := [], laidByText := true, laidKinds := [.data, .pinned], laidTests := true, laidLooks := .later }
def FnExactNamesGetUptoCardSaid : Prop := Claim7.holds Tryz.pinned (.plain (OpenSpec.upto fnExactNamesGetSpec)) fnExactNamesGetUptoCard

/-- THE SECOND FORM's CARD OF 'laws.FnExactNamesPut'. -/
def fnExactNamesPutUptoCard : Claim7 := { stood := { row := fnExactNamesPutUptoRow, standIns := [], harness := (true, "8f33693a6efdbc0969545fb54424a606e2074328f6bef282871ff5ecd07af660"), looks := false }, kinds := [], alts := [], laidByText := true, laidKinds := [.data, .pinned], laidTests := true, laidLooks := .later }
def FnExactNamesPutUptoCardSaid : Prop := Claim7.holds Tryz.pinned (.plain (OpenSpec.upto fnExactNamesPutSpec)) fnExactNamesPutUptoCard

/-- THE SECOND FORM's CARD OF 'laws.FnExactNamesTell'. -/
def fnExactNamesTellUptoCard : Claim7 := { stood := { row := fnExactNamesTellUptoRow, standIns := [], harness := (true, "8f33693a6efdbc0969545fb54424a606e2074328f6bef282871ff5ecd07af660"), looks := false }, kinds := [], alts := [], laidByText := true, laidKinds := [.data, .pinned], laidTests := true, laidLooks := .later }
def FnExactNamesTellUptoCardSaid : Prop := Claim7.holds Tryz.pinned (.plain (OpenSpec.upto fnExactNamesTellSpec)) fnExactNamesTellUptoCard

/-- THE SECOND FORM's CARD OF 'laws.FnNamesTell'. -/
def fnNamesTellUptoCard : Claim7 := { stood := { row := fnNamesTellUptoRow, standIns := [], harness := (true, "8f33693a6efdbc0969545fb54424a606e2074328f6bef282871ff5ecd07af660"), looks := false }, kinds := [], alts := [], laidByText := true, laidKinds := [.data, .pinned], laidTests := true, laidLooks := .later }
def FnNamesTellUptoCardSaid : Prop := Claim7.holds Tryz.pinned (.plain (OpenSpec.upto fnNamesTellSpec)) fnNamesTellUptoCard

/-- THE SECOND FORM's CARD OF 'laws.FnNamesPut'. -/
def fnNamesPutUptoCard : Claim7 := { stood := { row := fnNamesPutUptoRow, standIns := [], harness := (true, "8f33693a6efdbc0969545fb54424a606e2074328f6bef282871ff5ecd07af660"), looks := false }, kinds := [], alts := [], laidByText := true, laidKinds := [.data, .pinned], laidTests := true, laidLooks := .later }
def FnNamesPutUptoCardSaid : Prop := Claim7.holds Tryz.pinned (.plain (OpenSpec.upto fnNamesPutSpec)) fnNamesPutUptoCard

/-- THE SECOND FORM's CARD OF 'laws.FnNamesOrder'. -/
def fnNamesOrderUptoCard : Claim7 := { stood := { row := fnNamesOrderUptoRow, standIns := [], harness := (true, "8f33693a6efdbc0969545fb54424a606e2074328f6bef282871ff5ecd07af660"), looks := false }, kinds := [], alts := [], laidByText := true, laidKinds := [.data, .pinned], laidTests := true, laidLooks := .later }
def FnNamesOrderUptoCardSaid : Prop := Claim7.holds Tryz.pinned (.plain (OpenSpec.upto fnNamesOrderSpec)) fnNamesOrderUptoCard
end Rows
end Go.Proofs.YtpjijpcemejlnaaGreatDoor
