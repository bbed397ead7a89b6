/-
  DERIVED. GIVEN WITH THE SEED: THE CARDS: each row of YtcjfgbcdlcdeaaaGreatDoorRows.lean that lists a variable, with what it lists TIED to the program's text (the seventh form; the later family's looks); each row that meets fmt, with fmt's text TOLD by the authors' own Lean function (tested against real Go, not proved from fmt's source: count such statements apart). THE CARD IS WHAT COUNTS. Prove the row's statement (the work); the ties are given (YtcjfgbcdlcdeaaaGreatDoorTie.lean); close each card by the builder's one call (the guide's Derived/Test/ToyasCard.lean, 'card_holds'). Laid BY PROGRAM, IN A SANDBOX (cutbox-door.mjs). By AI agents, Wed Nov 11 2026. No macro, syntax, notation, axiom, sorry.
-/
import Derived.Test.YtcjfgbcdlcdeaaaGreatDoorRows
import GoSem.ClaimSeven
namespace Go.Proofs.YtcjfgbcdlcdeaaaGreatDoor
namespace Rows

/-- THE TIED CARD OF 'laws.FnExactRegistryAdd'. -/
def fnExactRegistryAddCard : Claim7 := { stood := { row := fnExactRegistryAddRow, standIns := [], harness := (true, "1e0412fb6ffe1d84bb99066d80dbab38c839ae9abd78439ee9ae23015362c1a2"), looks := false }, kinds := [], alts := [], laidByText := true, laidKinds := [.data, .pinned], laidTests := true, laidLooks := .later }
def FnExactRegistryAddCardSaid : Prop := Claim7.holds Tryz.pinned (.plain (OpenSpec.ofChange fnExactRegistryAddSpec)) fnExactRegistryAddCard

/-- THE TIED CARD OF 'laws.FnRegistryAdd'. -/
def fnRegistryAddCard : Claim7 := { stood := { row := fnRegistryAddRow, standIns := [], harness := (true, "1e0412fb6ffe1d84bb99066d80dbab38c839ae9abd78439ee9ae23015362c1a2"), looks := false }, kinds := [], alts := [], laidByText := true, laidKinds := [.data, .pinned], laidTests := true, laidLooks := .later }
def FnRegistryAddCardSaid : Prop := Claim7.holds Tryz.pinned (.plain (OpenSpec.ofChange fnRegistryAddSpec)) fnRegistryAddCard

/-- THE TIED CARD OF 'laws.FnExactEvolveLift'. -/
def fnExactEvolveLiftCard : Claim7 := { stood := { row := fnExactEvolveLiftRow, standIns := [], harness := (true, "1e0412fb6ffe1d84bb99066d80dbab38c839ae9abd78439ee9ae23015362c1a2"), looks := false }, kinds := [], alts := [], laidByText := true, laidKinds := [.data, .pinned], laidTests := true, laidLooks := .later }
def FnExactEvolveLiftCardSaid : Prop := Claim7.holds Tryz.pinned (.plain (OpenSpec.ofChange fnExactEvolveLiftSpec)) fnExactEvolveLiftCard

/-- THE TIED CARD OF 'laws.FnExactEvolveLost'. -/
def fnExactEvolveLostCard : Claim7 := { stood := { row := fnExactEvolveLostRow, standIns := [], harness := (true, "1e0412fb6ffe1d84bb99066d80dbab38c839ae9abd78439ee9ae23015362c1a2"), looks := false }, kinds := [], alts := [], laidByText := true, laidKinds := [.data, .pinned], laidTests := true, laidLooks := .later }
def FnExactEvolveLostCardSaid : Prop := Claim7.holds Tryz.pinned (.plain (OpenSpec.ofChange fnExactEvolveLostSpec)) fnExactEvolveLostCard

/-- THE TIED CARD OF 'laws.FnExactRegistryPath'. -/
def fnExactRegistryPathCard : Claim7 := { stood := { row := fnExactRegistryPathRow, standIns := [], harness := (true, "1e0412fb6ffe1d84bb99066d80dbab38c839ae9abd78439ee9ae23015362c1a2"), looks := false }, kinds := [], alts := [], laidByText := true, laidKinds := [.data, .pinned], laidTests := true, laidLooks := .later }
def FnExactRegistryPathCardSaid : Prop := Claim7.holds Tryz.pinned (.plain (OpenSpec.ofChange fnExactRegistryPathSpec)) fnExactRegistryPathCard

/-- THE TIED CARD OF 'laws.FnLiftTwice'. -/
def fnLiftTwiceCard : Claim7 := { stood := { row := fnLiftTwiceRow, standIns := [], harness := (true, "1e0412fb6ffe1d84bb99066d80dbab38c839ae9abd78439ee9ae23015362c1a2"), looks := false }, kinds := [], alts := [], laidByText := true, laidKinds := [.data, .pinned], laidTests := true, laidLooks := .later }
def FnLiftTwiceCardSaid : Prop := Claim7.holds Tryz.pinned (.plain (OpenSpec.ofChange fnLiftTwiceSpec)) fnLiftTwiceCard

/-- THE TIED CARD OF 'laws.FnEvolveLost'. -/
def fnEvolveLostCard : Claim7 := { stood := { row := fnEvolveLostRow, standIns := [], harness := (true, "1e0412fb6ffe1d84bb99066d80dbab38c839ae9abd78439ee9ae23015362c1a2"), looks := false }, kinds := [], alts := [], laidByText := true, laidKinds := [.data, .pinned], laidTests := true, laidLooks := .later }
def FnEvolveLostCardSaid : Prop := Claim7.holds Tryz.pinned (.plain (OpenSpec.ofChange fnEvolveLostSpec)) fnEvolveLostCard

/-- THE TIED CARD OF 'laws.FnRegistryPath'. -/
def fnRegistryPathCard : Claim7 := { stood := { row := fnRegistryPathRow, standIns := [], harness := (true, "1e0412fb6ffe1d84bb99066d80dbab38c839ae9abd78439ee9ae23015362c1a2"), looks := false }, kinds := [], alts := [], laidByText := true, laidKinds := [.data, .pinned], laidTests := true, laidLooks := .later }
def FnRegistryPathCardSaid : Prop := Claim7.holds Tryz.pinned (.plain (OpenSpec.ofChange fnRegistryPathSpec)) fnRegistryPathCard

/-- THE TIED CARD OF 'laws.FnExactPathLeaves'. -/
def fnExactPathLeavesCard : Claim7 := { stood := { row := fnExactPathLeavesRow, standIns := [], harness := (true, "1e0412fb6ffe1d84bb99066d80dbab38c839ae9abd78439ee9ae23015362c1a2"), looks := false }, kinds := [], alts := [], laidByText := true, laidKinds := [.data, .pinned], laidTests := true, laidLooks := .later }
def FnExactPathLeavesCardSaid : Prop := Claim7.holds Tryz.pinned (.plain (OpenSpec.ofChange fnExactPathLeavesSpec)) fnExactPathLeavesCard

/-- THE TIED CARD OF 'laws.FnLiftField'. -/
def fnLiftFieldCard : Claim7 := { stood := { row := fnLiftFieldRow, standIns := [], harness := (true, "1e0412fb6ffe1d84bb99066d80dbab38c839ae9abd78439ee9ae23015362c1a2"), looks := false }, kinds := [], alts := [], laidByText := true, laidKinds := [.data, .pinned], laidTests := true, laidLooks := .later }
def FnLiftFieldCardSaid : Prop := Claim7.holds Tryz.pinned (.plain (OpenSpec.ofChange fnLiftFieldSpec)) fnLiftFieldCard

/-- THE SECOND FORM's CARD OF 'laws.FnExactRegistryAdd'. -/
def fnExactRegistryAddUptoCard : Claim7 := { stood := { row := fnExactRegistryAddUptoRow, standIns := [], harness := (true, "1e0412fb6ffe1d84bb99066d80dbab38c839ae9abd78439ee9ae23015362c1a2"), looks := false }, kinds := [], alts := [], laidByText := true, laidKinds := [.data, .pinned], laidTests := true, laidLooks := .later }
def FnExactRegistryAddUptoCardSaid : Prop := Claim7.holds Tryz.pinned (.plain (OpenSpec.upto fnExactRegistryAddSpec)) fnExactRegistryAddUptoCard

/-- THE SECOND FORM's CARD OF 'laws.FnRegistryAdd'. -/
def fnRegistryAddUptoCard : Claim7 := { stood := { row := fnRegistryAddUptoRow, standIns := [], harness := (true, "1e0412fb6ffe1d84bb99066d80dbab38c839ae9abd78439ee9ae23015362c1a2"), looks := false }, kinds := [], alts := [], laidByText := true, laidKinds := [.data, .pinned], laidTests := true, laidLooks := .later }
def FnRegistryAddUptoCardSaid : Prop := Claim7.holds Tryz.pinned (.plain (OpenSpec.upto fnRegistryAddSpec)) fnRegistryAddUptoCard

/-- THE SECOND FORM's CARD OF 'laws.FnExactEvolveLift'. -/
def fnExactEvolveLiftUptoCard : Claim7 := { stood := { row := fnExactEvolveLiftUptoRow, standIns := [], harness := (true, "1e0412fb6ffe1d84bb99066d80dbab38c839ae9abd78439ee9ae23015362c1a2"), looks := false }, kinds := [], alts := [], laidByText := true, laidKinds := [.data, .pinned], laidTests := true, laidLooks := .later }
def FnExactEvolveLiftUptoCardSaid : Prop := Claim7.holds Tryz.pinned (.plain (OpenSpec.upto fnExactEvolveLiftSpec)) fnExactEvolveLiftUptoCard

/-- THE SECOND FORM's CARD OF 'laws.FnExactEvolveLost'. -/
def fnExactEvolveLostUptoCard : Claim7 := { stood := { row := fnExactEvolveLostUptoRow, standIns := [], harness := (true, "1e0412fb6ffe1d84bb99066d80dbab38c839ae9abd78439ee9ae23015362c1a2"), looks := false }, kinds := [], alts := [], laidByText := true, laidKinds := [.data, .pinned], laidTests := true, laidLooks := .later }
def FnExactEvolveLostUptoCardSaid : Prop := Claim7.holds Tryz.pinned (.plain (OpenSpec.upto fnExactEvolveLostSpec)) fnExactEvolveLostUptoCard

/-- THE SECOND FORM's CARD OF 'laws.FnExactRegistryPath'. -/
def fnExactRegistryPathUptoCard : Claim7 := { stood := { row := fnExactRegistryPathUptoRow, standIns := [], harness := (true, "1e0412fb6ffe1d84bb99066d80dbab38c839ae9abd78439ee9ae23015362c1a2"), looks := false }, kinds := [], alts := [], laidByText := true, laidKinds := [.data, .pinned], laidTests := true, laidLooks := .later }
def FnExactRegistryPathUptoCardSaid : Prop := Claim7.holds Tryz.pinned (.plain (OpenSpec.upto fnExactRegistryPathSpec)) fnExactRegistryPathUptoCard

/-- THE SECOND FORM's CARD OF 'laws.FnLiftTwice'. -/
def fnLiftTwiceUptoCard : Claim7 := { stood := { row := fnLiftTwiceUptoRow, standIns := [], harness := (true, "1e0412fb6ffe1d84bb99066d80dbab38c839ae9abd78439ee9ae23015362c1a2"), looks := false }, kinds := [], alts := [], laidByText := true, laidKinds := [.data, .pinned], laidTests := true, laidLooks := .later }
def FnLiftTwiceUptoCardSaid : Prop := Claim7.holds Tryz.pinned (.plain (OpenSpec.upto fnLiftTwiceSpec)) fnLiftTwiceUptoCard

/-- THE SECOND FORM's CARD OF 'laws.FnEvolveLost'. -/
def fnEvolveLostUptoCard : Claim7 := { stood := { row := fnEvolveLostUptoRow, standIns := [], harness := (true, "1e0412fb6ffe1d84bb99066d80dbab38c839ae9abd78439ee9ae23015362c1a2"), looks := false }, kinds := [], alts := [], laidByText := true, laidKinds := [.data, .pinned], laidTests := true, laidLooks := .later }
def FnEvolveLostUptoCardSaid : Prop := Claim7.holds Tryz.pinned (.plain (OpenSpec.upto fnEvolveLostSpec)) fnEvolveLostUptoCard

/-- THE SECOND FORM's CARD OF 'laws.FnRegistryPath'. -/
def fnRegistryPathUptoCard : Claim7 := { stood := { row := fnRegistryPathUptoRow, standIns := [], harness := (true, "1e0412fb6ffe1d84bb99066d80dbab38c839ae9abd78439ee9ae23015362c1a2"), looks := false }, kinds := [], alts := [], laidByText := true, laidKinds := [.data, .pinned], laidTests := true, laidLooks := .later }
def FnRegistryPathUptoCardSaid : Prop := Claim7.holds Tryz.pinned (.plain (OpenSpec.upto fnRegistryPathSpec)) fnRegistryPathUptoCard

/-- THE SECOND FORM's CARD OF 'laws.FnExactPathLeaves'. -/
def fnExactPathLeavesUptoCard : Claim7 := { stood := { row := fnExactPathLeavesUptoRow, standIns := [], harness := (true, "1e0412fb6ffe1d84bb99066d80dbab38c839ae9abd78439ee9ae23015362c1a2"), looks := false }, kinds := [], alts := [], laidByText := true, laidKinds := [.data, .pinned], laidTests := true, laidLooks := .later }
def FnExactPathLeavesUptoCardSaid : Prop := Claim7.holds Tryz.pinned (.plain (OpenSpec.upto fnExactPathLeavesSpec)) fnExactPathLeavesUptoCard

/-- THE SECOND FORM's CARD OF 'laws.FnLiftField'. -/
def fnLiftFieldUptoCard : Claim7 := { stood := { row := fnLiftFieldUptoRow, standIns := [], harness := (true, "1e0412fb6ffe1d84bb99066d80dbab38c839ae9abd78439ee9ae23015362c1a2"), looks := false }, kinds := [], alts := [], laidByText := true, laidKinds := [.data, .pinned], laidTests := true, laidLooks := .later }
def FnLiftFieldUptoCardSaid : Prop := Claim7.holds Tryz.pinned (.plain (OpenSpec.upto fnLiftFieldSpec)) fnLiftFieldUptoCard
end Rows
end Go.Proofs.YtcjfgbcdlcdeaaaGreatDoor
