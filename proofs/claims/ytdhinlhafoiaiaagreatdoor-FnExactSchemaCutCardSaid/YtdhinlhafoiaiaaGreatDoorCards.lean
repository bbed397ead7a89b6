/-
  DERIVED. GIVEN WITH THE SEED: THE CARDS: each row of YtdhinlhafoiaiaaGreatDoorRows.lean that lists a variable, with what it lists TIED to the program's text (the seventh form; the later family's looks); each row that meets fmt, with fmt's text TOLD by the authors' own Lean function (tested against real Go, not proved from fmt's source: count such statements apart). THE CARD IS WHAT COUNTS. Prove the row's statement (the work); the ties are given (YtdhinlhafoiaiaaGreatDoorTie.lean); close each card by the builder's one call (the guide's Derived/Test/ToyasCard.lean, 'card_holds'). Laid BY PROGRAM, IN A SANDBOX (cutbox-door.mjs). By AI agents, Wed Nov 11 2026. No macro, syntax, notation, axiom, sorry.
-/
import Derived.Test.YtdhinlhafoiaiaaGreatDoorRows
import GoSem.ClaimSeven
namespace Go.Proofs.YtdhinlhafoiaiaaGreatDoor
namespace Rows

/-- THE TIED CARD OF 'laws.FnSchemaCount'. -/
def fnSchemaCountCard : Claim7 := { stood := { row := fnSchemaCountRow, standIns := [], harness := (true, "4120f9d2206ebf913a0ecc4f0a689bbbb949789d0b92233d916082c0bed6fb70"), looks := false }, kinds := [], alts := [], laidByText := true, laidKinds := [.data, .pinned], laidTests := true, laidLooks := .later }
def FnSchemaCountCardSaid : Prop := Claim7.holds Tryz.pinned (.plain (OpenSpec.ofChange fnSchemaCountSpec)) fnSchemaCountCard

/-- THE TIED CARD OF 'laws.FnEvolveBoth'. -/
def fnEvolveBothCard : Claim7 := { stood := { row := fnEvolveBothRow, standIns := [], harness := (true, "4120f9d2206ebf913a0ecc4f0a689bbbb949789d0b92233d916082c0bed6fb70"), looks := false }, kinds := [], alts := [], laidByText := true, laidKinds := [.data, .pinned], laidTests := true, laidLooks := .later }
def FnEvolveBothCardSaid : Prop := Claim7.holds Tryz.pinned (.plain (OpenSpec.ofChange fnEvolveBothSpec)) fnEvolveBothCard

/-- THE TIED CARD OF 'laws.FnExactRegistryAdd'. -/
def fnExactRegistryAddCard : Claim7 := { stood := { row := fnExactRegistryAddRow, standIns := [], harness := (true, "4120f9d2206ebf913a0ecc4f0a689bbbb949789d0b92233d916082c0bed6fb70"), looks := false }, kinds := [], alts := [], laidByText := true, laidKinds := [.data, .pinned], laidTests := true, laidLooks := .later }
def FnExactRegistryAddCardSaid : Prop := Claim7.holds Tryz.pinned (.plain (OpenSpec.ofChange fnExactRegistryAddSpec)) fnExactRegistryAddCard

/-- THE TIED CARD OF 'laws.FnRegistryOk'. -/
def fnRegistryOkCard : Claim7 := { stood := { row := fnRegistryOkRow, standIns := [], harness := (true, "4120f9d2206ebf913a0ecc4f0a689bbbb949789d0b92233d916082c0bed6fb70"), looks := false }, kinds := [], alts := [], laidByText := true, laidKinds := [.data, .pinned], laidTests := true, laidLooks := .later }
def FnRegistryOkCardSaid : Prop := Claim7.holds Tryz.pinned (.plain (OpenSpec.ofChange fnRegistryOkSpec)) fnRegistryOkCard

/-- THE TIED CARD OF 'laws.FnSchemaForm'. -/
def fnSchemaFormCard : Claim7 := { stood := { row := fnSchemaFormRow, standIns := [], harness := (true, "4120f9d2206ebf913a0ecc4f0a689bbbb949789d0b92233d916082c0bed6fb70"), looks := false }, kinds := [], alts := [], laidByText := true, laidKinds := [.data, .pinned], laidTests := true, laidLooks := .later }
def FnSchemaFormCardSaid : Prop := Claim7.holds Tryz.pinned (.plain (OpenSpec.ofChange fnSchemaFormSpec)) fnSchemaFormCard

/-- THE TIED CARD OF 'laws.FnRegistryAdd'. -/
def fnRegistryAddCard : Claim7 := { stood := { row := fnRegistryAddRow, standIns := [], harness := (true, "4120f9d2206ebf913a0ecc4f0a689bbbb949789d0b92233d916082c0bed6fb70"), looks := false }, kinds := [], alts := [], laidByText := true, laidKinds := [.data, .pinned], laidTests := true, laidLooks := .later }
def FnRegistryAddCardSaid : Prop := Claim7.holds Tryz.pinned (.plain (OpenSpec.ofChange fnRegistryAddSpec)) fnRegistryAddCard

/-- THE TIED CARD OF 'laws.FnSchemaAlike'. -/
def fnSchemaAlikeCard : Claim7 := { stood := { row := fnSchemaAlikeRow, standIns := [], harness := (true, "4120f9d2206ebf913a0ecc4f0a689bbbb949789d0b92233d916082c0bed6fb70"), looks := false }, kinds := [], alts := [], laidByText := true, laidKinds := [.data, .pinned], laidTests := true, laidLooks := .later }
def FnSchemaAlikeCardSaid : Prop := Claim7.holds Tryz.pinned (.plain (OpenSpec.ofChange fnSchemaAlikeSpec)) fnSchemaAlikeCard

/-- THE TIED CARD OF 'laws.FnExactSchemaCut'. -/
def fnExactSchemaCutCard : Claim7 := { stood := { row := fnExactSchemaCutRow, standIns := [], harness := (true, "4120f9d2206ebf913a0ecc4f0a689bbbb949789d0b92233d916082c0bed6fb70"), looks := false }, kinds := [], alts := [], laidByText := true, laidKinds := [.data, .pinned], laidTests := true, laidLooks := .later }
def FnExactSchemaCutCardSaid : Prop := Claim7.holds Tryz.pinned (.plain (OpenSpec.ofChange fnExactSchemaCutSpec)) fnExactSchemaCutCard

/-- THE TIED CARD OF 'laws.FnEvolveReads'. -/
def fnEvolveReadsCard : Claim7 := { stood := { row := fnEvolveReadsRow, standIns := [], harness := (true, "4120f9d2206ebf913a0ecc4f0a689bbbb949789d0b92233d916082c0bed6fb70"), looks := false }, kinds := [], alts := [], laidByText := true, laidKinds := [.data, .pinned], laidTests := true, laidLooks := .later }
def FnEvolveReadsCardSaid : Prop := Claim7.holds Tryz.pinned (.plain (OpenSpec.ofChange fnEvolveReadsSpec)) fnEvolveReadsCard

/-- THE TIED CARD OF 'laws.FnSchemaOrder'. -/
def fnSchemaOrderCard : Claim7 := { stood := { row := fnSchemaOrderRow, standIns := [], harness := (true, "4120f9d2206ebf913a0ecc4f0a689bbbb949789d0b92233d916082c0bed6fb70"), looks := false }, kinds := [], alts := [], laidByText := true, laidKinds := [.data, .pinned], laidTests := true, laidLooks := .later }
def FnSchemaOrderCardSaid : Prop := Claim7.holds Tryz.pinned (.plain (OpenSpec.ofChange fnSchemaOrderSpec)) fnSchemaOrderCard

/-- THE TIED CARD OF 'laws.FnSchemaCut'. -/
def fnSchemaCutCard : Claim7 := { stood := { row := fnSchemaCutRow, standIns := [], harness := (true, "4120f9d2206ebf913a0ecc4f0a689bbbb949789d0b92233d916082c0bed6fb70"), looks := false }, kinds := [], alts := [], laidByText := true, laidKinds := [.data, .pinned], laidTests := true, laidLooks := .later }
def FnSchemaCutCardSaid : Prop := Claim7.holds Tryz.pinned (.plain (OpenSpec.ofChange fnSchemaCutSpec)) fnSchemaCutCard

/-- THE SECOND FORM's CARD OF 'laws.FnSchemaCount'. -/
def fnSchemaCountUptoCard : Claim7 := { stood := { row := fnSchemaCountUptoRow, standIns := [], harness := (true, "4120f9d2206ebf913a0ecc4f0a689bbbb949789d0b92233d916082c0bed6fb70"), looks := false }, kinds := [], alts := [], laidByText := true, laidKinds := [.data, .pinned], laidTests := true, laidLooks := .later }
def FnSchemaCountUptoCardSaid : Prop := Claim7.holds Tryz.pinned (.plain (OpenSpec.upto fnSchemaCountSpec)) fnSchemaCountUptoCard

/-- THE SECOND FORM's CARD OF 'laws.FnEvolveBoth'. -/
def fnEvolveBothUptoCard : Claim7 := { stood := { row := fnEvolveBothUptoRow, standIns := [], harness := (true, "4120f9d2206ebf913a0ecc4f0a689bbbb949789d0b92233d916082c0bed6fb70"), looks := false }, kinds := [], alts := [], laidByText := true, laidKinds := [.data, .pinned], laidTests := true, laidLooks := .later }
def FnEvolveBothUptoCardSaid : Prop := Claim7.holds Tryz.pinned (.plain (OpenSpec.upto fnEvolveBothSpec)) fnEvolveBothUptoCard

/-- THE SECOND FORM's CARD OF 'laws.FnExactRegistryAdd'. -/
def fnExactRegistryAddUptoCard : Claim7 := { stood := { row := fnExactRegistryAddUptoRow, standIns := [], harness := (true, "4120f9d2206ebf913a0ecc4f0a689bbbb949789d0b92233d916082c0bed6fb70"), looks := false }, kinds := [], alts := [], laidByText := true, laidKinds := [.data, .pinned], laidTests := true, laidLooks := .later }
def FnExactRegistryAddUptoCardSaid : Prop := Claim7.holds Tryz.pinned (.plain (OpenSpec.upto fnExactRegistryAddSpec)) fnExactRegistryAddUptoCard

/-- THE SECOND FORM's CARD OF 'laws.FnRegistryOk'. -/
def fnRegistryOkUptoCard : Claim7 := { stood := { row := fnRegistryOkUptoRow, standIns := [], harness := (true, "4120f9d2206ebf913a0ecc4f0a689bbbb949789d0b92233d916082c0bed6fb70"), looks := false }, kinds := [], alts := [], laidByText := true, laidKinds := [.data, .pinned], laidTests := true, laidLooks := .later }
def FnRegistryOkUptoCardSaid : Prop := Claim7.holds Tryz.pinned (.plain (OpenSpec.upto fnRegistryOkSpec)) fnRegistryOkUptoCard

/-- THE SECOND FORM's CARD OF 'laws.FnSchemaForm'. -/
def fnSchemaFormUptoCard : Claim7 := { stood := { row := fnSchemaFormUptoRow, standIns := [], harness := (true, "4120f9d2206ebf913a0ecc4f0a689bbbb949789d0b92233d916082c0bed6fb70"), looks := false }, kinds := [], alts := [], laidByText := true, laidKinds := [.data, .pinned], laidTests := true, laidLooks := .later }
def FnSchemaFormUptoCardSaid : Prop := Claim7.holds Tryz.pinned (.plain (OpenSpec.upto fnSchemaFormSpec)) fnSchemaFormUptoCard

/-- THE SECOND FORM's CARD OF 'laws.FnRegistryAdd'. -/
def fnRegistryAddUptoCard : Claim7 := { stood := { row := fnRegistryAddUptoRow, standIns := [], harness := (true, "4120f9d2206ebf913a0ecc4f0a689bbbb949789d0b92233d916082c0bed6fb70"), looks := false }, kinds := [], alts := [], laidByText := true, laidKinds := [.data, .pinned], laidTests := true, laidLooks := .later }
def FnRegistryAddUptoCardSaid : Prop := Claim7.holds Tryz.pinned (.plain (OpenSpec.upto fnRegistryAddSpec)) fnRegistryAddUptoCard

/-- THE SECOND FORM's CARD OF 'laws.FnSchemaAlike'. -/
def fnSchemaAlikeUptoCard : Claim7 := { stood := { row := fnSchemaAlikeUptoRow, standIns := [], harness := (true, "4120f9d2206ebf913a0ecc4f0a689bbbb949789d0b92233d916082c0bed6fb70"), looks := false }, kinds := [], alts := [], laidByText := true, laidKinds := [.data, .pinned], laidTests := true, laidLooks := .later }
def FnSchemaAlikeUptoCardSaid : Prop := Claim7.holds Tryz.pinned (.plain (OpenSpec.upto fnSchemaAlikeSpec)) fnSchemaAlikeUptoCard

/-- THE SECOND FORM's CARD OF 'laws.FnExactSchemaCut'. -/
def fnExactSchemaCutUptoCard : Claim7 := { stood := { row := fnExactSchemaCutUptoRow, standIns := [], harness := (true, "4120f9d2206ebf913a0ecc4f0a689bbbb949789d0b92233d916082c0bed6fb70"), looks := false }, kinds := [], alts := [], laidByText := true, laidKinds := [.data, .pinned], laidTests := true, laidLooks := .later }
def FnExactSchemaCutUptoCardSaid : Prop := Claim7.holds Tryz.pinned (.plain (OpenSpec.upto fnExactSchemaCutSpec)) fnExactSchemaCutUptoCard

/-- THE SECOND FORM's CARD OF 'laws.FnEvolveReads'. -/
def fnEvolveReadsUptoCard : Claim7 := { stood := { row := fnEvolveReadsUptoRow, standIns := [], harness := (true, "4120f9d2206ebf913a0ecc4f0a689bbbb949789d0b92233d916082c0bed6fb70"), looks := false }, kinds := [], alts := [], laidByText := true, laidKinds := [.data, .pinned], laidTests := true, laidLooks := .later }
def FnEvolveReadsUptoCardSaid : Prop := Claim7.holds Tryz.pinned (.plain (OpenSpec.upto fnEvolveReadsSpec)) fnEvolveReadsUptoCard

/-- THE SECOND FORM's CARD OF 'laws.FnSchemaOrder'. -/
def fnSchemaOrderUptoCard : Claim7 := { stood := { row := fnSchemaOrderUptoRow, standIns := [], harness := (true, "4120f9d2206ebf913a0ecc4f0a689bbbb949789d0b92233d916082c0bed6fb70"), looks := false }, kinds := [], alts := [], laidByText := true, laidKinds := [.data, .pinned], laidTests := true, laidLooks := .later }
def FnSchemaOrderUptoCardSaid : Prop := Claim7.holds Tryz.pinned (.plain (OpenSpec.upto fnSchemaOrderSpec)) fnSchemaOrderUptoCard

/-- THE SECOND FORM's CARD OF 'laws.FnSchemaCut'. -/
def fnSchemaCutUptoCard : Claim7 := { stood := { row := fnSchemaCutUptoRow, standIns := [], harness := (true, "4120f9d2206ebf913a0ecc4f0a689bbbb949789d0b92233d916082c0bed6fb70"), looks := false }, kinds := [], alts := [], laidByText := true, laidKinds := [.data, .pinned], laidTests := true, laidLooks := .later }
def FnSchemaCutUptoCardSaid : Prop := Claim7.holds Tryz.pinned (.plain (OpenSpec.upto fnSchemaCutSpec)) fnSchemaCutUptoCard
end Rows
end Go.Proofs.YtdhinlhafoiaiaaGreatDoor
