/-
  DERIVED. GIVEN WITH THE SEED: THE CARDS: each row of YtldojpoheiljdaaDoorRows.lean that lists a variable, with what it lists TIED to the program's text (the seventh form; the later family's looks); each row that meets fmt, with fmt's text TOLD by the authors' own Lean function (tested against real Go, not proved from fmt's source: count such statements apart). THE CARD IS WHAT COUNTS. Prove the row's statement (the work); the ties are given (YtldojpoheiljdaaDoorTie.lean); close each card by the builder's one call (the guide's Derived/Test/ToyasCard.lean, 'card_holds'). Laid BY PROGRAM, IN A SANDBOX (cutbox-door.mjs). By AI agents, Wed Nov 11 2026. No macro, syntax, notation, axiom, sorry.
-/
import Derived.Test.YtldojpoheiljdaaDoorRows
import GoSem.ClaimSeven
namespace Go.Proofs.YtldojpoheiljdaaDoor
namespace Rows

/-- THE TIED CARD OF 'laws.FnExactSchemaCount'. -/
def fnExactSchemaCountCard : Claim7 := { stood := { row := fnExactSchemaCountRow, standIns := [], harness := (true, "7efbbf4d4b506ebfd0a87dcfaab6bf54d116357c712f7c91c9d846e450d7ba0c"), looks := false }, kinds := [], alts := [], laidByText := true, laidKinds := [.data, .pinned], laidTests := true, laidLooks := .later }
def FnExactSchemaCountCardSaid : Prop := Claim7.holds Tryd.pinned (.plain (OpenSpec.ofChange fnExactSchemaCountSpec)) fnExactSchemaCountCard

/-- THE TIED CARD OF 'laws.FnExactEvolveReads'. -/
def fnExactEvolveReadsCard : Claim7 := { stood := { row := fnExactEvolveReadsRow, standIns := [], harness := (true, "7efbbf4d4b506ebfd0a87dcfaab6bf54d116357c712f7c91c9d846e450d7ba0c"), looks := false }, kinds := [], alts := [], laidByText := true, laidKinds := [.data, .pinned], laidTests := true, laidLooks := .later }
def FnExactEvolveReadsCardSaid : Prop := Claim7.holds Tryd.pinned (.plain (OpenSpec.ofChange fnExactEvolveReadsSpec)) fnExactEvolveReadsCard

/-- THE TIED CARD OF 'laws.FnExactEvolveBoth'. -/
def fnExactEvolveBothCard : Claim7 := { stood := { row := fnExactEvolveBothRow, standIns := [], harness := (true, "7efbbf4d4b506ebfd0a87dcfaab6bf54d116357c712f7c91c9d846e450d7ba0c"), looks := false }, kinds := [], alts := [], laidByText := true, laidKinds := [.data, .pinned], laidTests := true, laidLooks := .later }
def FnExactEvolveBothCardSaid : Prop := Claim7.holds Tryd.pinned (.plain (OpenSpec.ofChange fnExactEvolveBothSpec)) fnExactEvolveBothCard

/-- THE TIED CARD OF 'laws.FnExactSchemaForm'. -/
def fnExactSchemaFormCard : Claim7 := { stood := { row := fnExactSchemaFormRow, standIns := [], harness := (true, "7efbbf4d4b506ebfd0a87dcfaab6bf54d116357c712f7c91c9d846e450d7ba0c"), looks := false }, kinds := [], alts := [], laidByText := true, laidKinds := [.data, .pinned], laidTests := true, laidLooks := .later }
def FnExactSchemaFormCardSaid : Prop := Claim7.holds Tryd.pinned (.plain (OpenSpec.ofChange fnExactSchemaFormSpec)) fnExactSchemaFormCard

/-- THE TIED CARD OF 'laws.FnExactSchemaAlike'. -/
def fnExactSchemaAlikeCard : Claim7 := { stood := { row := fnExactSchemaAlikeRow, standIns := [], harness := (true, "7efbbf4d4b506ebfd0a87dcfaab6bf54d116357c712f7c91c9d846e450d7ba0c"), looks := false }, kinds := [], alts := [], laidByText := true, laidKinds := [.data, .pinned], laidTests := true, laidLooks := .later }
def FnExactSchemaAlikeCardSaid : Prop := Claim7.holds Tryd.pinned (.plain (OpenSpec.ofChange fnExactSchemaAlikeSpec)) fnExactSchemaAlikeCard

/-- THE TIED CARD OF 'laws.FnExactRegistryOk'. -/
def fnExactRegistryOkCard : Claim7 := { stood := { row := fnExactRegistryOkRow, standIns := [], harness := (true, "7efbbf4d4b506ebfd0a87dcfaab6bf54d116357c712f7c91c9d846e450d7ba0c"), looks := false }, kinds := [], alts := [], laidByText := true, laidKinds := [.data, .pinned], laidTests := true, laidLooks := .later }
def FnExactRegistryOkCardSaid : Prop := Claim7.holds Tryd.pinned (.plain (OpenSpec.ofChange fnExactRegistryOkSpec)) fnExactRegistryOkCard

/-- THE SECOND FORM's CARD OF 'laws.FnExactSchemaCount'. -/
def fnExactSchemaCountUptoCard : Claim7 := { stood := { row := fnExactSchemaCountUptoRow, standIns := [], harness := (true, "7efbbf4d4b506ebfd0a87dcfaab6bf54d116357c712f7c91c9d846e450d7ba0c"), looks := false }, kinds := [], alts := [], laidByText := true, laidKinds := [.data, .pinned], laidTests := true, laidLooks := .later }
def FnExactSchemaCountUptoCardSaid : Prop := Claim7.holds Tryd.pinned (.plain (OpenSpec.upto fnExactSchemaCountSpec)) fnExactSchemaCountUptoCard

/-- THE SECOND FORM's CARD OF 'laws.FnExactEvolveReads'. -/
def fnExactEvolveReadsUptoCard : Claim7 := { stood := { row := fnExactEvolveReadsUptoRow, standIns := [], harness := (true, "7efbbf4d4b506ebfd0a87dcfaab6bf54d116357c712f7c91c9d846e450d7ba0c"), looks := false }, kinds := [], alts := [], laidByText := true, laidKinds := [.data, .pinned], laidTests := true, laidLooks := .later }
def FnExactEvolveReadsUptoCardSaid : Prop := Claim7.holds Tryd.pinned (.plain (OpenSpec.upto fnExactEvolveReadsSpec)) fnExactEvolveReadsUptoCard

/-- THE SECOND FORM's CARD OF 'laws.FnExactEvolveBoth'. -/
def fnExactEvolveBothUptoCard : Claim7 := { stood := { row := fnExactEvolveBothUptoRow, standIns := [], harness := (true, "7efbbf4d4b506ebfd0a87dcfaab6bf54d116357c712f7c91c9d846e450d7ba0c"), looks := false }, kinds := [], alts := [], laidByText := true, laidKinds := [.data, .pinned], laidTests := true, laidLooks := .later }
def FnExactEvolveBothUptoCardSaid : Prop := Claim7.holds Tryd.pinned (.plain (OpenSpec.upto fnExactEvolveBothSpec)) fnExactEvolveBothUptoCard

/-- THE SECOND FORM's CARD OF 'laws.FnExactSchemaForm'. -/
def fnExactSchemaFormUptoCard : Claim7 := { stood := { row := fnExactSchemaFormUptoRow, standIns := [], harness := (true, "7efbbf4d4b506ebfd0a87dcfaab6bf54d116357c712f7c91c9d846e450d7ba0c"), looks := false }, kinds := [], alts := [], laidByText := true, laidKinds := [.data, .pinned], laidTests := true, laidLooks := .later }
def FnExactSchemaFormUptoCardSaid : Prop := Claim7.holds Tryd.pinned (.plain (OpenSpec.upto fnExactSchemaFormSpec)) fnExactSchemaFormUptoCard

/-- THE SECOND FORM's CARD OF 'laws.FnExactSchemaAlike'. -/
def fnExactSchemaAlikeUptoCard : Claim7 := { stood := { row := fnExactSchemaAlikeUptoRow, standIns := [], harness := (true, "7efbbf4d4b506ebfd0a87dcfaab6bf54d116357c712f7c91c9d846e450d7ba0c"), looks := false }, kinds := [], alts := [], laidByText := true, laidKinds := [.data, .pinned], laidTests := true, laidLooks := .later }
def FnExactSchemaAlikeUptoCardSaid : Prop := Claim7.holds Tryd.pinned (.plain (OpenSpec.upto fnExactSchemaAlikeSpec)) fnExactSchemaAlikeUptoCard

/-- THE SECOND FORM's CARD OF 'laws.FnExactRegistryOk'. -/
def fnExactRegistryOkUptoCard : Claim7 := { stood := { row := fnExactRegistryOkUptoRow, standIns := [], harness := (true, "7efbbf4d4b506ebfd0a87dcfaab6bf54d116357c712f7c91c9d846e450d7ba0c"), looks := false }, kinds := [], alts := [], laidByText := true, laidKinds := [.data, .pinned], laidTests := true, laidLooks := .later }
def FnExactRegistryOkUptoCardSaid : Prop := Claim7.holds Tryd.pinned (.plain (OpenSpec.upto fnExactRegistryOkSpec)) fnExactRegistryOkUptoCard
end Rows
end Go.Proofs.YtldojpoheiljdaaDoor
