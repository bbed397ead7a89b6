/-
  DERIVED. GIVEN WITH THE SEED: THE CARDS: each row of YtmmhmlmfhpfgbaaGreatDoorRows.lean that lists a variable, with what it lists TIED to the program's text (the seventh form; the later family's looks); each row that meets fmt, with fmt's text TOLD by the authors' own Lean function (tested against real Go, not proved from fmt's source: count such statements apart). THE CARD IS WHAT COUNTS. Prove the row's statement (the work); the ties are given (YtmmhmlmfhpfgbaaGreatDoorTie.lean); close each card by the builder's one call (the guide's Derived/Test/ToyasCard.lean, 'card_holds'). Laid BY PROGRAM, IN A SANDBOX (cutbox-door.mjs). By AI agents, Wed Nov 11 2026. No macro, syntax, notation, axiom, sorry.
-/
import Derived.Test.YtmmhmlmfhpfgbaaGreatDoorRows
import GoSem.ClaimSeven
namespace Go.Proofs.YtmmhmlmfhpfgbaaGreatDoor
namespace Rows

/-- THE TIED CARD OF 'laws.FnNamesGet'. -/
def fnNamesGetCard : Claim7 := { stood := { row := fnNamesGetRow, standIns := [], harness := (true, "4db5e6c76f1f790dee65fbe7996fd1ebbf9b82405017722fcb3b2c3da0286ba9"), looks := false }, kinds := [], alts := [], laidByText := true, laidKinds := [.data, .pinned], laidTests := true, laidLooks := .later }
def FnNamesGetCardSaid : Prop := Claim7.holds Tryz.pinned (.plain (OpenSpec.ofChange fnNamesGetSpec)) fnNamesGetCard

/-- THE TIED CARD OF 'laws.FnLiftField'. -/
def fnLiftFieldCard : Claim7 := { stood := { row := fnLiftFieldRow, standIns := [], harness := (true, "4db5e6c76f1f790dee65fbe7996fd1ebbf9b82405017722fcb3b2c3da0286ba9"), looks := false }, kinds := [], alts := [], laidByText := true, laidKinds := [.data, .pinned], laidTests := true, laidLooks := .later }
def FnLiftFieldCardSaid : Prop := Claim7.holds Tryz.pinned (.plain (OpenSpec.ofChange fnLiftFieldSpec)) fnLiftFieldCard

/-- THE TIED CARD OF 'laws.FnLetterPut'. -/
def fnLetterPutCard : Claim7 := { stood := { row := fnLetterPutRow, standIns := [], harness := (true, "4db5e6c76f1f790dee65fbe7996fd1ebbf9b82405017722fcb3b2c3da0286ba9"), looks := false }, kinds := [], alts := [], laidByText := true, laidKinds := [.data, .pinned], laidTests := true, laidLooks := .later }
def FnLetterPutCardSaid : Prop := Claim7.holds Tryz.pinned (.plain (OpenSpec.ofChange fnLetterPutSpec)) fnLetterPutCard

/-- THE TIED CARD OF 'laws.FnLetterGet'. -/
def fnLetterGetCard : Claim7 := { stood := { row := fnLetterGetRow, standIns := [], harness := (true, "4db5e6c76f1f790dee65fbe7996fd1ebbf9b82405017722fcb3b2c3da0286ba9"), looks := false }, kinds := [], alts := [], laidByText := true, laidKinds := [.data, .pinned], laidTests := true, laidLooks := .later }
def FnLetterGetCardSaid : Prop := Claim7.holds Tryz.pinned (.plain (OpenSpec.ofChange fnLetterGetSpec)) fnLetterGetCard

/-- THE TIED CARD OF 'laws.FnLetterMove'. -/
def fnLetterMoveCard : Claim7 := { stood := { row := fnLetterMoveRow, standIns := [], harness := (true, "4db5e6c76f1f790dee65fbe7996fd1ebbf9b82405017722fcb3b2c3da0286ba9"), looks := false }, kinds := [], alts := [], laidByText := true, laidKinds := [.data, .pinned], laidTests := true, laidLooks := .later }
def FnLetterMoveCardSaid : Prop := Claim7.holds Tryz.pinned (.plain (OpenSpec.ofChange fnLetterMoveSpec)) fnLetterMoveCard

/-- THE TIED CARD OF 'laws.FnBytesCanon'. -/
def fnBytesCanonCard : Claim7 := { stood := { row := fnBytesCanonRow, standIns := [], harness := (true, "4db5e6c76f1f790dee65fbe7996fd1ebbf9b82405017722fcb3b2c3da0286ba9"), looks := false }, kinds := [], alts := [], laidByText := true, laidKinds := [.data, .pinned], laidTests := true, laidLooks := .later }
def FnBytesCanonCardSaid : Prop := Claim7.holds Tryz.pinned (.plain (OpenSpec.ofChange fnBytesCanonSpec)) fnBytesCanonCard

/-- THE TIED CARD OF 'laws.FnEvolveLift'. -/
def fnEvolveLiftCard : Claim7 := { stood := { row := fnEvolveLiftRow, standIns := [], harness := (true, "4db5e6c76f1f790dee65fbe7996fd1ebbf9b82405017722fcb3b2c3da0286ba9"), looks := false }, kinds := [], alts := [], laidByText := true, laidKinds := [.data, .pinned], laidTests := true, laidLooks := .later }
def FnEvolveLiftCardSaid : Prop := Claim7.holds Tryz.pinned (.plain (OpenSpec.ofChange fnEvolveLiftSpec)) fnEvolveLiftCard

/-- THE SECOND FORM's CARD OF 'laws.FnNamesGet'. -/
def fnNamesGetUptoCard : Claim7 := { stood := { row := fnNamesGetUptoRow, standIns := [], harness := (true, "4db5e6c76f1f790dee65fbe7996fd1ebbf9b82405017722fcb3b2c3da0286ba9"), looks := false }, kinds := [], alts := [], laidByText := true, laidKinds := [.data, .pinned], laidTests := true, laidLooks := .later }
def FnNamesGetUptoCardSaid : Prop := Claim7.holds Tryz.pinned (.plain (OpenSpec.upto fnNamesGetSpec)) fnNamesGetUptoCard

/-- THE SECOND FORM's CARD OF 'laws.FnLiftField'. -/
def fnLiftFieldUptoCard : Claim7 := { stood := { row := fnLiftFieldUptoRow, standIns := [], harness := (true, "4db5e6c76f1f790dee65fbe7996fd1ebbf9b82405017722fcb3b2c3da0286ba9"), looks := false }, kinds := [], alts := [], laidByText := true, laidKinds := [.data, .pinned], laidTests := true, laidLooks := .later }
def FnLiftFieldUptoCardSaid : Prop := Claim7.holds Tryz.pinned (.plain (OpenSpec.upto fnLiftFieldSpec)) fnLiftFieldUptoCard

/-- THE SECOND FORM's CARD OF 'laws.FnLetterPut'. -/
def fnLetterPutUptoCard : Claim7 := { stood := { row := fnLetterPutUptoRow, standIns := [], harness := (true, "4db5e6c76f1f790dee65fbe7996fd1ebbf9b82405017722fcb3b2c3da0286ba9"), looks := false }, kinds := [], alts := [], laidByText := true, laidKinds := [.data, .pinned], laidTests := true, laidLooks := .later }
def FnLetterPutUptoCardSaid : Prop := Claim7.holds Tryz.pinned (.plain (OpenSpec.upto fnLetterPutSpec)) fnLetterPutUptoCard

/-- THE SECOND FORM's CARD OF 'laws.FnLetterGet'. -/
def fnLetterGetUptoCard : Claim7 := { stood := { row := fnLetterGetUptoRow, standIns := [], harness := (true, "4db5e6c76f1f790dee65fbe7996fd1ebbf9b82405017722fcb3b2c3da0286ba9"), looks := false }, kinds := [], alts := [], laidByText := true, laidKinds := [.data, .pinned], laidTests := true, laidLooks := .later }
def FnLetterGetUptoCardSaid : Prop := Claim7.holds Tryz.pinned (.plain (OpenSpec.upto fnLetterGetSpec)) fnLetterGetUptoCard

/-- THE SECOND FORM's CARD OF 'laws.FnLetterMove'. -/
def fnLetterMoveUptoCard : Claim7 := { stood := { row := fnLetterMoveUptoRow, standIns := [], harness := (true, "4db5e6c76f1f790dee65fbe7996fd1ebbf9b82405017722fcb3b2c3da0286ba9"), looks := false }, kinds := [], alts := [], laidByText := true, laidKinds := [.data, .pinned], laidTests := true, laidLooks := .later }
def FnLetterMoveUptoCardSaid : Prop := Claim7.holds Tryz.pinned (.plain (OpenSpec.upto fnLetterMoveSpec)) fnLetterMoveUptoCard

/-- THE SECOND FORM's CARD OF 'laws.FnBytesCanon'. -/
def fnBytesCanonUptoCard : Claim7 := { stood := { row := fnBytesCanonUptoRow, standIns := [], harness := (true, "4db5e6c76f1f790dee65fbe7996fd1ebbf9b82405017722fcb3b2c3da0286ba9"), looks := false }, kinds := [], alts := [], laidByText := true, laidKinds := [.data, .pinned], laidTests := true, laidLooks := .later }
def FnBytesCanonUptoCardSaid : Prop := Claim7.holds Tryz.pinned (.plain (OpenSpec.upto fnBytesCanonSpec)) fnBytesCanonUptoCard

/-- THE SECOND FORM's CARD OF 'laws.FnEvolveLift'. -/
def fnEvolveLiftUptoCard : Claim7 := { stood := { row := fnEvolveLiftUptoRow, standIns := [], harness := (true, "4db5e6c76f1f790dee65fbe7996fd1ebbf9b82405017722fcb3b2c3da0286ba9"), looks := false }, kinds := [], alts := [], laidByText := true, laidKinds := [.data, .pinned], laidTests := true, laidLooks := .later }
def FnEvolveLiftUptoCardSaid : Prop := Claim7.holds Tryz.pinned (.plain (OpenSpec.upto fnEvolveLiftSpec)) fnEvolveLiftUptoCard
end Rows
end Go.Proofs.YtmmhmlmfhpfgbaaGreatDoor
