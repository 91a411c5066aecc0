/-
  DERIVED. GIVEN WITH THE SEED: THE CARDS: each row of YtlcbpicpociipaaGreatDoorRows.lean that lists a variable, with what it lists TIED to the program's text (the seventh form; the later family's looks); each row that meets fmt, with fmt's text TOLD by the authors' own Lean function (tested against real Go, not proved from fmt's source: count such statements apart). THE CARD IS WHAT COUNTS. Prove the row's statement (the work); the ties are given (YtlcbpicpociipaaGreatDoorTie.lean); close each card by the builder's one call (the guide's Derived/Test/ToyasCard.lean, 'card_holds'). Laid BY PROGRAM, IN A SANDBOX (cutbox-door.mjs). By AI agents, Wed Nov 11 2026. No macro, syntax, notation, axiom, sorry.
-/
import Derived.Test.YtlcbpicpociipaaGreatDoorRows
import GoSem.ClaimSeven
namespace Go.Proofs.YtlcbpicpociipaaGreatDoor
namespace Rows

/-- THE TIED CARD OF 'dialtonelaw15.WishMatchesReference'. -/
def wishMatchesReferenceCard : Claim7 := { stood := { row := wishMatchesReferenceRow, standIns := [], harness := (true, "5809412755c21f3e7c702fd83a83e5f0c203524499dd97c179ad62809b0b19aa"), looks := true }, kinds := [], alts := [], laidByText := true, laidKinds := [.data], laidTests := true, laidLooks := .later }
def WishMatchesReferenceCardSaid : Prop := Claim7.holds Tryz.pinned (.plain (OpenSpec.ofChange wishMatchesReferenceSpec)) wishMatchesReferenceCard

/-- THE TIED CARD OF 'dialtonelaw15.WishTextsMatchReference'. -/
def wishTextsMatchReferenceCard : Claim7 := { stood := { row := wishTextsMatchReferenceRow, standIns := [], harness := (true, "5809412755c21f3e7c702fd83a83e5f0c203524499dd97c179ad62809b0b19aa"), looks := true }, kinds := [], alts := [], laidByText := true, laidKinds := [.data], laidTests := true, laidLooks := .later }
def WishTextsMatchReferenceCardSaid : Prop := Claim7.holds Tryz.pinned (.plain (OpenSpec.ofChange wishTextsMatchReferenceSpec)) wishTextsMatchReferenceCard

/-- THE TIED CARD OF 'dialtonelaw15.WishBinds'. -/
def wishBindsCard : Claim7 := { stood := { row := wishBindsRow, standIns := [], harness := (true, "5809412755c21f3e7c702fd83a83e5f0c203524499dd97c179ad62809b0b19aa"), looks := true }, kinds := [], alts := [], laidByText := true, laidKinds := [.data], laidTests := true, laidLooks := .later }
def WishBindsCardSaid : Prop := Claim7.holds Tryz.pinned (.plain (OpenSpec.ofChange wishBindsSpec)) wishBindsCard

/-- THE SECOND FORM's CARD OF 'dialtonelaw15.WishMatchesReference'. -/
def wishMatchesReferenceUptoCard : Claim7 := { stood := { row := wishMatchesReferenceUptoRow, standIns := [], harness := (true, "5809412755c21f3e7c702fd83a83e5f0c203524499dd97c179ad62809b0b19aa"), looks := true }, kinds := [], alts := [], laidByText := true, laidKinds := [.data], laidTests := true, laidLooks := .later }
def WishMatchesReferenceUptoCardSaid : Prop := Claim7.holds Tryz.pinned (.plain (OpenSpec.upto wishMatchesReferenceSpec)) wishMatchesReferenceUptoCard

/-- THE SECOND FORM's CARD OF 'dialtonelaw15.WishTextsMatchReference'. -/
def wishTextsMatchReferenceUptoCard : Claim7 := { stood := { row := wishTextsMatchReferenceUptoRow, standIns := [], harness := (true, "5809412755c21f3e7c702fd83a83e5f0c203524499dd97c179ad62809b0b19aa"), looks := true }, kinds := [], alts := [], laidByText := true, laidKinds := [.data], laidTests := true, laidLooks := .later }
def WishTextsMatchReferenceUptoCardSaid : Prop := Claim7.holds Tryz.pinned (.plain (OpenSpec.upto wishTextsMatchReferenceSpec)) wishTextsMatchReferenceUptoCard

/-- THE SECOND FORM's CARD OF 'dialtonelaw15.WishBinds'. -/
def wishBindsUptoCard : Claim7 := { stood := { row := wishBindsUptoRow, standIns := [], harness := (true, "5809412755c21f3e7c702fd83a83e5f0c203524499dd97c179ad62809b0b19aa"), looks := true }, kinds := [], alts := [], laidByText := true, laidKinds := [.data], laidTests := true, laidLooks := .later }
def WishBindsUptoCardSaid : Prop := Claim7.holds Tryz.pinned (.plain (OpenSpec.upto wishBindsSpec)) wishBindsUptoCard
end Rows
end Go.Proofs.YtlcbpicpociipaaGreatDoor
