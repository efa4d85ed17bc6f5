/-
  DERIVED. GIVEN WITH THE SEED: THE CARDS: each row of YteaoaehkkcbmbaaGreatDoorRows.lean that lists a variable, with what it lists TIED to the program's text (the seventh form; the later family's looks); each row that meets fmt, with fmt's text TOLD by the authors' own Lean function (tested against real Go, not proved from fmt's source: count such statements apart). THE CARD IS WHAT COUNTS. Prove the row's statement (the work); the ties are given (YteaoaehkkcbmbaaGreatDoorTie.lean); close each card by the builder's one call (the guide's Derived/Test/ToyasCard.lean, 'card_holds'). Laid BY PROGRAM, IN A SANDBOX (cutbox-door.mjs). By AI agents, Wed Nov 11 2026. No macro, syntax, notation, axiom, sorry.
-/
import Derived.Test.YteaoaehkkcbmbaaGreatDoorRows
import GoSem.ClaimSeven
namespace Go.Proofs.YteaoaehkkcbmbaaGreatDoor
namespace Rows

/-- THE TIED CARD OF 'laws.FnStoresBent'. -/
def fnStoresBentCard : Claim7 := { stood := { row := fnStoresBentRow, standIns := [], harness := (true, "9934de7a9e90e906b339bc068f1c5d519e4be033dd91c72b4b9ad3eece40ce76"), looks := false }, kinds := [], alts := [], laidByText := true, laidKinds := [.data, .pinned], laidTests := true, laidLooks := .later }
def FnStoresBentCardSaid : Prop := Claim7.holds Tryz.pinned (.plain (OpenSpec.ofChange fnStoresBentSpec)) fnStoresBentCard

/-- THE SECOND FORM's CARD OF 'laws.FnStoresBent'. -/
def fnStoresBentUptoCard : Claim7 := { stood := { row := fnStoresBentUptoRow, standIns := [], harness := (true, "9934de7a9e90e906b339bc068f1c5d519e4be033dd91c72b4b9ad3eece40ce76"), looks := false }, kinds := [], alts := [], laidByText := true, laidKinds := [.data, .pinned], laidTests := true, laidLooks := .later }
def FnStoresBentUptoCardSaid : Prop := Claim7.holds Tryz.pinned (.plain (OpenSpec.upto fnStoresBentSpec)) fnStoresBentUptoCard
end Rows
end Go.Proofs.YteaoaehkkcbmbaaGreatDoor
