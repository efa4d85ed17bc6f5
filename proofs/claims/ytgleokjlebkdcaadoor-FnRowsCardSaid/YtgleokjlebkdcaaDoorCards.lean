/-
  DERIVED. GIVEN WITH THE SEED: THE CARDS: each row of YtgleokjlebkdcaaDoorRows.lean that lists a variable, with what it lists TIED to the program's text (the seventh form; the later family's looks); each row that meets fmt, with fmt's text TOLD by the authors' own Lean function (tested against real Go, not proved from fmt's source: count such statements apart). THE CARD IS WHAT COUNTS. Prove the row's statement (the work); the ties are given (YtgleokjlebkdcaaDoorTie.lean); close each card by the builder's one call (the guide's Derived/Test/ToyasCard.lean, 'card_holds'). Laid BY PROGRAM, IN A SANDBOX (cutbox-door.mjs). By AI agents, Wed Nov 11 2026. No macro, syntax, notation, axiom, sorry.
-/
import Derived.Test.YtgleokjlebkdcaaDoorRows
import GoSem.ClaimSeven
namespace Go.Proofs.YtgleokjlebkdcaaDoor
namespace Rows

/-- THE TIED CARD OF 'laws.FnCellsBent'. -/
def fnCellsBentCard : Claim7 := { stood := { row := fnCellsBentRow, standIns := [], harness := (true, "b73b6fbb833aa63b0c96d0332cc3cb3e769e6a06a957455dcf02b863fcf53d67"), looks := false }, kinds := [], alts := [], laidByText := true, laidKinds := [.data, .pinned], laidTests := true, laidLooks := .later }
def FnCellsBentCardSaid : Prop := Claim7.holds Tryd.pinned (.plain (OpenSpec.ofChange fnCellsBentSpec)) fnCellsBentCard

/-- THE TIED CARD OF 'laws.FnCells'. -/
def fnCellsCard : Claim7 := { stood := { row := fnCellsRow, standIns := [], harness := (true, "b73b6fbb833aa63b0c96d0332cc3cb3e769e6a06a957455dcf02b863fcf53d67"), looks := false }, kinds := [], alts := [], laidByText := true, laidKinds := [.data, .pinned], laidTests := true, laidLooks := .later }
def FnCellsCardSaid : Prop := Claim7.holds Tryd.pinned (.plain (OpenSpec.ofChange fnCellsSpec)) fnCellsCard

/-- THE TIED CARD OF 'laws.FnRows'. -/
def fnRowsCard : Claim7 := { stood := { row := fnRowsRow, standIns := [], harness := (true, "b73b6fbb833aa63b0c96d0332cc3cb3e769e6a06a957455dcf02b863fcf53d67"), looks := false }, kinds := [], alts := [], laidByText := true, laidKinds := [.data, .pinned], laidTests := true, laidLooks := .later }
def FnRowsCardSaid : Prop := Claim7.holds Tryd.pinned (.plain (OpenSpec.ofChange fnRowsSpec)) fnRowsCard

/-- THE SECOND FORM's CARD OF 'laws.FnCellsBent'. -/
def fnCellsBentUptoCard : Claim7 := { stood := { row := fnCellsBentUptoRow, standIns := [], harness := (true, "b73b6fbb833aa63b0c96d0332cc3cb3e769e6a06a957455dcf02b863fcf53d67"), looks := false }, kinds := [], alts := [], laidByText := true, laidKinds := [.data, .pinned], laidTests := true, laidLooks := .later }
def FnCellsBentUptoCardSaid : Prop := Claim7.holds Tryd.pinned (.plain (OpenSpec.upto fnCellsBentSpec)) fnCellsBentUptoCard

/-- THE SECOND FORM's CARD OF 'laws.FnCells'. -/
def fnCellsUptoCard : Claim7 := { stood := { row := fnCellsUptoRow, standIns := [], harness := (true, "b73b6fbb833aa63b0c96d0332cc3cb3e769e6a06a957455dcf02b863fcf53d67"), looks := false }, kinds := [], alts := [], laidByText := true, laidKinds := [.data, .pinned], laidTests := true, laidLooks := .later }
def FnCellsUptoCardSaid : Prop := Claim7.holds Tryd.pinned (.plain (OpenSpec.upto fnCellsSpec)) fnCellsUptoCard

/-- THE SECOND FORM's CARD OF 'laws.FnRows'. -/
def fnRowsUptoCard : Claim7 := { stood := { row := fnRowsUptoRow, standIns := [], harness := (true, "b73b6fbb833aa63b0c96d0332cc3cb3e769e6a06a957455dcf02b863fcf53d67"), looks := false }, kinds := [], alts := [], laidByText := true, laidKinds := [.data, .pinned], laidTests := true, laidLooks := .later }
def FnRowsUptoCardSaid : Prop := Claim7.holds Tryd.pinned (.plain (OpenSpec.upto fnRowsSpec)) fnRowsUptoCard
end Rows
end Go.Proofs.YtgleokjlebkdcaaDoor
