/-
  DERIVED. GIVEN WITH THE SEED: THE CARDS: each row of YtboohaconpkhaaaDoorRows.lean that lists a variable, with what it lists TIED to the program's text (the seventh form; the later family's looks); each row that meets fmt, with fmt's text TOLD by the authors' own Lean function (tested against real Go, not proved from fmt's source: count such statements apart). THE CARD IS WHAT COUNTS. Prove the row's statement (the work); the ties are given (YtboohaconpkhaaaDoorTie.lean); close each card by the builder's one call (the guide's Derived/Test/ToyasCard.lean, 'card_holds'). Laid BY PROGRAM, IN A SANDBOX (cutbox-door.mjs). By AI agents, Wed Nov 11 2026. No macro, syntax, notation, axiom, sorry.
-/
import Derived.Test.YtboohaconpkhaaaDoorRows
import GoSem.ClaimSeven
namespace Go.Proofs.YtboohaconpkhaaaDoor
namespace Rows

/-- THE TIED CARD OF 'laws.FnExactCellOf'. -/
def fnExactCellOfCard : Claim7 := { stood := { row := fnExactCellOfRow, standIns := [], harness := (true, "d1d85a7ce9e5ff2edc2796f5f38de15e51bc8313820f2922cdf8ce005a29e38d"), looks := false }, kinds := [], alts := [], laidByText := true, laidKinds := [.data, .pinned], laidTests := true, laidLooks := .later }
def FnExactCellOfCardSaid : Prop := Claim7.holds Tryd.pinned (.plain (OpenSpec.ofChange fnExactCellOfSpec)) fnExactCellOfCard

/-- THE TIED CARD OF 'laws.FnExactRowOf'. -/
def fnExactRowOfCard : Claim7 := { stood := { row := fnExactRowOfRow, standIns := [], harness := (true, "d1d85a7ce9e5ff2edc2796f5f38de15e51bc8313820f2922cdf8ce005a29e38d"), looks := false }, kinds := [], alts := [], laidByText := true, laidKinds := [.data, .pinned], laidTests := true, laidLooks := .later }
def FnExactRowOfCardSaid : Prop := Claim7.holds Tryd.pinned (.plain (OpenSpec.ofChange fnExactRowOfSpec)) fnExactRowOfCard

/-- THE TIED CARD OF 'laws.FnCellsBent'. -/
def fnCellsBentCard : Claim7 := { stood := { row := fnCellsBentRow, standIns := [], harness := (true, "d1d85a7ce9e5ff2edc2796f5f38de15e51bc8313820f2922cdf8ce005a29e38d"), looks := false }, kinds := [], alts := [], laidByText := true, laidKinds := [.data, .pinned], laidTests := true, laidLooks := .later }
def FnCellsBentCardSaid : Prop := Claim7.holds Tryd.pinned (.plain (OpenSpec.ofChange fnCellsBentSpec)) fnCellsBentCard

/-- THE TIED CARD OF 'laws.FnExactTurn'. -/
def fnExactTurnCard : Claim7 := { stood := { row := fnExactTurnRow, standIns := [], harness := (true, "d1d85a7ce9e5ff2edc2796f5f38de15e51bc8313820f2922cdf8ce005a29e38d"), looks := false }, kinds := [], alts := [], laidByText := true, laidKinds := [.data, .pinned], laidTests := true, laidLooks := .later }
def FnExactTurnCardSaid : Prop := Claim7.holds Tryd.pinned (.plain (OpenSpec.ofChange fnExactTurnSpec)) fnExactTurnCard

/-- THE TIED CARD OF 'laws.FnCells'. -/
def fnCellsCard : Claim7 := { stood := { row := fnCellsRow, standIns := [], harness := (true, "d1d85a7ce9e5ff2edc2796f5f38de15e51bc8313820f2922cdf8ce005a29e38d"), looks := false }, kinds := [], alts := [], laidByText := true, laidKinds := [.data, .pinned], laidTests := true, laidLooks := .later }
def FnCellsCardSaid : Prop := Claim7.holds Tryd.pinned (.plain (OpenSpec.ofChange fnCellsSpec)) fnCellsCard

/-- THE TIED CARD OF 'laws.FnExactPutRec'. -/
def fnExactPutRecCard : Claim7 := { stood := { row := fnExactPutRecRow, standIns := [], harness := (true, "d1d85a7ce9e5ff2edc2796f5f38de15e51bc8313820f2922cdf8ce005a29e38d"), looks := false }, kinds := [], alts := [], laidByText := true, laidKinds := [.data, .pinned], laidTests := true, laidLooks := .later }
def FnExactPutRecCardSaid : Prop := Claim7.holds Tryd.pinned (.plain (OpenSpec.ofChange fnExactPutRecSpec)) fnExactPutRecCard

/-- THE TIED CARD OF 'laws.FnExactFillRow'. -/
def fnExactFillRowCard : Claim7 := { stood := { row := fnExactFillRowRow, standIns := [], harness := (true, "d1d85a7ce9e5ff2edc2796f5f38de15e51bc8313820f2922cdf8ce005a29e38d"), looks := false }, kinds := [], alts := [], laidByText := true, laidKinds := [.data, .pinned], laidTests := true, laidLooks := .later }
def FnExactFillRowCardSaid : Prop := Claim7.holds Tryd.pinned (.plain (OpenSpec.ofChange fnExactFillRowSpec)) fnExactFillRowCard

/-- THE TIED CARD OF 'laws.FnRows'. -/
def fnRowsCard : Claim7 := { stood := { row := fnRowsRow, standIns := [], harness := (true, "d1d85a7ce9e5ff2edc2796f5f38de15e51bc8313820f2922cdf8ce005a29e38d"), looks := false }, kinds := [], alts := [], laidByText := true, laidKinds := [.data, .pinned], laidTests := true, laidLooks := .later }
def FnRowsCardSaid : Prop := Claim7.holds Tryd.pinned (.plain (OpenSpec.ofChange fnRowsSpec)) fnRowsCard

/-- THE SECOND FORM's CARD OF 'laws.FnExactCellOf'. -/
def fnExactCellOfUptoCard : Claim7 := { stood := { row := fnExactCellOfUptoRow, standIns := [], harness := (true, "d1d85a7ce9e5ff2edc2796f5f38de15e51bc8313820f2922cdf8ce005a29e38d"), looks := false }, kinds := [], alts := [], laidByText := true, laidKinds := [.data, .pinned], laidTests := true, laidLooks := .later }
def FnExactCellOfUptoCardSaid : Prop := Claim7.holds Tryd.pinned (.plain (OpenSpec.upto fnExactCellOfSpec)) fnExactCellOfUptoCard

/-- THE SECOND FORM's CARD OF 'laws.FnExactRowOf'. -/
def fnExactRowOfUptoCard : Claim7 := { stood := { row := fnExactRowOfUptoRow, standIns := [], harness := (true, "d1d85a7ce9e5ff2edc2796f5f38de15e51bc8313820f2922cdf8ce005a29e38d"), looks := false }, kinds := [], alts := [], laidByText := true, laidKinds := [.data, .pinned], laidTests := true, laidLooks := .later }
def FnExactRowOfUptoCardSaid : Prop := Claim7.holds Tryd.pinned (.plain (OpenSpec.upto fnExactRowOfSpec)) fnExactRowOfUptoCard

/-- THE SECOND FORM's CARD OF 'laws.FnCellsBent'. -/
def fnCellsBentUptoCard : Claim7 := { stood := { row := fnCellsBentUptoRow, standIns := [], harness := (true, "d1d85a7ce9e5ff2edc2796f5f38de15e51bc8313820f2922cdf8ce005a29e38d"), looks := false }, kinds := [], alts := [], laidByText := true, laidKinds := [.data, .pinned], laidTests := true, laidLooks := .later }
def FnCellsBentUptoCardSaid : Prop := Claim7.holds Tryd.pinned (.plain (OpenSpec.upto fnCellsBentSpec)) fnCellsBentUptoCard

/-- THE SECOND FORM's CARD OF 'laws.FnExactTurn'. -/
def fnExactTurnUptoCard : Claim7 := { stood := { row := fnExactTurnUptoRow, standIns := [], harness := (true, "d1d85a7ce9e5ff2edc2796f5f38de15e51bc8313820f2922cdf8ce005a29e38d"), looks := false }, kinds := [], alts := [], laidByText := true, laidKinds := [.data, .pinned], laidTests := true, laidLooks := .later }
def FnExactTurnUptoCardSaid : Prop := Claim7.holds Tryd.pinned (.plain (OpenSpec.upto fnExactTurnSpec)) fnExactTurnUptoCard

/-- THE SECOND FORM's CARD OF 'laws.FnCells'. -/
def fnCellsUptoCard : Claim7 := { stood := { row := fnCellsUptoRow, standIns := [], harness := (true, "d1d85a7ce9e5ff2edc2796f5f38de15e51bc8313820f2922cdf8ce005a29e38d"), looks := false }, kinds := [], alts := [], laidByText := true, laidKinds := [.data, .pinned], laidTests := true, laidLooks := .later }
def FnCellsUptoCardSaid : Prop := Claim7.holds Tryd.pinned (.plain (OpenSpec.upto fnCellsSpec)) fnCellsUptoCard

/-- THE SECOND FORM's CARD OF 'laws.FnExactPutRec'. -/
def fnExactPutRecUptoCard : Claim7 := { stood := { row := fnExactPutRecUptoRow, standIns := [], harness := (true, "d1d85a7ce9e5ff2edc2796f5f38de15e51bc8313820f2922cdf8ce005a29e38d"), looks := false }, kinds := [], alts := [], laidByText := true, laidKinds := [.data, .pinned], laidTests := true, laidLooks := .later }
def FnExactPutRecUptoCardSaid : Prop := Claim7.holds Tryd.pinned (.plain (OpenSpec.upto fnExactPutRecSpec)) fnExactPutRecUptoCard

/-- THE SECOND FORM's CARD OF 'laws.FnExactFillRow'. -/
def fnExactFillRowUptoCard : Claim7 := { stood := { row := fnExactFillRowUptoRow, standIns := [], harness := (true, "d1d85a7ce9e5ff2edc2796f5f38de15e51bc8313820f2922cdf8ce005a29e38d"), looks := false }, kinds := [], alts := [], laidByText := true, laidKinds := [.data, .pinned], laidTests := true, laidLooks := .later }
def FnExactFillRowUptoCardSaid : Prop := Claim7.holds Tryd.pinned (.plain (OpenSpec.upto fnExactFillRowSpec)) fnExactFillRowUptoCard

/-- THE SECOND FORM's CARD OF 'laws.FnRows'. -/
def fnRowsUptoCard : Claim7 := { stood := { row := fnRowsUptoRow, standIns := [], harness := (true, "d1d85a7ce9e5ff2edc2796f5f38de15e51bc8313820f2922cdf8ce005a29e38d"), looks := false }, kinds := [], alts := [], laidByText := true, laidKinds := [.data, .pinned], laidTests := true, laidLooks := .later }
def FnRowsUptoCardSaid : Prop := Claim7.holds Tryd.pinned (.plain (OpenSpec.upto fnRowsSpec)) fnRowsUptoCard
end Rows
end Go.Proofs.YtboohaconpkhaaaDoor
