/-
  DERIVED. GIVEN WITH THE SEED: THE CARDS: each row of YtggfmlobpmndoaaGreatDoorRows.lean that lists a variable, with what it lists TIED to the program's text (the seventh form; the later family's looks); each row that meets fmt, with fmt's text TOLD by the authors' own Lean function (tested against real Go, not proved from fmt's source: count such statements apart). THE CARD IS WHAT COUNTS. Prove the row's statement (the work); the ties are given (YtggfmlobpmndoaaGreatDoorTie.lean); close each card by the builder's one call (the guide's Derived/Test/ToyasCard.lean, 'card_holds'). Laid BY PROGRAM, IN A SANDBOX (cutbox-door.mjs). By AI agents, Wed Nov 11 2026. No macro, syntax, notation, axiom, sorry.
-/
import Derived.Test.YtggfmlobpmndoaaGreatDoorRows
import GoSem.ClaimSeven
namespace Go.Proofs.YtggfmlobpmndoaaGreatDoor
namespace Rows

/-- THE TIED CARD OF 'laws.FnRowBytes'. -/
def fnRowBytesCard : Claim7 := { stood := { row := fnRowBytesRow, standIns := [], harness := (true, "72381b0c755bd788ba9e152a24f7124a8df3de168b8301d56f685b319c14fea2"), looks := false }, kinds := [], alts := [], laidByText := true, laidKinds := [.data, .pinned], laidTests := true, laidLooks := .later }
def FnRowBytesCardSaid : Prop := Claim7.holds Tryz.pinned (.plain (OpenSpec.ofChange fnRowBytesSpec)) fnRowBytesCard

/-- THE TIED CARD OF 'laws.FnTurned'. -/
def fnTurnedCard : Claim7 := { stood := { row := fnTurnedRow, standIns := [], harness := (true, "72381b0c755bd788ba9e152a24f7124a8df3de168b8301d56f685b319c14fea2"), looks := false }, kinds := [], alts := [], laidByText := true, laidKinds := [.data, .pinned], laidTests := true, laidLooks := .later }
def FnTurnedCardSaid : Prop := Claim7.holds Tryz.pinned (.plain (OpenSpec.ofChange fnTurnedSpec)) fnTurnedCard

/-- THE TIED CARD OF 'laws.FnTabs'. -/
def fnTabsCard : Claim7 := { stood := { row := fnTabsRow, standIns := [], harness := (true, "72381b0c755bd788ba9e152a24f7124a8df3de168b8301d56f685b319c14fea2"), looks := false }, kinds := [], alts := [], laidByText := true, laidKinds := [.data, .pinned], laidTests := true, laidLooks := .later }
def FnTabsCardSaid : Prop := Claim7.holds Tryz.pinned (.plain (OpenSpec.ofChange fnTabsSpec)) fnTabsCard

/-- THE TIED CARD OF 'laws.FnTabRecs'. -/
def fnTabRecsCard : Claim7 := { stood := { row := fnTabRecsRow, standIns := [], harness := (true, "72381b0c755bd788ba9e152a24f7124a8df3de168b8301d56f685b319c14fea2"), looks := false }, kinds := [], alts := [], laidByText := true, laidKinds := [.data, .pinned], laidTests := true, laidLooks := .later }
def FnTabRecsCardSaid : Prop := Claim7.holds Tryz.pinned (.plain (OpenSpec.ofChange fnTabRecsSpec)) fnTabRecsCard

/-- THE TIED CARD OF 'laws.FnExactApply'. -/
def fnExactApplyCard : Claim7 := { stood := { row := fnExactApplyRow, standIns := [], harness := (true, "72381b0c755bd788ba9e152a24f7124a8df3de168b8301d56f685b319c14fea2"), looks := false }, kinds := [], alts := [], laidByText := true, laidKinds := [.data, .pinned], laidTests := true, laidLooks := .later }
def FnExactApplyCardSaid : Prop := Claim7.holds Tryz.pinned (.plain (OpenSpec.ofChange fnExactApplySpec)) fnExactApplyCard

/-- THE TIED CARD OF 'laws.FnExactFormat'. -/
def fnExactFormatCard : Claim7 := { stood := { row := fnExactFormatRow, standIns := [], harness := (true, "72381b0c755bd788ba9e152a24f7124a8df3de168b8301d56f685b319c14fea2"), looks := false }, kinds := [], alts := [], laidByText := true, laidKinds := [.data, .pinned], laidTests := true, laidLooks := .later }
def FnExactFormatCardSaid : Prop := Claim7.holds Tryz.pinned (.plain (OpenSpec.ofChange fnExactFormatSpec)) fnExactFormatCard

/-- THE TIED CARD OF 'laws.FnRecs'. -/
def fnRecsCard : Claim7 := { stood := { row := fnRecsRow, standIns := [], harness := (true, "72381b0c755bd788ba9e152a24f7124a8df3de168b8301d56f685b319c14fea2"), looks := false }, kinds := [], alts := [], laidByText := true, laidKinds := [.data, .pinned], laidTests := true, laidLooks := .later }
def FnRecsCardSaid : Prop := Claim7.holds Tryz.pinned (.plain (OpenSpec.ofChange fnRecsSpec)) fnRecsCard

/-- THE TIED CARD OF 'laws.FnTabsBent'. -/
def fnTabsBentCard : Claim7 := { stood := { row := fnTabsBentRow, standIns := [], harness := (true, "72381b0c755bd788ba9e152a24f7124a8df3de168b8301d56f685b319c14fea2"), looks := false }, kinds := [], alts := [], laidByText := true, laidKinds := [.data, .pinned], laidTests := true, laidLooks := .later }
def FnTabsBentCardSaid : Prop := Claim7.holds Tryz.pinned (.plain (OpenSpec.ofChange fnTabsBentSpec)) fnTabsBentCard

/-- THE SECOND FORM's CARD OF 'laws.FnRowBytes'. -/
def fnRowBytesUptoCard : Claim7 := { stood := { row := fnRowBytesUptoRow, standIns := [], harness := (true, "72381b0c755bd788ba9e152a24f7124a8df3de168b8301d56f685b319c14fea2"), looks := false }, kinds := [], alts := [], laidByText := true, laidKinds := [.data, .pinned], laidTests := true, laidLooks := .later }
def FnRowBytesUptoCardSaid : Prop := Claim7.holds Tryz.pinned (.plain (OpenSpec.upto fnRowBytesSpec)) fnRowBytesUptoCard

/-- THE SECOND FORM's CARD OF 'laws.FnTurned'. -/
def fnTurnedUptoCard : Claim7 := { stood := { row := fnTurnedUptoRow, standIns := [], harness := (true, "72381b0c755bd788ba9e152a24f7124a8df3de168b8301d56f685b319c14fea2"), looks := false }, kinds := [], alts := [], laidByText := true, laidKinds := [.data, .pinned], laidTests := true, laidLooks := .later }
def FnTurnedUptoCardSaid : Prop := Claim7.holds Tryz.pinned (.plain (OpenSpec.upto fnTurnedSpec)) fnTurnedUptoCard

/-- THE SECOND FORM's CARD OF 'laws.FnTabs'. -/
def fnTabsUptoCard : Claim7 := { stood := { row := fnTabsUptoRow, standIns := [], harness := (true, "72381b0c755bd788ba9e152a24f7124a8df3de168b8301d56f685b319c14fea2"), looks := false }, kinds := [], alts := [], laidByText := true, laidKinds := [.data, .pinned], laidTests := true, laidLooks := .later }
def FnTabsUptoCardSaid : Prop := Claim7.holds Tryz.pinned (.plain (OpenSpec.upto fnTabsSpec)) fnTabsUptoCard

/-- THE SECOND FORM's CARD OF 'laws.FnTabRecs'. -/
def fnTabRecsUptoCard : Claim7 := { stood := { row := fnTabRecsUptoRow, standIns := [], harness := (true, "72381b0c755bd788ba9e152a24f7124a8df3de168b8301d56f685b319c14fea2"), looks := false }, kinds := [], alts := [], laidByText := true, laidKinds := [.data, .pinned], laidTests := true, laidLooks := .later }
def FnTabRecsUptoCardSaid : Prop := Claim7.holds Tryz.pinned (.plain (OpenSpec.upto fnTabRecsSpec)) fnTabRecsUptoCard

/-- THE SECOND FORM's CARD OF 'laws.FnExactApply'. -/
def fnExactApplyUptoCard : Claim7 := { stood := { row := fnExactApplyUptoRow, standIns := [], harness := (true, "72381b0c755bd788ba9e152a24f7124a8df3de168b8301d56f685b319c14fea2"), looks := false }, kinds := [], alts := [], laidByText := true, laidKinds := [.data, .pinned], laidTests := true, laidLooks := .later }
def FnExactApplyUptoCardSaid : Prop := Claim7.holds Tryz.pinned (.plain (OpenSpec.upto fnExactApplySpec)) fnExactApplyUptoCard

/-- THE SECOND FORM's CARD OF 'laws.FnExactFormat'. -/
def fnExactFormatUptoCard : Claim7 := { stood := { row := fnExactFormatUptoRow, standIns := [], harness := (true, "72381b0c755bd788ba9e152a24f7124a8df3de168b8301d56f685b319c14fea2"), looks := false }, kinds := [], alts := [], laidByText := true, laidKinds := [.data, .pinned], laidTests := true, laidLooks := .later }
def FnExactFormatUptoCardSaid : Prop := Claim7.holds Tryz.pinned (.plain (OpenSpec.upto fnExactFormatSpec)) fnExactFormatUptoCard

/-- THE SECOND FORM's CARD OF 'laws.FnRecs'. -/
def fnRecsUptoCard : Claim7 := { stood := { row := fnRecsUptoRow, standIns := [], harness := (true, "72381b0c755bd788ba9e152a24f7124a8df3de168b8301d56f685b319c14fea2"), looks := false }, kinds := [], alts := [], laidByText := true, laidKinds := [.data, .pinned], laidTests := true, laidLooks := .later }
def FnRecsUptoCardSaid : Prop := Claim7.holds Tryz.pinned (.plain (OpenSpec.upto fnRecsSpec)) fnRecsUptoCard

/-- THE SECOND FORM's CARD OF 'laws.FnTabsBent'. -/
def fnTabsBentUptoCard : Claim7 := { stood := { row := fnTabsBentUptoRow, standIns := [], harness := (true, "72381b0c755bd788ba9e152a24f7124a8df3de168b8301d56f685b319c14fea2"), looks := false }, kinds := [], alts := [], laidByText := true, laidKinds := [.data, .pinned], laidTests := true, laidLooks := .later }
def FnTabsBentUptoCardSaid : Prop := Claim7.holds Tryz.pinned (.plain (OpenSpec.upto fnTabsBentSpec)) fnTabsBentUptoCard
end Rows
end Go.Proofs.YtggfmlobpmndoaaGreatDoor
