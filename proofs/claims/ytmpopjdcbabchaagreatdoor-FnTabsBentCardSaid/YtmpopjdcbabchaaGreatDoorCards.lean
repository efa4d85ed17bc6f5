/-
  DERIVED. GIVEN WITH THE SEED: THE CARDS: each row of YtmpopjdcbabchaaGreatDoorRows.lean that lists a variable, with what it lists TIED to the program's text (the seventh form; the later family's looks); each row that meets fmt, with fmt's text TOLD by the authors' own Lean function (tested against real Go, not proved from fmt's source: count such statements apart). THE CARD IS WHAT COUNTS. Prove the row's statement (the work); the ties are given (YtmpopjdcbabchaaGreatDoorTie.lean); close each card by the builder's one call (the guide's Derived/Test/ToyasCard.lean, 'card_holds'). Laid BY PROGRAM, IN A SANDBOX (cutbox-door.mjs). By AI agents, Wed Nov 11 2026. No macro, syntax, notation, axiom, sorry.
-/
import Derived.Test.YtmpopjdcbabchaaGreatDoorRows
import GoSem.ClaimSeven
namespace Go.Proofs.YtmpopjdcbabchaaGreatDoor
namespace Rows

/-- THE TIED CARD OF 'laws.FnTabs'. -/
def fnTabsCard : Claim7 := { stood := { row := fnTabsRow, standIns := [], harness := (true, "87443cef66440d708b36bdd4ca3deeee65ab18ead46acf55e98f093a50b4e695"), looks := false }, kinds := [], alts := [], laidByText := true, laidKinds := [.data, .pinned], laidTests := true, laidLooks := .later }
def FnTabsCardSaid : Prop := Claim7.holds Tryz.pinned (.plain (OpenSpec.ofChange fnTabsSpec)) fnTabsCard

/-- THE TIED CARD OF 'laws.FnTabRecs'. -/
def fnTabRecsCard : Claim7 := { stood := { row := fnTabRecsRow, standIns := [], harness := (true, "87443cef66440d708b36bdd4ca3deeee65ab18ead46acf55e98f093a50b4e695"), looks := false }, kinds := [], alts := [], laidByText := true, laidKinds := [.data, .pinned], laidTests := true, laidLooks := .later }
def FnTabRecsCardSaid : Prop := Claim7.holds Tryz.pinned (.plain (OpenSpec.ofChange fnTabRecsSpec)) fnTabRecsCard

/-- THE TIED CARD OF 'laws.FnExactApply'. -/
def fnExactApplyCard : Claim7 := { stood := { row := fnExactApplyRow, standIns := [], harness := (true, "87443cef66440d708b36bdd4ca3deeee65ab18ead46acf55e98f093a50b4e695"), looks := false }, kinds := [], alts := [], laidByText := true, laidKinds := [.data, .pinned], laidTests := true, laidLooks := .later }
def FnExactApplyCardSaid : Prop := Claim7.holds Tryz.pinned (.plain (OpenSpec.ofChange fnExactApplySpec)) fnExactApplyCard

/-- THE TIED CARD OF 'laws.FnTabsBent'. -/
def fnTabsBentCard : Claim7 := { stood := { row := fnTabsBentRow, standIns := [], harness := (true, "87443cef66440d708b36bdd4ca3deeee65ab18ead46acf55e98f093a50b4e695"), looks := false }, kinds := [], alts := [], laidByText := true, laidKinds := [.data, .pinned], laidTests := true, laidLooks := .later }
def FnTabsBentCardSaid : Prop := Claim7.holds Tryz.pinned (.plain (OpenSpec.ofChange fnTabsBentSpec)) fnTabsBentCard

/-- THE SECOND FORM's CARD OF 'laws.FnTabs'. -/
def fnTabsUptoCard : Claim7 := { stood := { row := fnTabsUptoRow, standIns := [], harness := (true, "87443cef66440d708b36bdd4ca3deeee65ab18ead46acf55e98f093a50b4e695"), looks := false }, kinds := [], alts := [], laidByText := true, laidKinds := [.data, .pinned], laidTests := true, laidLooks := .later }
def FnTabsUptoCardSaid : Prop := Claim7.holds Tryz.pinned (.plain (OpenSpec.upto fnTabsSpec)) fnTabsUptoCard

/-- THE SECOND FORM's CARD OF 'laws.FnTabRecs'. -/
def fnTabRecsUptoCard : Claim7 := { stood := { row := fnTabRecsUptoRow, standIns := [], harness := (true, "87443cef66440d708b36bdd4ca3deeee65ab18ead46acf55e98f093a50b4e695"), looks := false }, kinds := [], alts := [], laidByText := true, laidKinds := [.data, .pinned], laidTests := true, laidLooks := .later }
def FnTabRecsUptoCardSaid : Prop := Claim7.holds Tryz.pinned (.plain (OpenSpec.upto fnTabRecsSpec)) fnTabRecsUptoCard

/-- THE SECOND FORM's CARD OF 'laws.FnExactApply'. -/
def fnExactApplyUptoCard : Claim7 := { stood := { row := fnExactApplyUptoRow, standIns := [], harness := (true, "87443cef66440d708b36bdd4ca3deeee65ab18ead46acf55e98f093a50b4e695"), looks := false }, kinds := [], alts := [], laidByText := true, laidKinds := [.data, .pinned], laidTests := true, laidLooks := .later }
def FnExactApplyUptoCardSaid : Prop := Claim7.holds Tryz.pinned (.plain (OpenSpec.upto fnExactApplySpec)) fnExactApplyUptoCard

/-- THE SECOND FORM's CARD OF 'laws.FnTabsBent'. -/
def fnTabsBentUptoCard : Claim7 := { stood := { row := fnTabsBentUptoRow, standIns := [], harness := (true, "87443cef66440d708b36bdd4ca3deeee65ab18ead46acf55e98f093a50b4e695"), looks := false }, kinds := [], alts := [], laidByText := true, laidKinds := [.data, .pinned], laidTests := true, laidLooks := .later }
def FnTabsBentUptoCardSaid : Prop := Claim7.holds Tryz.pinned (.plain (OpenSpec.upto fnTabsBentSpec)) fnTabsBentUptoCard
end Rows
end Go.Proofs.YtmpopjdcbabchaaGreatDoor
