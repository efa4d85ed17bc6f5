/-
  DERIVED. GIVEN WITH THE SEED: THE CARDS: each row of YtbbdcgglfmhhpaaGreatDoorRows.lean that lists a variable, with what it lists TIED to the program's text (the seventh form; the later family's looks); each row that meets fmt, with fmt's text TOLD by the authors' own Lean function (tested against real Go, not proved from fmt's source: count such statements apart). THE CARD IS WHAT COUNTS. Prove the row's statement (the work); the ties are given (YtbbdcgglfmhhpaaGreatDoorTie.lean); close each card by the builder's one call (the guide's Derived/Test/ToyasCard.lean, 'card_holds'). Laid BY PROGRAM, IN A SANDBOX (cutbox-door.mjs). By AI agents, Wed Nov 11 2026. No macro, syntax, notation, axiom, sorry.
-/
import Derived.Test.YtbbdcgglfmhhpaaGreatDoorRows
import GoSem.ClaimSeven
namespace Go.Proofs.YtbbdcgglfmhhpaaGreatDoor
namespace Rows

/-- THE TIED CARD OF 'laws.FnExactLay'. -/
def fnExactLayCard : Claim7 := { stood := { row := fnExactLayRow, standIns := [], harness := (true, "c224e9c05b2b76d7fa226844b68300bbbca0a591d5b34602febbb08caf95caea"), looks := false }, kinds := [], alts := [], laidByText := true, laidKinds := [.data, .pinned], laidTests := true, laidLooks := .later }
def FnExactLayCardSaid : Prop := Claim7.holds Tryz.pinned (.plain (OpenSpec.ofChange fnExactLaySpec)) fnExactLayCard

/-- THE SECOND FORM's CARD OF 'laws.FnExactLay'. -/
def fnExactLayUptoCard : Claim7 := { stood := { row := fnExactLayUptoRow, standIns := [], harness := (true, "c224e9c05b2b76d7fa226844b68300bbbca0a591d5b34602febbb08caf95caea"), looks := false }, kinds := [], alts := [], laidByText := true, laidKinds := [.data, .pinned], laidTests := true, laidLooks := .later }
def FnExactLayUptoCardSaid : Prop := Claim7.holds Tryz.pinned (.plain (OpenSpec.upto fnExactLaySpec)) fnExactLayUptoCard
end Rows
end Go.Proofs.YtbbdcgglfmhhpaaGreatDoor
