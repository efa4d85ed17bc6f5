/-
  DERIVED. GIVEN WITH THE SEED: THE CARDS: each row of YtmfmjngkbddenaaGreatDoorRows.lean that lists a variable, with what it lists TIED to the program's text (the seventh form; the later family's looks); each row that meets fmt, with fmt's text TOLD by the authors' own Lean function (tested against real Go, not proved from fmt's source: count such statements apart). THE CARD IS WHAT COUNTS. Prove the row's statement (the work); the ties are given (YtmfmjngkbddenaaGreatDoorTie.lean); close each card by the builder's one call (the guide's Derived/Test/ToyasCard.lean, 'card_holds'). Laid BY PROGRAM, IN A SANDBOX (cutbox-door.mjs). By AI agents, Wed Nov 11 2026. No macro, syntax, notation, axiom, sorry.
-/
import Derived.Test.YtmfmjngkbddenaaGreatDoorRows
import GoSem.ClaimSeven
namespace Go.Proofs.YtmfmjngkbddenaaGreatDoor
namespace Rows

/-- THE TIED CARD OF 'laws.FnExactAdd'. -/
def fnExactAddCard : Claim7 := { stood := { row := fnExactAddRow, standIns := [], harness := (true, "7834f555b45da4a9643a5fa24a9aa1d155493c500aaf00d5b30ef527b536d680"), looks := false }, kinds := [], alts := [], laidByText := true, laidKinds := [.data, .pinned], laidTests := true, laidLooks := .later }
def FnExactAddCardSaid : Prop := Claim7.holds Tryz.pinned (.plain (OpenSpec.ofChange fnExactAddSpec)) fnExactAddCard

/-- THE TIED CARD OF 'laws.FnExactOpen'. -/
def fnExactOpenCard : Claim7 := { stood := { row := fnExactOpenRow, standIns := [], harness := (true, "7834f555b45da4a9643a5fa24a9aa1d155493c500aaf00d5b30ef527b536d680"), looks := false }, kinds := [], alts := [], laidByText := true, laidKinds := [.data, .pinned], laidTests := true, laidLooks := .later }
def FnExactOpenCardSaid : Prop := Claim7.holds Tryz.pinned (.plain (OpenSpec.ofChange fnExactOpenSpec)) fnExactOpenCard

/-- THE TIED CARD OF 'laws.FnStoresBent'. -/
def fnStoresBentCard : Claim7 := { stood := { row := fnStoresBentRow, standIns := [], harness := (true, "7834f555b45da4a9643a5fa24a9aa1d155493c500aaf00d5b30ef527b536d680"), looks := false }, kinds := [], alts := [], laidByText := true, laidKinds := [.data, .pinned], laidTests := true, laidLooks := .later }
def FnStoresBentCardSaid : Prop := Claim7.holds Tryz.pinned (.plain (OpenSpec.ofChange fnStoresBentSpec)) fnStoresBentCard

/-- THE TIED CARD OF 'laws.FnExactReplay'. -/
def fnExactReplayCard : Claim7 := { stood := { row := fnExactReplayRow, standIns := [], harness := (true, "7834f555b45da4a9643a5fa24a9aa1d155493c500aaf00d5b30ef527b536d680"), looks := false }, kinds := [], alts := [], laidByText := true, laidKinds := [.data, .pinned], laidTests := true, laidLooks := .later }
def FnExactReplayCardSaid : Prop := Claim7.holds Tryz.pinned (.plain (OpenSpec.ofChange fnExactReplaySpec)) fnExactReplayCard

/-- THE TIED CARD OF 'laws.FnStores'. -/
def fnStoresCard : Claim7 := { stood := { row := fnStoresRow, standIns := [], harness := (true, "7834f555b45da4a9643a5fa24a9aa1d155493c500aaf00d5b30ef527b536d680"), looks := false }, kinds := [], alts := [], laidByText := true, laidKinds := [.data, .pinned], laidTests := true, laidLooks := .later }
def FnStoresCardSaid : Prop := Claim7.holds Tryz.pinned (.plain (OpenSpec.ofChange fnStoresSpec)) fnStoresCard

/-- THE TIED CARD OF 'laws.FnTorn'. -/
def fnTornCard : Claim7 := { stood := { row := fnTornRow, standIns := [], harness := (true, "7834f555b45da4a9643a5fa24a9aa1d155493c500aaf00d5b30ef527b536d680"), looks := false }, kinds := [], alts := [], laidByText := true, laidKinds := [.data, .pinned], laidTests := true, laidLooks := .later }
def FnTornCardSaid : Prop := Claim7.holds Tryz.pinned (.plain (OpenSpec.ofChange fnTornSpec)) fnTornCard

/-- THE SECOND FORM's CARD OF 'laws.FnExactAdd'. -/
def fnExactAddUptoCard : Claim7 := { stood := { row := fnExactAddUptoRow, standIns := [], harness := (true, "7834f555b45da4a9643a5fa24a9aa1d155493c500aaf00d5b30ef527b536d680"), looks := false }, kinds := [], alts := [], laidByText := true, laidKinds := [.data, .pinned], laidTests := true, laidLooks := .later }
def FnExactAddUptoCardSaid : Prop := Claim7.holds Tryz.pinned (.plain (OpenSpec.upto fnExactAddSpec)) fnExactAddUptoCard

/-- THE SECOND FORM's CARD OF 'laws.FnExactOpen'. -/
def fnExactOpenUptoCard : Claim7 := { stood := { row := fnExactOpenUptoRow, standIns := [], harness := (true, "7834f555b45da4a9643a5fa24a9aa1d155493c500aaf00d5b30ef527b536d680"), looks := false }, kinds := [], alts := [], laidByText := true, laidKinds := [.data, .pinned], laidTests := true, laidLooks := .later }
def FnExactOpenUptoCardSaid : Prop := Claim7.holds Tryz.pinned (.plain (OpenSpec.upto fnExactOpenSpec)) fnExactOpenUptoCard

/-- THE SECOND FORM's CARD OF 'laws.FnStoresBent'. -/
def fnStoresBentUptoCard : Claim7 := { stood := { row := fnStoresBentUptoRow, standIns := [], harness := (true, "7834f555b45da4a9643a5fa24a9aa1d155493c500aaf00d5b30ef527b536d680"), looks := false }, kinds := [], alts := [], laidByText := true, laidKinds := [.data, .pinned], laidTests := true, laidLooks := .later }
def FnStoresBentUptoCardSaid : Prop := Claim7.holds Tryz.pinned (.plain (OpenSpec.upto fnStoresBentSpec)) fnStoresBentUptoCard

/-- THE SECOND FORM's CARD OF 'laws.FnExactReplay'. -/
def fnExactReplayUptoCard : Claim7 := { stood := { row := fnExactReplayUptoRow, standIns := [], harness := (true, "7834f555b45da4a9643a5fa24a9aa1d155493c500aaf00d5b30ef527b536d680"), looks := false }, kinds := [], alts := [], laidByText := true, laidKinds := [.data, .pinned], laidTests := true, laidLooks := .later }
def FnExactReplayUptoCardSaid : Prop := Claim7.holds Tryz.pinned (.plain (OpenSpec.upto fnExactReplaySpec)) fnExactReplayUptoCard

/-- THE SECOND FORM's CARD OF 'laws.FnStores'. -/
def fnStoresUptoCard : Claim7 := { stood := { row := fnStoresUptoRow, standIns := [], harness := (true, "7834f555b45da4a9643a5fa24a9aa1d155493c500aaf00d5b30ef527b536d680"), looks := false }, kinds := [], alts := [], laidByText := true, laidKinds := [.data, .pinned], laidTests := true, laidLooks := .later }
def FnStoresUptoCardSaid : Prop := Claim7.holds Tryz.pinned (.plain (OpenSpec.upto fnStoresSpec)) fnStoresUptoCard

/-- THE SECOND FORM's CARD OF 'laws.FnTorn'. -/
def fnTornUptoCard : Claim7 := { stood := { row := fnTornUptoRow, standIns := [], harness := (true, "7834f555b45da4a9643a5fa24a9aa1d155493c500aaf00d5b30ef527b536d680"), looks := false }, kinds := [], alts := [], laidByText := true, laidKinds := [.data, .pinned], laidTests := true, laidLooks := .later }
def FnTornUptoCardSaid : Prop := Claim7.holds Tryz.pinned (.plain (OpenSpec.upto fnTornSpec)) fnTornUptoCard
end Rows
end Go.Proofs.YtmfmjngkbddenaaGreatDoor
