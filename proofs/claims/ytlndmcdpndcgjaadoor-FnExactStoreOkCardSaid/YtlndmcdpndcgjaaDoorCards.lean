/-
  DERIVED. GIVEN WITH THE SEED: THE CARDS: each row of YtlndmcdpndcgjaaDoorRows.lean that lists a variable, with what it lists TIED to the program's text (the seventh form; the later family's looks); each row that meets fmt, with fmt's text TOLD by the authors' own Lean function (tested against real Go, not proved from fmt's source: count such statements apart). THE CARD IS WHAT COUNTS. Prove the row's statement (the work); the ties are given (YtlndmcdpndcgjaaDoorTie.lean); close each card by the builder's one call (the guide's Derived/Test/ToyasCard.lean, 'card_holds'). Laid BY PROGRAM, IN A SANDBOX (cutbox-door.mjs). By AI agents, Wed Nov 11 2026. No macro, syntax, notation, axiom, sorry.
-/
import Derived.Test.YtlndmcdpndcgjaaDoorRows
import GoSem.ClaimSeven
namespace Go.Proofs.YtlndmcdpndcgjaaDoor
namespace Rows

/-- THE TIED CARD OF 'laws.FnExactSameText'. -/
def fnExactSameTextCard : Claim7 := { stood := { row := fnExactSameTextRow, standIns := [], harness := (true, "86b9265c34f207daf37c2aca28ac37dd630500e182771f2b4200191fa0557cd2"), looks := false }, kinds := [], alts := [], laidByText := true, laidKinds := [.data, .pinned], laidTests := true, laidLooks := .later }
def FnExactSameTextCardSaid : Prop := Claim7.holds Tryd.pinned (.plain (OpenSpec.ofChange fnExactSameTextSpec)) fnExactSameTextCard

/-- THE TIED CARD OF 'laws.FnExactRowText'. -/
def fnExactRowTextCard : Claim7 := { stood := { row := fnExactRowTextRow, standIns := [], harness := (true, "86b9265c34f207daf37c2aca28ac37dd630500e182771f2b4200191fa0557cd2"), looks := false }, kinds := [], alts := [], laidByText := true, laidKinds := [.data, .pinned], laidTests := true, laidLooks := .later }
def FnExactRowTextCardSaid : Prop := Claim7.holds Tryd.pinned (.plain (OpenSpec.ofChange fnExactRowTextSpec)) fnExactRowTextCard

/-- THE TIED CARD OF 'laws.FnExactRowOk'. -/
def fnExactRowOkCard : Claim7 := { stood := { row := fnExactRowOkRow, standIns := [], harness := (true, "86b9265c34f207daf37c2aca28ac37dd630500e182771f2b4200191fa0557cd2"), looks := false }, kinds := [], alts := [], laidByText := true, laidKinds := [.data, .pinned], laidTests := true, laidLooks := .later }
def FnExactRowOkCardSaid : Prop := Claim7.holds Tryd.pinned (.plain (OpenSpec.ofChange fnExactRowOkSpec)) fnExactRowOkCard

/-- THE TIED CARD OF 'laws.FnExactCutRow'. -/
def fnExactCutRowCard : Claim7 := { stood := { row := fnExactCutRowRow, standIns := [], harness := (true, "86b9265c34f207daf37c2aca28ac37dd630500e182771f2b4200191fa0557cd2"), looks := false }, kinds := [], alts := [], laidByText := true, laidKinds := [.data, .pinned], laidTests := true, laidLooks := .later }
def FnExactCutRowCardSaid : Prop := Claim7.holds Tryd.pinned (.plain (OpenSpec.ofChange fnExactCutRowSpec)) fnExactCutRowCard

/-- THE TIED CARD OF 'laws.FnExactBackRow'. -/
def fnExactBackRowCard : Claim7 := { stood := { row := fnExactBackRowRow, standIns := [], harness := (true, "86b9265c34f207daf37c2aca28ac37dd630500e182771f2b4200191fa0557cd2"), looks := false }, kinds := [], alts := [], laidByText := true, laidKinds := [.data, .pinned], laidTests := true, laidLooks := .later }
def FnExactBackRowCardSaid : Prop := Claim7.holds Tryd.pinned (.plain (OpenSpec.ofChange fnExactBackRowSpec)) fnExactBackRowCard

/-- THE TIED CARD OF 'laws.FnExactPutRow'. -/
def fnExactPutRowCard : Claim7 := { stood := { row := fnExactPutRowRow, standIns := [], harness := (true, "86b9265c34f207daf37c2aca28ac37dd630500e182771f2b4200191fa0557cd2"), looks := false }, kinds := [], alts := [], laidByText := true, laidKinds := [.data, .pinned], laidTests := true, laidLooks := .later }
def FnExactPutRowCardSaid : Prop := Claim7.holds Tryd.pinned (.plain (OpenSpec.ofChange fnExactPutRowSpec)) fnExactPutRowCard

/-- THE TIED CARD OF 'laws.FnExactRecOk'. -/
def fnExactRecOkCard : Claim7 := { stood := { row := fnExactRecOkRow, standIns := [], harness := (true, "86b9265c34f207daf37c2aca28ac37dd630500e182771f2b4200191fa0557cd2"), looks := false }, kinds := [], alts := [], laidByText := true, laidKinds := [.data, .pinned], laidTests := true, laidLooks := .later }
def FnExactRecOkCardSaid : Prop := Claim7.holds Tryd.pinned (.plain (OpenSpec.ofChange fnExactRecOkSpec)) fnExactRecOkCard

/-- THE TIED CARD OF 'laws.FnExactGetRow'. -/
def fnExactGetRowCard : Claim7 := { stood := { row := fnExactGetRowRow, standIns := [], harness := (true, "86b9265c34f207daf37c2aca28ac37dd630500e182771f2b4200191fa0557cd2"), looks := false }, kinds := [], alts := [], laidByText := true, laidKinds := [.data, .pinned], laidTests := true, laidLooks := .later }
def FnExactGetRowCardSaid : Prop := Claim7.holds Tryd.pinned (.plain (OpenSpec.ofChange fnExactGetRowSpec)) fnExactGetRowCard

/-- THE TIED CARD OF 'laws.FnExactTabOk'. -/
def fnExactTabOkCard : Claim7 := { stood := { row := fnExactTabOkRow, standIns := [], harness := (true, "86b9265c34f207daf37c2aca28ac37dd630500e182771f2b4200191fa0557cd2"), looks := false }, kinds := [], alts := [], laidByText := true, laidKinds := [.data, .pinned], laidTests := true, laidLooks := .later }
def FnExactTabOkCardSaid : Prop := Claim7.holds Tryd.pinned (.plain (OpenSpec.ofChange fnExactTabOkSpec)) fnExactTabOkCard

/-- THE TIED CARD OF 'laws.FnExactGetRec'. -/
def fnExactGetRecCard : Claim7 := { stood := { row := fnExactGetRecRow, standIns := [], harness := (true, "86b9265c34f207daf37c2aca28ac37dd630500e182771f2b4200191fa0557cd2"), looks := false }, kinds := [], alts := [], laidByText := true, laidKinds := [.data, .pinned], laidTests := true, laidLooks := .later }
def FnExactGetRecCardSaid : Prop := Claim7.holds Tryd.pinned (.plain (OpenSpec.ofChange fnExactGetRecSpec)) fnExactGetRecCard

/-- THE TIED CARD OF 'laws.FnExactStoreOk'. -/
def fnExactStoreOkCard : Claim7 := { stood := { row := fnExactStoreOkRow, standIns := [], harness := (true, "86b9265c34f207daf37c2aca28ac37dd630500e182771f2b4200191fa0557cd2"), looks := false }, kinds := [], alts := [], laidByText := true, laidKinds := [.data, .pinned], laidTests := true, laidLooks := .later }
def FnExactStoreOkCardSaid : Prop := Claim7.holds Tryd.pinned (.plain (OpenSpec.ofChange fnExactStoreOkSpec)) fnExactStoreOkCard

/-- THE SECOND FORM's CARD OF 'laws.FnExactSameText'. -/
def fnExactSameTextUptoCard : Claim7 := { stood := { row := fnExactSameTextUptoRow, standIns := [], harness := (true, "86b9265c34f207daf37c2aca28ac37dd630500e182771f2b4200191fa0557cd2"), looks := false }, kinds := [], alts := [], laidByText := true, laidKinds := [.data, .pinned], laidTests := true, laidLooks := .later }
def FnExactSameTextUptoCardSaid : Prop := Claim7.holds Tryd.pinned (.plain (OpenSpec.upto fnExactSameTextSpec)) fnExactSameTextUptoCard

/-- THE SECOND FORM's CARD OF 'laws.FnExactRowText'. -/
def fnExactRowTextUptoCard : Claim7 := { stood := { row := fnExactRowTextUptoRow, standIns := [], harness := (true, "86b9265c34f207daf37c2aca28ac37dd630500e182771f2b4200191fa0557cd2"), looks := false }, kinds := [], alts := [], laidByText := true, laidKinds := [.data, .pinned], laidTests := true, laidLooks := .later }
def FnExactRowTextUptoCardSaid : Prop := Claim7.holds Tryd.pinned (.plain (OpenSpec.upto fnExactRowTextSpec)) fnExactRowTextUptoCard

/-- THE SECOND FORM's CARD OF 'laws.FnExactRowOk'. -/
def fnExactRowOkUptoCard : Claim7 := { stood := { row := fnExactRowOkUptoRow, standIns := [], harness := (true, "86b9265c34f207daf37c2aca28ac37dd630500e182771f2b4200191fa0557cd2"), looks := false }, kinds := [], alts := [], laidByText := true, laidKinds := [.data, .pinned], laidTests := true, laidLooks := .later }
def FnExactRowOkUptoCardSaid : Prop := Claim7.holds Tryd.pinned (.plain (OpenSpec.upto fnExactRowOkSpec)) fnExactRowOkUptoCard

/-- THE SECOND FORM's CARD OF 'laws.FnExactCutRow'. -/
def fnExactCutRowUptoCard : Claim7 := { stood := { row := fnExactCutRowUptoRow, standIns := [], harness := (true, "86b9265c34f207daf37c2aca28ac37dd630500e182771f2b4200191fa0557cd2"), looks := false }, kinds := [], alts := [], laidByText := true, laidKinds := [.data, .pinned], laidTests := true, laidLooks := .later }
def FnExactCutRowUptoCardSaid : Prop := Claim7.holds Tryd.pinned (.plain (OpenSpec.upto fnExactCutRowSpec)) fnExactCutRowUptoCard

/-- THE SECOND FORM's CARD OF 'laws.FnExactBackRow'. -/
def fnExactBackRowUptoCard : Claim7 := { stood := { row := fnExactBackRowUptoRow, standIns := [], harness := (true, "86b9265c34f207daf37c2aca28ac37dd630500e182771f2b4200191fa0557cd2"), looks := false }, kinds := [], alts := [], laidByText := true, laidKinds := [.data, .pinned], laidTests := true, laidLooks := .later }
def FnExactBackRowUptoCardSaid : Prop := Claim7.holds Tryd.pinned (.plain (OpenSpec.upto fnExactBackRowSpec)) fnExactBackRowUptoCard

/-- THE SECOND FORM's CARD OF 'laws.FnExactPutRow'. -/
def fnExactPutRowUptoCard : Claim7 := { stood := { row := fnExactPutRowUptoRow, standIns := [], harness := (true, "86b9265c34f207daf37c2aca28ac37dd630500e182771f2b4200191fa0557cd2"), looks := false }, kinds := [], alts := [], laidByText := true, laidKinds := [.data, .pinned], laidTests := true, laidLooks := .later }
def FnExactPutRowUptoCardSaid : Prop := Claim7.holds Tryd.pinned (.plain (OpenSpec.upto fnExactPutRowSpec)) fnExactPutRowUptoCard

/-- THE SECOND FORM's CARD OF 'laws.FnExactRecOk'. -/
def fnExactRecOkUptoCard : Claim7 := { stood := { row := fnExactRecOkUptoRow, standIns := [], harness := (true, "86b9265c34f207daf37c2aca28ac37dd630500e182771f2b4200191fa0557cd2"), looks := false }, kinds := [], alts := [], laidByText := true, laidKinds := [.data, .pinned], laidTests := true, laidLooks := .later }
def FnExactRecOkUptoCardSaid : Prop := Claim7.holds Tryd.pinned (.plain (OpenSpec.upto fnExactRecOkSpec)) fnExactRecOkUptoCard

/-- THE SECOND FORM's CARD OF 'laws.FnExactGetRow'. -/
def fnExactGetRowUptoCard : Claim7 := { stood := { row := fnExactGetRowUptoRow, standIns := [], harness := (true, "86b9265c34f207daf37c2aca28ac37dd630500e182771f2b4200191fa0557cd2"), looks := false }, kinds := [], alts := [], laidByText := true, laidKinds := [.data, .pinned], laidTests := true, laidLooks := .later }
def FnExactGetRowUptoCardSaid : Prop := Claim7.holds Tryd.pinned (.plain (OpenSpec.upto fnExactGetRowSpec)) fnExactGetRowUptoCard

/-- THE SECOND FORM's CARD OF 'laws.FnExactTabOk'. -/
def fnExactTabOkUptoCard : Claim7 := { stood := { row := fnExactTabOkUptoRow, standIns := [], harness := (true, "86b9265c34f207daf37c2aca28ac37dd630500e182771f2b4200191fa0557cd2"), looks := false }, kinds := [], alts := [], laidByText := true, laidKinds := [.data, .pinned], laidTests := true, laidLooks := .later }
def FnExactTabOkUptoCardSaid : Prop := Claim7.holds Tryd.pinned (.plain (OpenSpec.upto fnExactTabOkSpec)) fnExactTabOkUptoCard

/-- THE SECOND FORM's CARD OF 'laws.FnExactGetRec'. -/
def fnExactGetRecUptoCard : Claim7 := { stood := { row := fnExactGetRecUptoRow, standIns := [], harness := (true, "86b9265c34f207daf37c2aca28ac37dd630500e182771f2b4200191fa0557cd2"), looks := false }, kinds := [], alts := [], laidByText := true, laidKinds := [.data, .pinned], laidTests := true, laidLooks := .later }
def FnExactGetRecUptoCardSaid : Prop := Claim7.holds Tryd.pinned (.plain (OpenSpec.upto fnExactGetRecSpec)) fnExactGetRecUptoCard

/-- THE SECOND FORM's CARD OF 'laws.FnExactStoreOk'. -/
def fnExactStoreOkUptoCard : Claim7 := { stood := { row := fnExactStoreOkUptoRow, standIns := [], harness := (true, "86b9265c34f207daf37c2aca28ac37dd630500e182771f2b4200191fa0557cd2"), looks := false }, kinds := [], alts := [], laidByText := true, laidKinds := [.data, .pinned], laidTests := true, laidLooks := .later }
def FnExactStoreOkUptoCardSaid : Prop := Claim7.holds Tryd.pinned (.plain (OpenSpec.upto fnExactStoreOkSpec)) fnExactStoreOkUptoCard
end Rows
end Go.Proofs.YtlndmcdpndcgjaaDoor
