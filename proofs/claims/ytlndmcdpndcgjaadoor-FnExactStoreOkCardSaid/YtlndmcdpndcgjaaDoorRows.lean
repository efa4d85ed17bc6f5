/-
  NARROWER THAN 'FOR EVERY INPUT', by the rows' own cells (each row's printed sentence says how): FnExactSameText: laid · FnExactRowText: laid · FnExactRowOk: laid · FnExactCutRow: laid · FnExactBackRow: laid · FnExactPutRow: laid · FnExactRecOk: laid · FnExactGetRow: laid · FnExactTabOk: laid · FnExactGetRec: laid · FnExactStoreOk: laid.
  DERIVED. THE GIVEN ROWS OF THIS SEAT. 11 by the template 'for every input the law returns true; each argument reads behind the call as it read before'; 0 by the template 'total and deterministic' (their statements: YtlndmcdpndcgjaaDoorTotals.lean).
  GIVEN WITH THE SEED: the statements are not yours to turn. If you find one false, say at which input.
  Laid BY PROGRAM, IN A SANDBOX (cutbox-rows.mjs): the forced cells as the released guide's own fill.sh prints them over the translation a18c10f3f5b5f3ef… (all of the seat's roots in one cut). By AI agents, Wed Nov 11 2026. No macro, syntax, notation, axiom, sorry.
-/
import Derived.Test.YtlndmcdpndcgjaaDoorChecked
import GoSem.PinnedTables
import GoSem.Claim
import GoSem.ClaimJoined
import GoSem.ClaimMapViews
import Derived.JoinedTies
import Derived.KernelRfl
namespace Go.Proofs.YtlndmcdpndcgjaaDoor
/- THE CELL 'sum', in the pinned program and in every row, IS THE sha256 OF THE DUMP (.gsa) THAT YtlndmcdpndcgjaaDoorProg.lean LOADS. Nothing in Lean hashes anything: it is a label: what it is worth is what the hold of that sum in a sandbox is worth. -/
noncomputable def Tryd.pinned : Pinned := { name := "ytlndmcdpndcgjaadoor", sum := "a18c10f3f5b5f3ef047587e3b86ffbff96f4ec485dd29b28a8bae97ac8ab3831", checked := Tryd.checked }
namespace Rows
def none {H : Type} : Left H := { results := [], args := [] }

/- WHAT THE LISTED PACKAGE-LEVEL VARIABLES READ AS WHEN THE CALL BEGINS. Each datum BY PROGRAM (the guide's laid-datum.mjs) off the statement by which the dump's own 'gosem.cut.vars' lays the variable. In a bare row this is a premise. The card (YtlndmcdpndcgjaaDoorCards.lean) ties it to the program's text. -/
def laid_unicode_utf8_acceptRanges {H : Type} : DataW H := .agg [.agg [.lit (.int .u8 128), .lit (.int .u8 191)], .agg [.lit (.int .u8 160), .lit (.int .u8 191)], .agg [.lit (.int .u8 128), .lit (.int .u8 159)], .agg [.lit (.int .u8 144), .lit (.int .u8 191)], .agg [.lit (.int .u8 128), .lit (.int .u8 143)], .agg [.lit (.int .u8 0), .lit (.int .u8 0)], .agg [.lit (.int .u8 0), .lit (.int .u8 0)], .agg [.lit (.int .u8 0), .lit (.int .u8 0)], .agg [.lit (.int .u8 0), .lit (.int .u8 0)], .agg [.lit (.int .u8 0), .lit (.int .u8 0)], .agg [.lit (.int .u8 0), .lit (.int .u8 0)], .agg [.lit (.int .u8 0), .lit (.int .u8 0)], .agg [.lit (.int .u8 0), .lit (.int .u8 0)], .agg [.lit (.int .u8 0), .lit (.int .u8 0)], .agg [.lit (.int .u8 0), .lit (.int .u8 0)], .agg [.lit (.int .u8 0), .lit (.int .u8 0)]]
/-- One of Go's own tables, pinned by name: the form's constant. -/
def laid_unicode_utf8_first : DataW Unit := Go.Pinned.utf8First

/-- 'laws.FnExactSameText': WHATEVER THE INPUT: true; the input reads as it did. -/
def fnExactSameTextSpec : ChangeSpec := { name := "fnExactSameText", fn := fun _ => fun
  | [d1, d2] => { results := [.lit (.bool true)], args := [d1, d2] }
  | _ => none }
def fnExactSameTextRow : OpenClaim := { program := "ytlndmcdpndcgjaadoor", sum := "a18c10f3f5b5f3ef047587e3b86ffbff96f4ec485dd29b28a8bae97ac8ab3831", func := "loop.example/g00475/laws.FnExactSameText", spec := "fnExactSameText", named := ["unicode/utf8.first", "unicode/utf8.acceptRanges"], apart := false, laid := [("unicode/utf8.acceptRanges", laid_unicode_utf8_acceptRanges), ("unicode/utf8.first", laid_unicode_utf8_first)] }
def FnExactSameTextSaid : Prop := fnExactSameTextRow.holds Tryd.pinned (OpenSpec.ofChange fnExactSameTextSpec)

/-- ITS FALSE NEIGHBOUR: 'it returns false'. Refute it at one input. -/
def fnExactSameTextWrong : ChangeSpec := { name := "fnExactSameText", fn := fun _ => fun
  | [d1, d2] => { results := [.lit (.bool false)], args := [d1, d2] }
  | _ => none }
def FnExactSameTextWrongFalsely : Prop := fnExactSameTextRow.holds Tryd.pinned (OpenSpec.ofChange fnExactSameTextWrong)

/-- 'laws.FnExactRowText': WHATEVER THE INPUT: true; the input reads as it did. -/
def fnExactRowTextSpec : ChangeSpec := { name := "fnExactRowText", fn := fun _ => fun
  | [d] => { results := [.lit (.bool true)], args := [d] }
  | _ => none }
def fnExactRowTextRow : OpenClaim := { program := "ytlndmcdpndcgjaadoor", sum := "a18c10f3f5b5f3ef047587e3b86ffbff96f4ec485dd29b28a8bae97ac8ab3831", func := "loop.example/g00475/laws.FnExactRowText", spec := "fnExactRowText", named := ["unicode/utf8.first", "unicode/utf8.acceptRanges"], apart := false, laid := [("unicode/utf8.acceptRanges", laid_unicode_utf8_acceptRanges), ("unicode/utf8.first", laid_unicode_utf8_first)] }
def FnExactRowTextSaid : Prop := fnExactRowTextRow.holds Tryd.pinned (OpenSpec.ofChange fnExactRowTextSpec)

/-- ITS FALSE NEIGHBOUR: 'it returns false'. Refute it at one input. -/
def fnExactRowTextWrong : ChangeSpec := { name := "fnExactRowText", fn := fun _ => fun
  | [d] => { results := [.lit (.bool false)], args := [d] }
  | _ => none }
def FnExactRowTextWrongFalsely : Prop := fnExactRowTextRow.holds Tryd.pinned (OpenSpec.ofChange fnExactRowTextWrong)

/-- 'laws.FnExactRowOk': WHATEVER THE INPUT: true; the input reads as it did. -/
def fnExactRowOkSpec : ChangeSpec := { name := "fnExactRowOk", fn := fun _ => fun
  | [d] => { results := [.lit (.bool true)], args := [d] }
  | _ => none }
def fnExactRowOkRow : OpenClaim := { program := "ytlndmcdpndcgjaadoor", sum := "a18c10f3f5b5f3ef047587e3b86ffbff96f4ec485dd29b28a8bae97ac8ab3831", func := "loop.example/g00475/laws.FnExactRowOk", spec := "fnExactRowOk", named := ["unicode/utf8.first", "unicode/utf8.acceptRanges"], apart := false, laid := [("unicode/utf8.acceptRanges", laid_unicode_utf8_acceptRanges), ("unicode/utf8.first", laid_unicode_utf8_first)] }
def FnExactRowOkSaid : Prop := fnExactRowOkRow.holds Tryd.pinned (OpenSpec.ofChange fnExactRowOkSpec)

/-- ITS FALSE NEIGHBOUR: 'it returns false'. Refute it at one input. -/
def fnExactRowOkWrong : ChangeSpec := { name := "fnExactRowOk", fn := fun _ => fun
  | [d] => { results := [.lit (.bool false)], args := [d] }
  | _ => none }
def FnExactRowOkWrongFalsely : Prop := fnExactRowOkRow.holds Tryd.pinned (OpenSpec.ofChange fnExactRowOkWrong)

/-- 'laws.FnExactCutRow': WHATEVER THE INPUT: true; the input reads as it did. -/
def fnExactCutRowSpec : ChangeSpec := { name := "fnExactCutRow", fn := fun _ => fun
  | [d] => { results := [.lit (.bool true)], args := [d] }
  | _ => none }
def fnExactCutRowRow : OpenClaim := { program := "ytlndmcdpndcgjaadoor", sum := "a18c10f3f5b5f3ef047587e3b86ffbff96f4ec485dd29b28a8bae97ac8ab3831", func := "loop.example/g00475/laws.FnExactCutRow", spec := "fnExactCutRow", named := ["unicode/utf8.first", "unicode/utf8.acceptRanges"], apart := false, laid := [("unicode/utf8.acceptRanges", laid_unicode_utf8_acceptRanges), ("unicode/utf8.first", laid_unicode_utf8_first)] }
def FnExactCutRowSaid : Prop := fnExactCutRowRow.holds Tryd.pinned (OpenSpec.ofChange fnExactCutRowSpec)

/-- ITS FALSE NEIGHBOUR: 'it returns false'. Refute it at one input. -/
def fnExactCutRowWrong : ChangeSpec := { name := "fnExactCutRow", fn := fun _ => fun
  | [d] => { results := [.lit (.bool false)], args := [d] }
  | _ => none }
def FnExactCutRowWrongFalsely : Prop := fnExactCutRowRow.holds Tryd.pinned (OpenSpec.ofChange fnExactCutRowWrong)

/-- 'laws.FnExactBackRow': WHATEVER THE INPUT: true; the input reads as it did. -/
def fnExactBackRowSpec : ChangeSpec := { name := "fnExactBackRow", fn := fun _ => fun
  | [d] => { results := [.lit (.bool true)], args := [d] }
  | _ => none }
def fnExactBackRowRow : OpenClaim := { program := "ytlndmcdpndcgjaadoor", sum := "a18c10f3f5b5f3ef047587e3b86ffbff96f4ec485dd29b28a8bae97ac8ab3831", func := "loop.example/g00475/laws.FnExactBackRow", spec := "fnExactBackRow", named := ["unicode/utf8.first", "unicode/utf8.acceptRanges"], apart := false, laid := [("unicode/utf8.acceptRanges", laid_unicode_utf8_acceptRanges), ("unicode/utf8.first", laid_unicode_utf8_first)] }
def FnExactBackRowSaid : Prop := fnExactBackRowRow.holds Tryd.pinned (OpenSpec.ofChange fnExactBackRowSpec)

/-- ITS FALSE NEIGHBOUR: 'it returns false'. Refute it at one input. -/
def fnExactBackRowWrong : ChangeSpec := { name := "fnExactBackRow", fn := fun _ => fun
  | [d] => { results := [.lit (.bool false)], args := [d] }
  | _ => none }
def FnExactBackRowWrongFalsely : Prop := fnExactBackRowRow.holds Tryd.pinned (OpenSpec.ofChange fnExactBackRowWrong)

/-- 'laws.FnExactPutRow': WHATEVER THE INPUT: true; the input reads as it did. -/
def fnExactPutRowSpec : ChangeSpec := { name := "fnExactPutRow", fn := fun _ => fun
  | [d1, d2] => { results := [.lit (.bool true)], args := [d1, d2] }
  | _ => none }
def fnExactPutRowRow : OpenClaim := { program := "ytlndmcdpndcgjaadoor", sum := "a18c10f3f5b5f3ef047587e3b86ffbff96f4ec485dd29b28a8bae97ac8ab3831", func := "loop.example/g00475/laws.FnExactPutRow", spec := "fnExactPutRow", named := ["unicode/utf8.first", "unicode/utf8.acceptRanges"], apart := false, laid := [("unicode/utf8.acceptRanges", laid_unicode_utf8_acceptRanges), ("unicode/utf8.first", laid_unicode_utf8_first)] }
def FnExactPutRowSaid : Prop := fnExactPutRowRow.holds Tryd.pinned (OpenSpec.ofChange fnExactPutRowSpec)

/-- ITS FALSE NEIGHBOUR: 'it returns false'. Refute it at one input. -/
def fnExactPutRowWrong : ChangeSpec := { name := "fnExactPutRow", fn := fun _ => fun
  | [d1, d2] => { results := [.lit (.bool false)], args := [d1, d2] }
  | _ => none }
def FnExactPutRowWrongFalsely : Prop := fnExactPutRowRow.holds Tryd.pinned (OpenSpec.ofChange fnExactPutRowWrong)

/-- 'laws.FnExactRecOk': WHATEVER THE INPUT: true; the input reads as it did. -/
def fnExactRecOkSpec : ChangeSpec := { name := "fnExactRecOk", fn := fun _ => fun
  | [d] => { results := [.lit (.bool true)], args := [d] }
  | _ => none }
def fnExactRecOkRow : OpenClaim := { program := "ytlndmcdpndcgjaadoor", sum := "a18c10f3f5b5f3ef047587e3b86ffbff96f4ec485dd29b28a8bae97ac8ab3831", func := "loop.example/g00475/laws.FnExactRecOk", spec := "fnExactRecOk", named := ["unicode/utf8.first", "unicode/utf8.acceptRanges"], apart := false, laid := [("unicode/utf8.acceptRanges", laid_unicode_utf8_acceptRanges), ("unicode/utf8.first", laid_unicode_utf8_first)] }
def FnExactRecOkSaid : Prop := fnExactRecOkRow.holds Tryd.pinned (OpenSpec.ofChange fnExactRecOkSpec)

/-- ITS FALSE NEIGHBOUR: 'it returns false'. Refute it at one input. -/
def fnExactRecOkWrong : ChangeSpec := { name := "fnExactRecOk", fn := fun _ => fun
  | [d] => { results := [.lit (.bool false)], args := [d] }
  | _ => none }
def FnExactRecOkWrongFalsely : Prop := fnExactRecOkRow.holds Tryd.pinned (OpenSpec.ofChange fnExactRecOkWrong)

/-- 'laws.FnExactGetRow': WHATEVER THE INPUT: true; the input reads as it did. -/
def fnExactGetRowSpec : ChangeSpec := { name := "fnExactGetRow", fn := fun _ => fun
  | [d1, d2] => { results := [.lit (.bool true)], args := [d1, d2] }
  | _ => none }
def fnExactGetRowRow : OpenClaim := { program := "ytlndmcdpndcgjaadoor", sum := "a18c10f3f5b5f3ef047587e3b86ffbff96f4ec485dd29b28a8bae97ac8ab3831", func := "loop.example/g00475/laws.FnExactGetRow", spec := "fnExactGetRow", named := ["unicode/utf8.first", "unicode/utf8.acceptRanges"], apart := false, laid := [("unicode/utf8.acceptRanges", laid_unicode_utf8_acceptRanges), ("unicode/utf8.first", laid_unicode_utf8_first)] }
def FnExactGetRowSaid : Prop := fnExactGetRowRow.holds Tryd.pinned (OpenSpec.ofChange fnExactGetRowSpec)

/-- ITS FALSE NEIGHBOUR: 'it returns false'. Refute it at one input. -/
def fnExactGetRowWrong : ChangeSpec := { name := "fnExactGetRow", fn := fun _ => fun
  | [d1, d2] => { results := [.lit (.bool false)], args := [d1, d2] }
  | _ => none }
def FnExactGetRowWrongFalsely : Prop := fnExactGetRowRow.holds Tryd.pinned (OpenSpec.ofChange fnExactGetRowWrong)

/-- 'laws.FnExactTabOk': WHATEVER THE INPUT: true; the input reads as it did. -/
def fnExactTabOkSpec : ChangeSpec := { name := "fnExactTabOk", fn := fun _ => fun
  | [d] => { results := [.lit (.bool true)], args := [d] }
  | _ => none }
def fnExactTabOkRow : OpenClaim := { program := "ytlndmcdpndcgjaadoor", sum := "a18c10f3f5b5f3ef047587e3b86ffbff96f4ec485dd29b28a8bae97ac8ab3831", func := "loop.example/g00475/laws.FnExactTabOk", spec := "fnExactTabOk", named := ["unicode/utf8.first", "unicode/utf8.acceptRanges"], apart := false, laid := [("unicode/utf8.acceptRanges", laid_unicode_utf8_acceptRanges), ("unicode/utf8.first", laid_unicode_utf8_first)] }
def FnExactTabOkSaid : Prop := fnExactTabOkRow.holds Tryd.pinned (OpenSpec.ofChange fnExactTabOkSpec)

/-- ITS FALSE NEIGHBOUR: 'it returns false'. Refute it at one input. -/
def fnExactTabOkWrong : ChangeSpec := { name := "fnExactTabOk", fn := fun _ => fun
  | [d] => { results := [.lit (.bool false)], args := [d] }
  | _ => none }
def FnExactTabOkWrongFalsely : Prop := fnExactTabOkRow.holds Tryd.pinned (OpenSpec.ofChange fnExactTabOkWrong)

/-- 'laws.FnExactGetRec': WHATEVER THE INPUT: true; the input reads as it did. -/
def fnExactGetRecSpec : ChangeSpec := { name := "fnExactGetRec", fn := fun _ => fun
  | [d] => { results := [.lit (.bool true)], args := [d] }
  | _ => none }
def fnExactGetRecRow : OpenClaim := { program := "ytlndmcdpndcgjaadoor", sum := "a18c10f3f5b5f3ef047587e3b86ffbff96f4ec485dd29b28a8bae97ac8ab3831", func := "loop.example/g00475/laws.FnExactGetRec", spec := "fnExactGetRec", named := ["unicode/utf8.first", "unicode/utf8.acceptRanges"], apart := false, laid := [("unicode/utf8.acceptRanges", laid_unicode_utf8_acceptRanges), ("unicode/utf8.first", laid_unicode_utf8_first)] }
def FnExactGetRecSaid : Prop := fnExactGetRecRow.holds Tryd.pinned (OpenSpec.ofChange fnExactGetRecSpec)

/-- ITS FALSE NEIGHBOUR: 'it returns false'. Refute it at one input. -/
def fnExactGetRecWrong : ChangeSpec := { name := "fnExactGetRec", fn := fun _ => fun
  | [d] => { results := [.lit (.bool false)], args := [d] }
  | _ => none }
def FnExactGetRecWrongFalsely : Prop := fnExactGetRecRow.holds Tryd.pinned (OpenSpec.ofChange fnExactGetRecWrong)

/-- 'laws.FnExactStoreOk': WHATEVER THE INPUT: true; the input reads as it did. -/
def fnExactStoreOkSpec : ChangeSpec := { name := "fnExactStoreOk", fn := fun _ => fun
  | [d] => { results := [.lit (.bool true)], args := [d] }
  | _ => none }
def fnExactStoreOkRow : OpenClaim := { program := "ytlndmcdpndcgjaadoor", sum := "a18c10f3f5b5f3ef047587e3b86ffbff96f4ec485dd29b28a8bae97ac8ab3831", func := "loop.example/g00475/laws.FnExactStoreOk", spec := "fnExactStoreOk", named := ["unicode/utf8.first", "unicode/utf8.acceptRanges"], apart := false, laid := [("unicode/utf8.acceptRanges", laid_unicode_utf8_acceptRanges), ("unicode/utf8.first", laid_unicode_utf8_first)] }
def FnExactStoreOkSaid : Prop := fnExactStoreOkRow.holds Tryd.pinned (OpenSpec.ofChange fnExactStoreOkSpec)

/-- ITS FALSE NEIGHBOUR: 'it returns false'. Refute it at one input. -/
def fnExactStoreOkWrong : ChangeSpec := { name := "fnExactStoreOk", fn := fun _ => fun
  | [d] => { results := [.lit (.bool false)], args := [d] }
  | _ => none }
def FnExactStoreOkWrongFalsely : Prop := fnExactStoreOkRow.holds Tryd.pinned (OpenSpec.ofChange fnExactStoreOkWrong)

/- THE SECOND FORM. 'bulk': how many values and letters a reading holds, each counted each time it is reached (what is shared counts as often as it is met; a slice's spare places count too). A statement '..UptoSaid' is the law's where the arguments, and the package variables that the reading takes, are together of bulk at most 1048576: NARROWER than '..Said'. Prove '..Said' where nothing that the law and all that it calls make is longer than what came in: it says more and counts as full. Else prove '..UptoSaid'. A law counts once. -/
mutual
def uptoBulk {H : Type} : DataW H → Nat
  | .lit (.string bytes) => bytes.length + 1
  | .lit _ => 1
  | .nil => 1
  | .ptr d => uptoBulk d + 1
  | .slice elems spare => uptoBulkAll elems + uptoBulkAll spare + 1
  | .agg parts => uptoBulkAll parts + 1
  | .iface _ d => uptoBulk d + 1
  | .map entries => uptoBulkEntries entries + 1
  | .held _ => 1
def uptoBulkAll {H : Type} : List (DataW H) → Nat
  | [] => 0
  | d :: r => uptoBulk d + uptoBulkAll r
def uptoBulkEntries {H : Type} : List (Lit × DataW H) → Nat
  | [] => 0
  | x :: r => uptoBulkEntry x + uptoBulkEntries r
def uptoBulkEntry {H : Type} : Lit × DataW H → Nat
  | (.string bytes, d) => bytes.length + uptoBulk d + 1
  | (_, d) => uptoBulk d + 1
 end
def uptoSmall : (H : Type) → List (DataW H) → Bool := fun _ ds => decide (uptoBulkAll ds ≤ 1048576)
def OpenSpec.upto (s : _root_.Go.ChangeSpec) : _root_.Go.OpenSpec := { _root_.Go.OpenSpec.ofChange s with cond := some uptoSmall }

/-- 'laws.FnExactSameText', WHERE WHAT IT READS IS OF BULK AT MOST 1048576: true; the input reads as it did. -/
def fnExactSameTextUptoRow : OpenClaim := { program := "ytlndmcdpndcgjaadoor", sum := "a18c10f3f5b5f3ef047587e3b86ffbff96f4ec485dd29b28a8bae97ac8ab3831", func := "loop.example/g00475/laws.FnExactSameText", spec := "fnExactSameText", named := ["unicode/utf8.first", "unicode/utf8.acceptRanges"], apart := false, laid := [("unicode/utf8.acceptRanges", laid_unicode_utf8_acceptRanges), ("unicode/utf8.first", laid_unicode_utf8_first)], narrowed := true }
def FnExactSameTextUptoSaid : Prop := fnExactSameTextUptoRow.holds Tryd.pinned (OpenSpec.upto fnExactSameTextSpec)

/-- 'laws.FnExactRowText', WHERE WHAT IT READS IS OF BULK AT MOST 1048576: true; the input reads as it did. -/
def fnExactRowTextUptoRow : OpenClaim := { program := "ytlndmcdpndcgjaadoor", sum := "a18c10f3f5b5f3ef047587e3b86ffbff96f4ec485dd29b28a8bae97ac8ab3831", func := "loop.example/g00475/laws.FnExactRowText", spec := "fnExactRowText", named := ["unicode/utf8.first", "unicode/utf8.acceptRanges"], apart := false, laid := [("unicode/utf8.acceptRanges", laid_unicode_utf8_acceptRanges), ("unicode/utf8.first", laid_unicode_utf8_first)], narrowed := true }
def FnExactRowTextUptoSaid : Prop := fnExactRowTextUptoRow.holds Tryd.pinned (OpenSpec.upto fnExactRowTextSpec)

/-- 'laws.FnExactRowOk', WHERE WHAT IT READS IS OF BULK AT MOST 1048576: true; the input reads as it did. -/
def fnExactRowOkUptoRow : OpenClaim := { program := "ytlndmcdpndcgjaadoor", sum := "a18c10f3f5b5f3ef047587e3b86ffbff96f4ec485dd29b28a8bae97ac8ab3831", func := "loop.example/g00475/laws.FnExactRowOk", spec := "fnExactRowOk", named := ["unicode/utf8.first", "unicode/utf8.acceptRanges"], apart := false, laid := [("unicode/utf8.acceptRanges", laid_unicode_utf8_acceptRanges), ("unicode/utf8.first", laid_unicode_utf8_first)], narrowed := true }
def FnExactRowOkUptoSaid : Prop := fnExactRowOkUptoRow.holds Tryd.pinned (OpenSpec.upto fnExactRowOkSpec)

/-- 'laws.FnExactCutRow', WHERE WHAT IT READS IS OF BULK AT MOST 1048576: true; the input reads as it did. -/
def fnExactCutRowUptoRow : OpenClaim := { program := "ytlndmcdpndcgjaadoor", sum := "a18c10f3f5b5f3ef047587e3b86ffbff96f4ec485dd29b28a8bae97ac8ab3831", func := "loop.example/g00475/laws.FnExactCutRow", spec := "fnExactCutRow", named := ["unicode/utf8.first", "unicode/utf8.acceptRanges"], apart := false, laid := [("unicode/utf8.acceptRanges", laid_unicode_utf8_acceptRanges), ("unicode/utf8.first", laid_unicode_utf8_first)], narrowed := true }
def FnExactCutRowUptoSaid : Prop := fnExactCutRowUptoRow.holds Tryd.pinned (OpenSpec.upto fnExactCutRowSpec)

/-- 'laws.FnExactBackRow', WHERE WHAT IT READS IS OF BULK AT MOST 1048576: true; the input reads as it did. -/
def fnExactBackRowUptoRow : OpenClaim := { program := "ytlndmcdpndcgjaadoor", sum := "a18c10f3f5b5f3ef047587e3b86ffbff96f4ec485dd29b28a8bae97ac8ab3831", func := "loop.example/g00475/laws.FnExactBackRow", spec := "fnExactBackRow", named := ["unicode/utf8.first", "unicode/utf8.acceptRanges"], apart := false, laid := [("unicode/utf8.acceptRanges", laid_unicode_utf8_acceptRanges), ("unicode/utf8.first", laid_unicode_utf8_first)], narrowed := true }
def FnExactBackRowUptoSaid : Prop := fnExactBackRowUptoRow.holds Tryd.pinned (OpenSpec.upto fnExactBackRowSpec)

/-- 'laws.FnExactPutRow', WHERE WHAT IT READS IS OF BULK AT MOST 1048576: true; the input reads as it did. -/
def fnExactPutRowUptoRow : OpenClaim := { program := "ytlndmcdpndcgjaadoor", sum := "a18c10f3f5b5f3ef047587e3b86ffbff96f4ec485dd29b28a8bae97ac8ab3831", func := "loop.example/g00475/laws.FnExactPutRow", spec := "fnExactPutRow", named := ["unicode/utf8.first", "unicode/utf8.acceptRanges"], apart := false, laid := [("unicode/utf8.acceptRanges", laid_unicode_utf8_acceptRanges), ("unicode/utf8.first", laid_unicode_utf8_first)], narrowed := true }
def FnExactPutRowUptoSaid : Prop := fnExactPutRowUptoRow.holds Tryd.pinned (OpenSpec.upto fnExactPutRowSpec)

/-- 'laws.FnExactRecOk', WHERE WHAT IT READS IS OF BULK AT MOST 1048576: true; the input reads as it did. -/
def fnExactRecOkUptoRow : OpenClaim := { program := "ytlndmcdpndcgjaadoor", sum := "a18c10f3f5b5f3ef047587e3b86ffbff96f4ec485dd29b28a8bae97ac8ab3831", func := "loop.example/g00475/laws.FnExactRecOk", spec := "fnExactRecOk", named := ["unicode/utf8.first", "unicode/utf8.acceptRanges"], apart := false, laid := [("unicode/utf8.acceptRanges", laid_unicode_utf8_acceptRanges), ("unicode/utf8.first", laid_unicode_utf8_first)], narrowed := true }
def FnExactRecOkUptoSaid : Prop := fnExactRecOkUptoRow.holds Tryd.pinned (OpenSpec.upto fnExactRecOkSpec)

/-- 'laws.FnExactGetRow', WHERE WHAT IT READS IS OF BULK AT MOST 1048576: true; the input reads as it did. -/
def fnExactGetRowUptoRow : OpenClaim := { program := "ytlndmcdpndcgjaadoor", sum := "a18c10f3f5b5f3ef047587e3b86ffbff96f4ec485dd29b28a8bae97ac8ab3831", func := "loop.example/g00475/laws.FnExactGetRow", spec := "fnExactGetRow", named := ["unicode/utf8.first", "unicode/utf8.acceptRanges"], apart := false, laid := [("unicode/utf8.acceptRanges", laid_unicode_utf8_acceptRanges), ("unicode/utf8.first", laid_unicode_utf8_first)], narrowed := true }
def FnExactGetRowUptoSaid : Prop := fnExactGetRowUptoRow.holds Tryd.pinned (OpenSpec.upto fnExactGetRowSpec)

/-- 'laws.FnExactTabOk', WHERE WHAT IT READS IS OF BULK AT MOST 1048576: true; the input reads as it did. -/
def fnExactTabOkUptoRow : OpenClaim := { program := "ytlndmcdpndcgjaadoor", sum := "a18c10f3f5b5f3ef047587e3b86ffbff96f4ec485dd29b28a8bae97ac8ab3831", func := "loop.example/g00475/laws.FnExactTabOk", spec := "fnExactTabOk", named := ["unicode/utf8.first", "unicode/utf8.acceptRanges"], apart := false, laid := [("unicode/utf8.acceptRanges", laid_unicode_utf8_acceptRanges), ("unicode/utf8.first", laid_unicode_utf8_first)], narrowed := true }
def FnExactTabOkUptoSaid : Prop := fnExactTabOkUptoRow.holds Tryd.pinned (OpenSpec.upto fnExactTabOkSpec)

/-- 'laws.FnExactGetRec', WHERE WHAT IT READS IS OF BULK AT MOST 1048576: true; the input reads as it did. -/
def fnExactGetRecUptoRow : OpenClaim := { program := "ytlndmcdpndcgjaadoor", sum := "a18c10f3f5b5f3ef047587e3b86ffbff96f4ec485dd29b28a8bae97ac8ab3831", func := "loop.example/g00475/laws.FnExactGetRec", spec := "fnExactGetRec", named := ["unicode/utf8.first", "unicode/utf8.acceptRanges"], apart := false, laid := [("unicode/utf8.acceptRanges", laid_unicode_utf8_acceptRanges), ("unicode/utf8.first", laid_unicode_utf8_first)], narrowed := true }
def FnExactGetRecUptoSaid : Prop := fnExactGetRecUptoRow.holds Tryd.pinned (OpenSpec.upto fnExactGetRecSpec)

/-- 'laws.FnExactStoreOk', WHERE WHAT IT READS IS OF BULK AT MOST 1048576: true; the input reads as it did. -/
def fnExactStoreOkUptoRow : OpenClaim := { program := "ytlndmcdpndcgjaadoor", sum := "a18c10f3f5b5f3ef047587e3b86ffbff96f4ec485dd29b28a8bae97ac8ab3831", func := "loop.example/g00475/laws.FnExactStoreOk", spec := "fnExactStoreOk", named := ["unicode/utf8.first", "unicode/utf8.acceptRanges"], apart := false, laid := [("unicode/utf8.acceptRanges", laid_unicode_utf8_acceptRanges), ("unicode/utf8.first", laid_unicode_utf8_first)], narrowed := true }
def FnExactStoreOkUptoSaid : Prop := fnExactStoreOkUptoRow.holds Tryd.pinned (OpenSpec.upto fnExactStoreOkSpec)

end Rows
end Go.Proofs.YtlndmcdpndcgjaaDoor
