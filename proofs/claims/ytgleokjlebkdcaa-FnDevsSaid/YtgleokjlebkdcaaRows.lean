/-
  No cell of these rows narrows 'for every input' (looked for: loops, veiled, ifaces, maps, wideKeys, modest, calm, conditions, laid).
  DERIVED. THE GIVEN ROWS OF THIS SEAT. 5 by the template 'for every input the law returns true; each argument reads behind the call as it read before'; 0 by the template 'total and deterministic' (their statements: YtgleokjlebkdcaaTotals.lean).
  GIVEN WITH THE SEED: the statements are not yours to turn. If you find one false, say at which input.
  Laid BY PROGRAM, IN A SANDBOX (cutbox-rows.mjs): the forced cells as the released guide's own fill.sh prints them over the translation b4bcdf5611ce3c57… (all of the seat's roots in one cut). By AI agents, Wed Nov 11 2026. No macro, syntax, notation, axiom, sorry.
-/
import Derived.Test.YtgleokjlebkdcaaChecked
import GoSem.Claim
import GoSem.ClaimJoined
import GoSem.ClaimMapViews
import Derived.JoinedTies
import Derived.KernelRfl
namespace Go.Proofs.Ytgleokjlebkdcaa
/- THE CELL 'sum', in the pinned program and in every row, IS THE sha256 OF THE DUMP (.gsa) THAT YtgleokjlebkdcaaProg.lean LOADS. Nothing in Lean hashes anything: it is a label: what it is worth is what the hold of that sum in a sandbox is worth. -/
noncomputable def Try.pinned : Pinned := { name := "ytgleokjlebkdcaa", sum := "b4bcdf5611ce3c57fba35404d9b5227cdc45fbdf0e0e630958b1d62610781bf6", checked := Try.checked }
namespace Rows
def none {H : Type} : Left H := { results := [], args := [] }

/-- 'laws.FnHeads': WHATEVER THE INPUT: true; the input reads as it did. -/
def fnHeadsSpec : ChangeSpec := { name := "fnHeads", fn := fun _ => fun
  | [d] => { results := [.lit (.bool true)], args := [d] }
  | _ => none }
def fnHeadsRow : OpenClaim := { program := "ytgleokjlebkdcaa", sum := "b4bcdf5611ce3c57fba35404d9b5227cdc45fbdf0e0e630958b1d62610781bf6", func := "loop.example/g00475/laws.FnHeads", spec := "fnHeads", apart := false }
def FnHeadsSaid : Prop := fnHeadsRow.holds Try.pinned (OpenSpec.ofChange fnHeadsSpec)

/-- ITS FALSE NEIGHBOUR: 'it returns false'. Refute it at one input. -/
def fnHeadsWrong : ChangeSpec := { name := "fnHeads", fn := fun _ => fun
  | [d] => { results := [.lit (.bool false)], args := [d] }
  | _ => none }
def FnHeadsWrongFalsely : Prop := fnHeadsRow.holds Try.pinned (OpenSpec.ofChange fnHeadsWrong)

/-- 'laws.FnDevs': WHATEVER THE INPUT: true; the input reads as it did. -/
def fnDevsSpec : ChangeSpec := { name := "fnDevs", fn := fun _ => fun
  | [d] => { results := [.lit (.bool true)], args := [d] }
  | _ => none }
def fnDevsRow : OpenClaim := { program := "ytgleokjlebkdcaa", sum := "b4bcdf5611ce3c57fba35404d9b5227cdc45fbdf0e0e630958b1d62610781bf6", func := "loop.example/g00475/laws.FnDevs", spec := "fnDevs", apart := false }
def FnDevsSaid : Prop := fnDevsRow.holds Try.pinned (OpenSpec.ofChange fnDevsSpec)

/-- ITS FALSE NEIGHBOUR: 'it returns false'. Refute it at one input. -/
def fnDevsWrong : ChangeSpec := { name := "fnDevs", fn := fun _ => fun
  | [d] => { results := [.lit (.bool false)], args := [d] }
  | _ => none }
def FnDevsWrongFalsely : Prop := fnDevsRow.holds Try.pinned (OpenSpec.ofChange fnDevsWrong)

/-- 'laws.FnExactRowAt': WHATEVER THE INPUT: true; the input reads as it did. -/
def fnExactRowAtSpec : ChangeSpec := { name := "fnExactRowAt", fn := fun _ => fun
  | [d1, d2] => { results := [.lit (.bool true)], args := [d1, d2] }
  | _ => none }
def fnExactRowAtRow : OpenClaim := { program := "ytgleokjlebkdcaa", sum := "b4bcdf5611ce3c57fba35404d9b5227cdc45fbdf0e0e630958b1d62610781bf6", func := "loop.example/g00475/laws.FnExactRowAt", spec := "fnExactRowAt", unfollowed := true, recurses := true, apart := false }
def FnExactRowAtSaid : Prop := fnExactRowAtRow.holds Try.pinned (OpenSpec.ofChange fnExactRowAtSpec)

/-- ITS FALSE NEIGHBOUR: 'it returns false'. Refute it at one input. -/
def fnExactRowAtWrong : ChangeSpec := { name := "fnExactRowAt", fn := fun _ => fun
  | [d1, d2] => { results := [.lit (.bool false)], args := [d1, d2] }
  | _ => none }
def FnExactRowAtWrongFalsely : Prop := fnExactRowAtRow.holds Try.pinned (OpenSpec.ofChange fnExactRowAtWrong)

/-- 'laws.FnExactSameTab': WHATEVER THE INPUT: true; the input reads as it did. -/
def fnExactSameTabSpec : ChangeSpec := { name := "fnExactSameTab", fn := fun _ => fun
  | [d1, d2] => { results := [.lit (.bool true)], args := [d1, d2] }
  | _ => none }
def fnExactSameTabRow : OpenClaim := { program := "ytgleokjlebkdcaa", sum := "b4bcdf5611ce3c57fba35404d9b5227cdc45fbdf0e0e630958b1d62610781bf6", func := "loop.example/g00475/laws.FnExactSameTab", spec := "fnExactSameTab", unfollowed := true, recurses := true, apart := false }
def FnExactSameTabSaid : Prop := fnExactSameTabRow.holds Try.pinned (OpenSpec.ofChange fnExactSameTabSpec)

/-- ITS FALSE NEIGHBOUR: 'it returns false'. Refute it at one input. -/
def fnExactSameTabWrong : ChangeSpec := { name := "fnExactSameTab", fn := fun _ => fun
  | [d1, d2] => { results := [.lit (.bool false)], args := [d1, d2] }
  | _ => none }
def FnExactSameTabWrongFalsely : Prop := fnExactSameTabRow.holds Try.pinned (OpenSpec.ofChange fnExactSameTabWrong)

/-- 'laws.FnDevsBent': WHATEVER THE INPUT: true; the input reads as it did. -/
def fnDevsBentSpec : ChangeSpec := { name := "fnDevsBent", fn := fun _ => fun
  | [d] => { results := [.lit (.bool true)], args := [d] }
  | _ => none }
def fnDevsBentRow : OpenClaim := { program := "ytgleokjlebkdcaa", sum := "b4bcdf5611ce3c57fba35404d9b5227cdc45fbdf0e0e630958b1d62610781bf6", func := "loop.example/g00475/laws.FnDevsBent", spec := "fnDevsBent", apart := false }
def FnDevsBentSaid : Prop := fnDevsBentRow.holds Try.pinned (OpenSpec.ofChange fnDevsBentSpec)

/-- ITS FALSE NEIGHBOUR: 'it returns false'. Refute it at one input. -/
def fnDevsBentWrong : ChangeSpec := { name := "fnDevsBent", fn := fun _ => fun
  | [d] => { results := [.lit (.bool false)], args := [d] }
  | _ => none }
def FnDevsBentWrongFalsely : Prop := fnDevsBentRow.holds Try.pinned (OpenSpec.ofChange fnDevsBentWrong)

/- THE SECOND FORM. 'bulk': how many values and letters a reading holds, each counted each time it is reached (what is shared counts as often as it is met; a slice's spare places count too). A statement '..UptoSaid' is the law's where the arguments, and the package variables that the reading takes, are together of bulk at most 1048576: NARROWER than '..Said'. Prove '..Said' where nothing that the law and all that it calls make is longer than what came in: it says more and counts as full. Else prove '..UptoSaid'. A law counts once. -/
mutual
def uptoBulk {H : Type} : DataW H → Nat
  | .lit (.string bytes) => bytes.length + 1
  | .lit _ => 1
  | .nil => 1
  | .ptr d => uptoBulk d + 1
  | .slice elems spare => uptoBulkAll elems + uptoBulkAll spare + 1
  | .agg parts => uptoBulkAll parts + 1
  | .iface _ d => uptoBulk d + 1
  | .map entries => uptoBulkEntries entries + 1
  | .held _ => 1
def uptoBulkAll {H : Type} : List (DataW H) → Nat
  | [] => 0
  | d :: r => uptoBulk d + uptoBulkAll r
def uptoBulkEntries {H : Type} : List (Lit × DataW H) → Nat
  | [] => 0
  | x :: r => uptoBulkEntry x + uptoBulkEntries r
def uptoBulkEntry {H : Type} : Lit × DataW H → Nat
  | (.string bytes, d) => bytes.length + uptoBulk d + 1
  | (_, d) => uptoBulk d + 1
 end
def uptoSmall : (H : Type) → List (DataW H) → Bool := fun _ ds => decide (uptoBulkAll ds ≤ 1048576)
def OpenSpec.upto (s : _root_.Go.ChangeSpec) : _root_.Go.OpenSpec := { _root_.Go.OpenSpec.ofChange s with cond := some uptoSmall }

/-- 'laws.FnHeads', WHERE WHAT IT READS IS OF BULK AT MOST 1048576: true; the input reads as it did. -/
def fnHeadsUptoRow : OpenClaim := { program := "ytgleokjlebkdcaa", sum := "b4bcdf5611ce3c57fba35404d9b5227cdc45fbdf0e0e630958b1d62610781bf6", func := "loop.example/g00475/laws.FnHeads", spec := "fnHeads", apart := false, narrowed := true }
def FnHeadsUptoSaid : Prop := fnHeadsUptoRow.holds Try.pinned (OpenSpec.upto fnHeadsSpec)

/-- 'laws.FnDevs', WHERE WHAT IT READS IS OF BULK AT MOST 1048576: true; the input reads as it did. -/
def fnDevsUptoRow : OpenClaim := { program := "ytgleokjlebkdcaa", sum := "b4bcdf5611ce3c57fba35404d9b5227cdc45fbdf0e0e630958b1d62610781bf6", func := "loop.example/g00475/laws.FnDevs", spec := "fnDevs", apart := false, narrowed := true }
def FnDevsUptoSaid : Prop := fnDevsUptoRow.holds Try.pinned (OpenSpec.upto fnDevsSpec)

/-- 'laws.FnExactRowAt', WHERE WHAT IT READS IS OF BULK AT MOST 1048576: true; the input reads as it did. -/
def fnExactRowAtUptoRow : OpenClaim := { program := "ytgleokjlebkdcaa", sum := "b4bcdf5611ce3c57fba35404d9b5227cdc45fbdf0e0e630958b1d62610781bf6", func := "loop.example/g00475/laws.FnExactRowAt", spec := "fnExactRowAt", unfollowed := true, recurses := true, apart := false, narrowed := true }
def FnExactRowAtUptoSaid : Prop := fnExactRowAtUptoRow.holds Try.pinned (OpenSpec.upto fnExactRowAtSpec)

/-- 'laws.FnExactSameTab', WHERE WHAT IT READS IS OF BULK AT MOST 1048576: true; the input reads as it did. -/
def fnExactSameTabUptoRow : OpenClaim := { program := "ytgleokjlebkdcaa", sum := "b4bcdf5611ce3c57fba35404d9b5227cdc45fbdf0e0e630958b1d62610781bf6", func := "loop.example/g00475/laws.FnExactSameTab", spec := "fnExactSameTab", unfollowed := true, recurses := true, apart := false, narrowed := true }
def FnExactSameTabUptoSaid : Prop := fnExactSameTabUptoRow.holds Try.pinned (OpenSpec.upto fnExactSameTabSpec)

/-- 'laws.FnDevsBent', WHERE WHAT IT READS IS OF BULK AT MOST 1048576: true; the input reads as it did. -/
def fnDevsBentUptoRow : OpenClaim := { program := "ytgleokjlebkdcaa", sum := "b4bcdf5611ce3c57fba35404d9b5227cdc45fbdf0e0e630958b1d62610781bf6", func := "loop.example/g00475/laws.FnDevsBent", spec := "fnDevsBent", apart := false, narrowed := true }
def FnDevsBentUptoSaid : Prop := fnDevsBentUptoRow.holds Try.pinned (OpenSpec.upto fnDevsBentSpec)

end Rows
end Go.Proofs.Ytgleokjlebkdcaa
