/-
  No cell of these rows narrows 'for every input' (looked for: loops, veiled, ifaces, maps, wideKeys, modest, calm, conditions, laid).
  DERIVED. THE GIVEN ROWS OF THIS SEAT. 16 by the template 'for every input the law returns true; each argument reads behind the call as it read before'; 0 by the template 'total and deterministic' (their statements: YtgbapgjdkoojdaaTotals.lean).
  GIVEN WITH THE SEED: the statements are not yours to turn. If you find one false, say at which input.
  Laid BY PROGRAM, IN A SANDBOX (cutbox-rows.mjs): the forced cells as the released guide's own fill.sh prints them over the translation a0700a30dccee78d… (all of the seat's roots in one cut). By AI agents, Wed Nov 11 2026. No macro, syntax, notation, axiom, sorry.
-/
import Derived.Test.YtgbapgjdkoojdaaChecked
import GoSem.Claim
import GoSem.ClaimJoined
import GoSem.ClaimMapViews
import Derived.JoinedTies
import Derived.KernelRfl
namespace Go.Proofs.Ytgbapgjdkoojdaa
/- THE CELL 'sum', in the pinned program and in every row, IS THE sha256 OF THE DUMP (.gsa) THAT YtgbapgjdkoojdaaProg.lean LOADS. Nothing in Lean hashes anything: it is a label: what it is worth is what the hold of that sum in a sandbox is worth. -/
noncomputable def Try.pinned : Pinned := { name := "ytgbapgjdkoojdaa", sum := "a0700a30dccee78d8b5ab9212c200af993e907c31fcf236234c795803e42a988", checked := Try.checked }
namespace Rows
def none {H : Type} : Left H := { results := [], args := [] }

/-- 'laws.FnExactFinal': WHATEVER THE INPUT: true; the input reads as it did. -/
def fnExactFinalSpec : ChangeSpec := { name := "fnExactFinal", fn := fun _ => fun
  | [d] => { results := [.lit (.bool true)], args := [d] }
  | _ => none }
def fnExactFinalRow : OpenClaim := { program := "ytgbapgjdkoojdaa", sum := "a0700a30dccee78d8b5ab9212c200af993e907c31fcf236234c795803e42a988", func := "loop.example/g00475/laws.FnExactFinal", spec := "fnExactFinal", apart := false }
def FnExactFinalSaid : Prop := fnExactFinalRow.holds Try.pinned (OpenSpec.ofChange fnExactFinalSpec)

/-- ITS FALSE NEIGHBOUR: 'it returns false'. Refute it at one input. -/
def fnExactFinalWrong : ChangeSpec := { name := "fnExactFinal", fn := fun _ => fun
  | [d] => { results := [.lit (.bool false)], args := [d] }
  | _ => none }
def FnExactFinalWrongFalsely : Prop := fnExactFinalRow.holds Try.pinned (OpenSpec.ofChange fnExactFinalWrong)

/-- 'laws.FnExactHeadOf': WHATEVER THE INPUT: true; the input reads as it did. -/
def fnExactHeadOfSpec : ChangeSpec := { name := "fnExactHeadOf", fn := fun _ => fun
  | [d1, d2] => { results := [.lit (.bool true)], args := [d1, d2] }
  | _ => none }
def fnExactHeadOfRow : OpenClaim := { program := "ytgbapgjdkoojdaa", sum := "a0700a30dccee78d8b5ab9212c200af993e907c31fcf236234c795803e42a988", func := "loop.example/g00475/laws.FnExactHeadOf", spec := "fnExactHeadOf", apart := false }
def FnExactHeadOfSaid : Prop := fnExactHeadOfRow.holds Try.pinned (OpenSpec.ofChange fnExactHeadOfSpec)

/-- ITS FALSE NEIGHBOUR: 'it returns false'. Refute it at one input. -/
def fnExactHeadOfWrong : ChangeSpec := { name := "fnExactHeadOf", fn := fun _ => fun
  | [d1, d2] => { results := [.lit (.bool false)], args := [d1, d2] }
  | _ => none }
def FnExactHeadOfWrongFalsely : Prop := fnExactHeadOfRow.holds Try.pinned (OpenSpec.ofChange fnExactHeadOfWrong)

/-- 'laws.FnExactGetHead': WHATEVER THE INPUT: true; the input reads as it did. -/
def fnExactGetHeadSpec : ChangeSpec := { name := "fnExactGetHead", fn := fun _ => fun
  | [d] => { results := [.lit (.bool true)], args := [d] }
  | _ => none }
def fnExactGetHeadRow : OpenClaim := { program := "ytgbapgjdkoojdaa", sum := "a0700a30dccee78d8b5ab9212c200af993e907c31fcf236234c795803e42a988", func := "loop.example/g00475/laws.FnExactGetHead", spec := "fnExactGetHead", apart := false }
def FnExactGetHeadSaid : Prop := fnExactGetHeadRow.holds Try.pinned (OpenSpec.ofChange fnExactGetHeadSpec)

/-- ITS FALSE NEIGHBOUR: 'it returns false'. Refute it at one input. -/
def fnExactGetHeadWrong : ChangeSpec := { name := "fnExactGetHead", fn := fun _ => fun
  | [d] => { results := [.lit (.bool false)], args := [d] }
  | _ => none }
def FnExactGetHeadWrongFalsely : Prop := fnExactGetHeadRow.holds Try.pinned (OpenSpec.ofChange fnExactGetHeadWrong)

/-- 'laws.FnExactDevNew': WHATEVER THE INPUT: true; the input reads as it did. -/
def fnExactDevNewSpec : ChangeSpec := { name := "fnExactDevNew", fn := fun _ => fun
  | [d] => { results := [.lit (.bool true)], args := [d] }
  | _ => none }
def fnExactDevNewRow : OpenClaim := { program := "ytgbapgjdkoojdaa", sum := "a0700a30dccee78d8b5ab9212c200af993e907c31fcf236234c795803e42a988", func := "loop.example/g00475/laws.FnExactDevNew", spec := "fnExactDevNew", apart := false }
def FnExactDevNewSaid : Prop := fnExactDevNewRow.holds Try.pinned (OpenSpec.ofChange fnExactDevNewSpec)

/-- ITS FALSE NEIGHBOUR: 'it returns false'. Refute it at one input. -/
def fnExactDevNewWrong : ChangeSpec := { name := "fnExactDevNew", fn := fun _ => fun
  | [d] => { results := [.lit (.bool false)], args := [d] }
  | _ => none }
def FnExactDevNewWrongFalsely : Prop := fnExactDevNewRow.holds Try.pinned (OpenSpec.ofChange fnExactDevNewWrong)

/-- 'laws.FnHeads': WHATEVER THE INPUT: true; the input reads as it did. -/
def fnHeadsSpec : ChangeSpec := { name := "fnHeads", fn := fun _ => fun
  | [d] => { results := [.lit (.bool true)], args := [d] }
  | _ => none }
def fnHeadsRow : OpenClaim := { program := "ytgbapgjdkoojdaa", sum := "a0700a30dccee78d8b5ab9212c200af993e907c31fcf236234c795803e42a988", func := "loop.example/g00475/laws.FnHeads", spec := "fnHeads", apart := false }
def FnHeadsSaid : Prop := fnHeadsRow.holds Try.pinned (OpenSpec.ofChange fnHeadsSpec)

/-- ITS FALSE NEIGHBOUR: 'it returns false'. Refute it at one input. -/
def fnHeadsWrong : ChangeSpec := { name := "fnHeads", fn := fun _ => fun
  | [d] => { results := [.lit (.bool false)], args := [d] }
  | _ => none }
def FnHeadsWrongFalsely : Prop := fnHeadsRow.holds Try.pinned (OpenSpec.ofChange fnHeadsWrong)

/-- 'laws.FnExactDevOk': WHATEVER THE INPUT: true; the input reads as it did. -/
def fnExactDevOkSpec : ChangeSpec := { name := "fnExactDevOk", fn := fun _ => fun
  | [d] => { results := [.lit (.bool true)], args := [d] }
  | _ => none }
def fnExactDevOkRow : OpenClaim := { program := "ytgbapgjdkoojdaa", sum := "a0700a30dccee78d8b5ab9212c200af993e907c31fcf236234c795803e42a988", func := "loop.example/g00475/laws.FnExactDevOk", spec := "fnExactDevOk", apart := false }
def FnExactDevOkSaid : Prop := fnExactDevOkRow.holds Try.pinned (OpenSpec.ofChange fnExactDevOkSpec)

/-- ITS FALSE NEIGHBOUR: 'it returns false'. Refute it at one input. -/
def fnExactDevOkWrong : ChangeSpec := { name := "fnExactDevOk", fn := fun _ => fun
  | [d] => { results := [.lit (.bool false)], args := [d] }
  | _ => none }
def FnExactDevOkWrongFalsely : Prop := fnExactDevOkRow.holds Try.pinned (OpenSpec.ofChange fnExactDevOkWrong)

/-- 'laws.FnDevs': WHATEVER THE INPUT: true; the input reads as it did. -/
def fnDevsSpec : ChangeSpec := { name := "fnDevs", fn := fun _ => fun
  | [d] => { results := [.lit (.bool true)], args := [d] }
  | _ => none }
def fnDevsRow : OpenClaim := { program := "ytgbapgjdkoojdaa", sum := "a0700a30dccee78d8b5ab9212c200af993e907c31fcf236234c795803e42a988", func := "loop.example/g00475/laws.FnDevs", spec := "fnDevs", apart := false }
def FnDevsSaid : Prop := fnDevsRow.holds Try.pinned (OpenSpec.ofChange fnDevsSpec)

/-- ITS FALSE NEIGHBOUR: 'it returns false'. Refute it at one input. -/
def fnDevsWrong : ChangeSpec := { name := "fnDevs", fn := fun _ => fun
  | [d] => { results := [.lit (.bool false)], args := [d] }
  | _ => none }
def FnDevsWrongFalsely : Prop := fnDevsRow.holds Try.pinned (OpenSpec.ofChange fnDevsWrong)

/-- 'laws.FnExactMarkAt': WHATEVER THE INPUT: true; the input reads as it did. -/
def fnExactMarkAtSpec : ChangeSpec := { name := "fnExactMarkAt", fn := fun _ => fun
  | [d1, d2] => { results := [.lit (.bool true)], args := [d1, d2] }
  | _ => none }
def fnExactMarkAtRow : OpenClaim := { program := "ytgbapgjdkoojdaa", sum := "a0700a30dccee78d8b5ab9212c200af993e907c31fcf236234c795803e42a988", func := "loop.example/g00475/laws.FnExactMarkAt", spec := "fnExactMarkAt", apart := false }
def FnExactMarkAtSaid : Prop := fnExactMarkAtRow.holds Try.pinned (OpenSpec.ofChange fnExactMarkAtSpec)

/-- ITS FALSE NEIGHBOUR: 'it returns false'. Refute it at one input. -/
def fnExactMarkAtWrong : ChangeSpec := { name := "fnExactMarkAt", fn := fun _ => fun
  | [d1, d2] => { results := [.lit (.bool false)], args := [d1, d2] }
  | _ => none }
def FnExactMarkAtWrongFalsely : Prop := fnExactMarkAtRow.holds Try.pinned (OpenSpec.ofChange fnExactMarkAtWrong)

/-- 'laws.FnExactRowAt': WHATEVER THE INPUT: true; the input reads as it did. -/
def fnExactRowAtSpec : ChangeSpec := { name := "fnExactRowAt", fn := fun _ => fun
  | [d1, d2] => { results := [.lit (.bool true)], args := [d1, d2] }
  | _ => none }
def fnExactRowAtRow : OpenClaim := { program := "ytgbapgjdkoojdaa", sum := "a0700a30dccee78d8b5ab9212c200af993e907c31fcf236234c795803e42a988", func := "loop.example/g00475/laws.FnExactRowAt", spec := "fnExactRowAt", unfollowed := true, recurses := true, apart := false }
def FnExactRowAtSaid : Prop := fnExactRowAtRow.holds Try.pinned (OpenSpec.ofChange fnExactRowAtSpec)

/-- ITS FALSE NEIGHBOUR: 'it returns false'. Refute it at one input. -/
def fnExactRowAtWrong : ChangeSpec := { name := "fnExactRowAt", fn := fun _ => fun
  | [d1, d2] => { results := [.lit (.bool false)], args := [d1, d2] }
  | _ => none }
def FnExactRowAtWrongFalsely : Prop := fnExactRowAtRow.holds Try.pinned (OpenSpec.ofChange fnExactRowAtWrong)

/-- 'laws.FnExactReadSec': WHATEVER THE INPUT: true; the input reads as it did. -/
def fnExactReadSecSpec : ChangeSpec := { name := "fnExactReadSec", fn := fun _ => fun
  | [d1, d2] => { results := [.lit (.bool true)], args := [d1, d2] }
  | _ => none }
def fnExactReadSecRow : OpenClaim := { program := "ytgbapgjdkoojdaa", sum := "a0700a30dccee78d8b5ab9212c200af993e907c31fcf236234c795803e42a988", func := "loop.example/g00475/laws.FnExactReadSec", spec := "fnExactReadSec", apart := false }
def FnExactReadSecSaid : Prop := fnExactReadSecRow.holds Try.pinned (OpenSpec.ofChange fnExactReadSecSpec)

/-- ITS FALSE NEIGHBOUR: 'it returns false'. Refute it at one input. -/
def fnExactReadSecWrong : ChangeSpec := { name := "fnExactReadSec", fn := fun _ => fun
  | [d1, d2] => { results := [.lit (.bool false)], args := [d1, d2] }
  | _ => none }
def FnExactReadSecWrongFalsely : Prop := fnExactReadSecRow.holds Try.pinned (OpenSpec.ofChange fnExactReadSecWrong)

/-- 'laws.FnExactSameTab': WHATEVER THE INPUT: true; the input reads as it did. -/
def fnExactSameTabSpec : ChangeSpec := { name := "fnExactSameTab", fn := fun _ => fun
  | [d1, d2] => { results := [.lit (.bool true)], args := [d1, d2] }
  | _ => none }
def fnExactSameTabRow : OpenClaim := { program := "ytgbapgjdkoojdaa", sum := "a0700a30dccee78d8b5ab9212c200af993e907c31fcf236234c795803e42a988", func := "loop.example/g00475/laws.FnExactSameTab", spec := "fnExactSameTab", unfollowed := true, recurses := true, apart := false }
def FnExactSameTabSaid : Prop := fnExactSameTabRow.holds Try.pinned (OpenSpec.ofChange fnExactSameTabSpec)

/-- ITS FALSE NEIGHBOUR: 'it returns false'. Refute it at one input. -/
def fnExactSameTabWrong : ChangeSpec := { name := "fnExactSameTab", fn := fun _ => fun
  | [d1, d2] => { results := [.lit (.bool false)], args := [d1, d2] }
  | _ => none }
def FnExactSameTabWrongFalsely : Prop := fnExactSameTabRow.holds Try.pinned (OpenSpec.ofChange fnExactSameTabWrong)

/-- 'laws.FnExactFallDev': WHATEVER THE INPUT: true; the input reads as it did. -/
def fnExactFallDevSpec : ChangeSpec := { name := "fnExactFallDev", fn := fun _ => fun
  | [d1, d2] => { results := [.lit (.bool true)], args := [d1, d2] }
  | _ => none }
def fnExactFallDevRow : OpenClaim := { program := "ytgbapgjdkoojdaa", sum := "a0700a30dccee78d8b5ab9212c200af993e907c31fcf236234c795803e42a988", func := "loop.example/g00475/laws.FnExactFallDev", spec := "fnExactFallDev", apart := false }
def FnExactFallDevSaid : Prop := fnExactFallDevRow.holds Try.pinned (OpenSpec.ofChange fnExactFallDevSpec)

/-- ITS FALSE NEIGHBOUR: 'it returns false'. Refute it at one input. -/
def fnExactFallDevWrong : ChangeSpec := { name := "fnExactFallDev", fn := fun _ => fun
  | [d1, d2] => { results := [.lit (.bool false)], args := [d1, d2] }
  | _ => none }
def FnExactFallDevWrongFalsely : Prop := fnExactFallDevRow.holds Try.pinned (OpenSpec.ofChange fnExactFallDevWrong)

/-- 'laws.FnExactWriteSec': WHATEVER THE INPUT: true; the input reads as it did. -/
def fnExactWriteSecSpec : ChangeSpec := { name := "fnExactWriteSec", fn := fun _ => fun
  | [d1, d2, d3] => { results := [.lit (.bool true)], args := [d1, d2, d3] }
  | _ => none }
def fnExactWriteSecRow : OpenClaim := { program := "ytgbapgjdkoojdaa", sum := "a0700a30dccee78d8b5ab9212c200af993e907c31fcf236234c795803e42a988", func := "loop.example/g00475/laws.FnExactWriteSec", spec := "fnExactWriteSec", apart := false }
def FnExactWriteSecSaid : Prop := fnExactWriteSecRow.holds Try.pinned (OpenSpec.ofChange fnExactWriteSecSpec)

/-- ITS FALSE NEIGHBOUR: 'it returns false'. Refute it at one input. -/
def fnExactWriteSecWrong : ChangeSpec := { name := "fnExactWriteSec", fn := fun _ => fun
  | [d1, d2, d3] => { results := [.lit (.bool false)], args := [d1, d2, d3] }
  | _ => none }
def FnExactWriteSecWrongFalsely : Prop := fnExactWriteSecRow.holds Try.pinned (OpenSpec.ofChange fnExactWriteSecWrong)

/-- 'laws.FnDevsBent': WHATEVER THE INPUT: true; the input reads as it did. -/
def fnDevsBentSpec : ChangeSpec := { name := "fnDevsBent", fn := fun _ => fun
  | [d] => { results := [.lit (.bool true)], args := [d] }
  | _ => none }
def fnDevsBentRow : OpenClaim := { program := "ytgbapgjdkoojdaa", sum := "a0700a30dccee78d8b5ab9212c200af993e907c31fcf236234c795803e42a988", func := "loop.example/g00475/laws.FnDevsBent", spec := "fnDevsBent", apart := false }
def FnDevsBentSaid : Prop := fnDevsBentRow.holds Try.pinned (OpenSpec.ofChange fnDevsBentSpec)

/-- ITS FALSE NEIGHBOUR: 'it returns false'. Refute it at one input. -/
def fnDevsBentWrong : ChangeSpec := { name := "fnDevsBent", fn := fun _ => fun
  | [d] => { results := [.lit (.bool false)], args := [d] }
  | _ => none }
def FnDevsBentWrongFalsely : Prop := fnDevsBentRow.holds Try.pinned (OpenSpec.ofChange fnDevsBentWrong)

/-- 'laws.FnExactFlushDev': WHATEVER THE INPUT: true; the input reads as it did. -/
def fnExactFlushDevSpec : ChangeSpec := { name := "fnExactFlushDev", fn := fun _ => fun
  | [d] => { results := [.lit (.bool true)], args := [d] }
  | _ => none }
def fnExactFlushDevRow : OpenClaim := { program := "ytgbapgjdkoojdaa", sum := "a0700a30dccee78d8b5ab9212c200af993e907c31fcf236234c795803e42a988", func := "loop.example/g00475/laws.FnExactFlushDev", spec := "fnExactFlushDev", apart := false }
def FnExactFlushDevSaid : Prop := fnExactFlushDevRow.holds Try.pinned (OpenSpec.ofChange fnExactFlushDevSpec)

/-- ITS FALSE NEIGHBOUR: 'it returns false'. Refute it at one input. -/
def fnExactFlushDevWrong : ChangeSpec := { name := "fnExactFlushDev", fn := fun _ => fun
  | [d] => { results := [.lit (.bool false)], args := [d] }
  | _ => none }
def FnExactFlushDevWrongFalsely : Prop := fnExactFlushDevRow.holds Try.pinned (OpenSpec.ofChange fnExactFlushDevWrong)

/-- 'laws.FnExactRecsOf': WHATEVER THE INPUT: true; the input reads as it did. -/
def fnExactRecsOfSpec : ChangeSpec := { name := "fnExactRecsOf", fn := fun _ => fun
  | [d] => { results := [.lit (.bool true)], args := [d] }
  | _ => none }
def fnExactRecsOfRow : OpenClaim := { program := "ytgbapgjdkoojdaa", sum := "a0700a30dccee78d8b5ab9212c200af993e907c31fcf236234c795803e42a988", func := "loop.example/g00475/laws.FnExactRecsOf", spec := "fnExactRecsOf", apart := false }
def FnExactRecsOfSaid : Prop := fnExactRecsOfRow.holds Try.pinned (OpenSpec.ofChange fnExactRecsOfSpec)

/-- ITS FALSE NEIGHBOUR: 'it returns false'. Refute it at one input. -/
def fnExactRecsOfWrong : ChangeSpec := { name := "fnExactRecsOf", fn := fun _ => fun
  | [d] => { results := [.lit (.bool false)], args := [d] }
  | _ => none }
def FnExactRecsOfWrongFalsely : Prop := fnExactRecsOfRow.holds Try.pinned (OpenSpec.ofChange fnExactRecsOfWrong)

/- THE SECOND FORM. 'bulk': how many values and letters a reading holds, each counted each time it is reached (what is shared counts as often as it is met; a slice's spare places count too). A statement '..UptoSaid' is the law's where the arguments, and the package variables that the reading takes, are together of bulk at most 1048576: NARROWER than '..Said'. Prove '..Said' where nothing that the law and all that it calls make is longer than what came in: it says more and counts as full. Else prove '..UptoSaid'. A law counts once. -/
mutual
def uptoBulk {H : Type} : DataW H → Nat
  | .lit (.string bytes) => bytes.length + 1
  | .lit _ => 1
  | .nil => 1
  | .ptr d => uptoBulk d + 1
  | .slice elems spare => uptoBulkAll elems + uptoBulkAll spare + 1
  | .agg parts => uptoBulkAll parts + 1
  | .iface _ d => uptoBulk d + 1
  | .map entries => uptoBulkEntries entries + 1
  | .held _ => 1
def uptoBulkAll {H : Type} : List (DataW H) → Nat
  | [] => 0
  | d :: r => uptoBulk d + uptoBulkAll r
def uptoBulkEntries {H : Type} : List (Lit × DataW H) → Nat
  | [] => 0
  | x :: r => uptoBulkEntry x + uptoBulkEntries r
def uptoBulkEntry {H : Type} : Lit × DataW H → Nat
  | (.string bytes, d) => bytes.length + uptoBulk d + 1
  | (_, d) => uptoBulk d + 1
 end
def uptoSmall : (H : Type) → List (DataW H) → Bool := fun _ ds => decide (uptoBulkAll ds ≤ 1048576)
def OpenSpec.upto (s : _root_.Go.ChangeSpec) : _root_.Go.OpenSpec := { _root_.Go.OpenSpec.ofChange s with cond := some uptoSmall }

/-- 'laws.FnExactFinal', WHERE WHAT IT READS IS OF BULK AT MOST 1048576: true; the input reads as it did. -/
def fnExactFinalUptoRow : OpenClaim := { program := "ytgbapgjdkoojdaa", sum := "a0700a30dccee78d8b5ab9212c200af993e907c31fcf236234c795803e42a988", func := "loop.example/g00475/laws.FnExactFinal", spec := "fnExactFinal", apart := false, narrowed := true }
def FnExactFinalUptoSaid : Prop := fnExactFinalUptoRow.holds Try.pinned (OpenSpec.upto fnExactFinalSpec)

/-- 'laws.FnExactHeadOf', WHERE WHAT IT READS IS OF BULK AT MOST 1048576: true; the input reads as it did. -/
def fnExactHeadOfUptoRow : OpenClaim := { program := "ytgbapgjdkoojdaa", sum := "a0700a30dccee78d8b5ab9212c200af993e907c31fcf236234c795803e42a988", func := "loop.example/g00475/laws.FnExactHeadOf", spec := "fnExactHeadOf", apart := false, narrowed := true }
def FnExactHeadOfUptoSaid : Prop := fnExactHeadOfUptoRow.holds Try.pinned (OpenSpec.upto fnExactHeadOfSpec)

/-- 'laws.FnExactGetHead', WHERE WHAT IT READS IS OF BULK AT MOST 1048576: true; the input reads as it did. -/
def fnExactGetHeadUptoRow : OpenClaim := { program := "ytgbapgjdkoojdaa", sum := "a0700a30dccee78d8b5ab9212c200af993e907c31fcf236234c795803e42a988", func := "loop.example/g00475/laws.FnExactGetHead", spec := "fnExactGetHead", apart := false, narrowed := true }
def FnExactGetHeadUptoSaid : Prop := fnExactGetHeadUptoRow.holds Try.pinned (OpenSpec.upto fnExactGetHeadSpec)

/-- 'laws.FnExactDevNew', WHERE WHAT IT READS IS OF BULK AT MOST 1048576: true; the input reads as it did. -/
def fnExactDevNewUptoRow : OpenClaim := { program := "ytgbapgjdkoojdaa", sum := "a0700a30dccee78d8b5ab9212c200af993e907c31fcf236234c795803e42a988", func := "loop.example/g00475/laws.FnExactDevNew", spec := "fnExactDevNew", apart := false, narrowed := true }
def FnExactDevNewUptoSaid : Prop := fnExactDevNewUptoRow.holds Try.pinned (OpenSpec.upto fnExactDevNewSpec)

/-- 'laws.FnHeads', WHERE WHAT IT READS IS OF BULK AT MOST 1048576: true; the input reads as it did. -/
def fnHeadsUptoRow : OpenClaim := { program := "ytgbapgjdkoojdaa", sum := "a0700a30dccee78d8b5ab9212c200af993e907c31fcf236234c795803e42a988", func := "loop.example/g00475/laws.FnHeads", spec := "fnHeads", apart := false, narrowed := true }
def FnHeadsUptoSaid : Prop := fnHeadsUptoRow.holds Try.pinned (OpenSpec.upto fnHeadsSpec)

/-- 'laws.FnExactDevOk', WHERE WHAT IT READS IS OF BULK AT MOST 1048576: true; the input reads as it did. -/
def fnExactDevOkUptoRow : OpenClaim := { program := "ytgbapgjdkoojdaa", sum := "a0700a30dccee78d8b5ab9212c200af993e907c31fcf236234c795803e42a988", func := "loop.example/g00475/laws.FnExactDevOk", spec := "fnExactDevOk", apart := false, narrowed := true }
def FnExactDevOkUptoSaid : Prop := fnExactDevOkUptoRow.holds Try.pinned (OpenSpec.upto fnExactDevOkSpec)

/-- 'laws.FnDevs', WHERE WHAT IT READS IS OF BULK AT MOST 1048576: true; the input reads as it did. -/
def fnDevsUptoRow : OpenClaim := { program := "ytgbapgjdkoojdaa", sum := "a0700a30dccee78d8b5ab9212c200af993e907c31fcf236234c795803e42a988", func := "loop.example/g00475/laws.FnDevs", spec := "fnDevs", apart := false, narrowed := true }
def FnDevsUptoSaid : Prop := fnDevsUptoRow.holds Try.pinned (OpenSpec.upto fnDevsSpec)

/-- 'laws.FnExactMarkAt', WHERE WHAT IT READS IS OF BULK AT MOST 1048576: true; the input reads as it did. -/
def fnExactMarkAtUptoRow : OpenClaim := { program := "ytgbapgjdkoojdaa", sum := "a0700a30dccee78d8b5ab9212c200af993e907c31fcf236234c795803e42a988", func := "loop.example/g00475/laws.FnExactMarkAt", spec := "fnExactMarkAt", apart := false, narrowed := true }
def FnExactMarkAtUptoSaid : Prop := fnExactMarkAtUptoRow.holds Try.pinned (OpenSpec.upto fnExactMarkAtSpec)

/-- 'laws.FnExactRowAt', WHERE WHAT IT READS IS OF BULK AT MOST 1048576: true; the input reads as it did. -/
def fnExactRowAtUptoRow : OpenClaim := { program := "ytgbapgjdkoojdaa", sum := "a0700a30dccee78d8b5ab9212c200af993e907c31fcf236234c795803e42a988", func := "loop.example/g00475/laws.FnExactRowAt", spec := "fnExactRowAt", unfollowed := true, recurses := true, apart := false, narrowed := true }
def FnExactRowAtUptoSaid : Prop := fnExactRowAtUptoRow.holds Try.pinned (OpenSpec.upto fnExactRowAtSpec)

/-- 'laws.FnExactReadSec', WHERE WHAT IT READS IS OF BULK AT MOST 1048576: true; the input reads as it did. -/
def fnExactReadSecUptoRow : OpenClaim := { program := "ytgbapgjdkoojdaa", sum := "a0700a30dccee78d8b5ab9212c200af993e907c31fcf236234c795803e42a988", func := "loop.example/g00475/laws.FnExactReadSec", spec := "fnExactReadSec", apart := false, narrowed := true }
def FnExactReadSecUptoSaid : Prop := fnExactReadSecUptoRow.holds Try.pinned (OpenSpec.upto fnExactReadSecSpec)

/-- 'laws.FnExactSameTab', WHERE WHAT IT READS IS OF BULK AT MOST 1048576: true; the input reads as it did. -/
def fnExactSameTabUptoRow : OpenClaim := { program := "ytgbapgjdkoojdaa", sum := "a0700a30dccee78d8b5ab9212c200af993e907c31fcf236234c795803e42a988", func := "loop.example/g00475/laws.FnExactSameTab", spec := "fnExactSameTab", unfollowed := true, recurses := true, apart := false, narrowed := true }
def FnExactSameTabUptoSaid : Prop := fnExactSameTabUptoRow.holds Try.pinned (OpenSpec.upto fnExactSameTabSpec)

/-- 'laws.FnExactFallDev', WHERE WHAT IT READS IS OF BULK AT MOST 1048576: true; the input reads as it did. -/
def fnExactFallDevUptoRow : OpenClaim := { program := "ytgbapgjdkoojdaa", sum := "a0700a30dccee78d8b5ab9212c200af993e907c31fcf236234c795803e42a988", func := "loop.example/g00475/laws.FnExactFallDev", spec := "fnExactFallDev", apart := false, narrowed := true }
def FnExactFallDevUptoSaid : Prop := fnExactFallDevUptoRow.holds Try.pinned (OpenSpec.upto fnExactFallDevSpec)

/-- 'laws.FnExactWriteSec', WHERE WHAT IT READS IS OF BULK AT MOST 1048576: true; the input reads as it did. -/
def fnExactWriteSecUptoRow : OpenClaim := { program := "ytgbapgjdkoojdaa", sum := "a0700a30dccee78d8b5ab9212c200af993e907c31fcf236234c795803e42a988", func := "loop.example/g00475/laws.FnExactWriteSec", spec := "fnExactWriteSec", apart := false, narrowed := true }
def FnExactWriteSecUptoSaid : Prop := fnExactWriteSecUptoRow.holds Try.pinned (OpenSpec.upto fnExactWriteSecSpec)

/-- 'laws.FnDevsBent', WHERE WHAT IT READS IS OF BULK AT MOST 1048576: true; the input reads as it did. -/
def fnDevsBentUptoRow : OpenClaim := { program := "ytgbapgjdkoojdaa", sum := "a0700a30dccee78d8b5ab9212c200af993e907c31fcf236234c795803e42a988", func := "loop.example/g00475/laws.FnDevsBent", spec := "fnDevsBent", apart := false, narrowed := true }
def FnDevsBentUptoSaid : Prop := fnDevsBentUptoRow.holds Try.pinned (OpenSpec.upto fnDevsBentSpec)

/-- 'laws.FnExactFlushDev', WHERE WHAT IT READS IS OF BULK AT MOST 1048576: true; the input reads as it did. -/
def fnExactFlushDevUptoRow : OpenClaim := { program := "ytgbapgjdkoojdaa", sum := "a0700a30dccee78d8b5ab9212c200af993e907c31fcf236234c795803e42a988", func := "loop.example/g00475/laws.FnExactFlushDev", spec := "fnExactFlushDev", apart := false, narrowed := true }
def FnExactFlushDevUptoSaid : Prop := fnExactFlushDevUptoRow.holds Try.pinned (OpenSpec.upto fnExactFlushDevSpec)

/-- 'laws.FnExactRecsOf', WHERE WHAT IT READS IS OF BULK AT MOST 1048576: true; the input reads as it did. -/
def fnExactRecsOfUptoRow : OpenClaim := { program := "ytgbapgjdkoojdaa", sum := "a0700a30dccee78d8b5ab9212c200af993e907c31fcf236234c795803e42a988", func := "loop.example/g00475/laws.FnExactRecsOf", spec := "fnExactRecsOf", apart := false, narrowed := true }
def FnExactRecsOfUptoSaid : Prop := fnExactRecsOfUptoRow.holds Try.pinned (OpenSpec.upto fnExactRecsOfSpec)

end Rows
end Go.Proofs.Ytgbapgjdkoojdaa
