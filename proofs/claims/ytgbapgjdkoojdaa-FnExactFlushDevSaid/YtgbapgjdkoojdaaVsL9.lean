/-
  FnExactFlushDev: whatever the device is, the law answers true and leaves what it reads as it was. Condition: none.
-/
import Derived.Test.YtgbapgjdkoojdaaRows
import Derived.WalkKit
import Derived.ProofKit
import Derived.OpenShut
import Derived.ShutString
import Derived.ChangeOld
import Derived.Below
import Derived.Carry
import Derived.SizedLaws
import Derived.Test.YtgbapgjdkoojdaaVsL9a
import Derived.Test.YtgbapgjdkoojdaaVsE34
import Derived.Test.YtgbapgjdkoojdaaVsW2
set_option linter.unusedVariables false
set_option linter.unusedSimpArgs false
namespace Go.Proofs.Ytgbapgjdkoojdaa.fnExactFlushDev
open Go.ChangeShapes Go.WideShapes Go.ChangeAt Go.RowKit
set_option linter.unusedVariables false
theorem own : ownKnob Try.prog.godebug = none := by kernel_rfl
theorem laid : laidOutB Try.prog = true := by kernel_rfl
theorem walk (s0 : List (List UInt8)) (c0 : List Vs.Wr) (f0 : Int) (d0d : Bool) (v0 : Value) (W : World) (l0 : Vs.ArgLies W (true, [.sl 1 (Vs.sD s0), .sl 2 (Vs.wD c0), .lf (.int .i64 f0), .lf (.bool d0d)]) v0) (b0 : s0.length ≤ 9223372036854775807 ∧ (∀ b ∈ s0, b.length ≤ 9223372036854775807) ∧ c0.length ≤ 9223372036854775807 ∧ (∀ w ∈ c0, w.2.length ≤ 9223372036854775807)) : Calls Try.prog 17 #[v0] W fun e W' => e = .returned (.bool true) ∧ Below W.heap.size W W' :=
  Vs.law_lf (av := [(true, [.sl 1 (Vs.sD s0), .sl 2 (Vs.wD c0), .lf (.int .i64 f0), .lf (.bool d0d)])]) (runs17 s0 c0 f0 d0d b0.1 b0.2.1 b0.2.2.1 b0.2.2.2) (vs := #[v0]) ⟨l0, trivial⟩
set_option maxRecDepth 100000 in
theorem lifted (os : Os) (started : os.Started) (H : Type) (enc : TypeId × Value → H) :
    ReturnsInHanded {} Try.checked os 17 .any (Rows.fnExactFlushDevSpec.pre6 enc Try.prog Try.f17 Rows.fnExactFlushDevRow.domain false) (Rows.fnExactFlushDevSpec.post enc Try.prog Try.f17 false true false false) := by
  refine returnsInHanded_of_change_sized (C := Try.checked) own started (by kernel_rfl) Try.func17
    (ChangeSpec.witness6 (enc := enc) (C := Try.checked) false ⟨#[], #[.agg #[.slice none 0 0, .slice none 0 0, .int .i64 0, .bool false]], []⟩ 8 (by kernel_rfl) (by kernel_rfl) (by kernel_rfl) (by kernel_rfl)) ?_
  intro W base args ds gs before hval0 hW hcnd hsz0 _
  have hval : ∀ (j : Nat) t v, Try.f17.params[j]? = some t → args[j]? = some v → Value.okWide Try.prog W .any base t v := hval0
  have hW' := hW
  obtain ⟨p, q, hA0, hV, rfl, hfz, hnd⟩ := hW
  have hA : DataW.TrodAll enc Try.prog W 0 (fun _ => true) true Try.f17.params.toList args.toList ds p := hA0
  rw [Try.params17] at hA hval
  obtain ⟨v0, vs0, d0, ds0, p0, q0, hargs, rfl, rfl, h0, r0⟩ := trodAll_cons hA
  obtain ⟨rfl, rfl, rfl⟩ := trodAll_nil r0
  obtain rfl : args = #[v0] := by cases args; simp_all
  obtain ⟨rfl, rfl⟩ := trodVars_none hV
  obtain ⟨y0, l0, z0⟩ := Vs.lies_struct (n := 8) Try.underlying43 (by kernel_rfl) (hval 0 43 v0 rfl rfl) h0
  obtain ⟨s0, c0, f0, d0d, rfl, b0, _⟩ := Vs.sh_dev (n := 3) Try.underlying43 rfl Try.underlying32 (by kernel_rfl) Try.underlying41 (by kernel_rfl) Try.underlying145 rfl Try.underlying3 Try.underlying4 Try.underlying23 Try.underlying5 (by kernel_rfl) z0
  have t0 : ∀ x ∈ p0, x.block < W.heap.size := fun x hx => hW'.lt x (by simp [hx])
  clear hA0 hval0 hsz0
  refine (walk s0 c0 f0 d0d v0 W l0 b0).mono fun e W' ⟨he, bel⟩ => ?_
  subst he
  exact ⟨_, rfl, _, _, _, [], _, [], hW', trodAll_mk1 (shut_bool Try.underlying4 _), (trodAll_cons_mk (Below.trod laid (by kernel_rfl) (of_decide_eq_true (by kernel_rfl)) h0 bel t0) trodAll_mk0), rfl, bel.frame _, fun h => by cases h⟩
theorem over : Rows.fnExactFlushDevRow.holds Try.pinned (OpenSpec.ofChange Rows.fnExactFlushDevSpec) :=
  OpenClaim.holds_of_wide 17 Try.f17 rfl rfl rfl rfl rfl rfl rfl ⟨rfl, rfl, rfl, rfl, rfl⟩ rfl rfl rfl rfl rfl (by kernel_rfl) Try.func17 fact
    (of_decide_eq_true (by kernel_rfl)) (by unfold Func.isWrapper; first | (rw [if_pos (by decide +kernel)]; kernel_rfl) | (rw [if_neg (by decide +kernel)]; exact ⟨rfl, rfl⟩))
    (fun os started H enc _ => lifted os started H enc)
theorem proved : Rows.FnExactFlushDevSaid := over
#print axioms proved
end Go.Proofs.Ytgbapgjdkoojdaa.fnExactFlushDev
