/-
  FnExactFallDev: whatever the device and the int are, the law answers true and leaves what it reads as it was. Condition: none.
-/
import Derived.Test.YtgbapgjdkoojdaaRows
import Derived.WalkKit
import Derived.ProofKit
import Derived.OpenShut
import Derived.ShutString
import Derived.ChangeOld
import Derived.Below
import Derived.Carry
import Derived.SizedLaws
import Derived.Test.YtgbapgjdkoojdaaVsL10a
import Derived.Test.YtgbapgjdkoojdaaVsE37
import Derived.Test.YtgbapgjdkoojdaaVsW2
set_option linter.unusedVariables false
set_option linter.unusedSimpArgs false
namespace Go.Proofs.Ytgbapgjdkoojdaa.fnExactFallDev
open Go.ChangeShapes Go.WideShapes Go.ChangeAt Go.RowKit
set_option linter.unusedVariables false
theorem own : ownKnob Try.prog.godebug = none := by kernel_rfl
theorem laid : laidOutB Try.prog = true := by kernel_rfl
theorem walk (s0 : List (List UInt8)) (c0 : List Vs.Wr) (f0 : Int) (d0d : Bool) (a1 : Int) (v0 : Value) (W : World) (l0 : Vs.ArgLies W (true, [.sl 1 (Vs.sD s0), .sl 2 (Vs.wD c0), .lf (.int .i64 f0), .lf (.bool d0d)]) v0) (b0 : s0.length ≤ 9223372036854775807 ∧ (∀ b ∈ s0, b.length ≤ 9223372036854775807) ∧ c0.length ≤ 9223372036854775807 ∧ (∀ w ∈ c0, w.2.length ≤ 9223372036854775807))  : Calls Try.prog 14 #[v0, .int .i64 a1] W fun e W' => e = .returned (.bool true) ∧ Below W.heap.size W W' :=
  Vs.law_lf (av := [(true, [.sl 1 (Vs.sD s0), .sl 2 (Vs.wD c0), .lf (.int .i64 f0), .lf (.bool d0d)]), (false, [.lf (.int .i64 a1)])]) (runs14 s0 c0 f0 d0d a1 b0.1 b0.2.1 b0.2.2.1 b0.2.2.2) (vs := #[v0, .int .i64 a1]) ⟨l0, ⟨_, rfl, .lf _ rfl⟩, trivial⟩
set_option maxRecDepth 100000 in
theorem lifted (os : Os) (started : os.Started) (H : Type) (enc : TypeId × Value → H) :
    ReturnsInHanded {} Try.checked os 14 .any (Rows.fnExactFallDevSpec.pre6 enc Try.prog Try.f14 Rows.fnExactFallDevRow.domain false) (Rows.fnExactFallDevSpec.post enc Try.prog Try.f14 false true false false) := by
  refine returnsInHanded_of_change_sized (C := Try.checked) own started (by kernel_rfl) Try.func14
    (ChangeSpec.witness6 (enc := enc) (C := Try.checked) false ⟨#[], #[.agg #[.slice none 0 0, .slice none 0 0, .int .i64 0, .bool false], .int .i64 0], []⟩ 8 (by kernel_rfl) (by kernel_rfl) (by kernel_rfl) (by kernel_rfl)) ?_
  intro W base args ds gs before hval0 hW hcnd hsz0 _
  have hval : ∀ (j : Nat) t v, Try.f14.params[j]? = some t → args[j]? = some v → Value.okWide Try.prog W .any base t v := hval0
  have hW' := hW
  obtain ⟨p, q, hA0, hV, rfl, hfz, hnd⟩ := hW
  have hA : DataW.TrodAll enc Try.prog W 0 (fun _ => true) true Try.f14.params.toList args.toList ds p := hA0
  rw [Try.params14] at hA hval
  obtain ⟨v0, vs0, d0, ds0, p0, q0, hargs, rfl, rfl, h0, r0⟩ := trodAll_cons hA
  obtain ⟨v1, vs1, d1, ds1, p1, q1, rfl, rfl, rfl, h1, r1⟩ := trodAll_cons r0
  obtain ⟨rfl, rfl, rfl⟩ := trodAll_nil r1
  obtain rfl : args = #[v0, v1] := by cases args; simp_all
  obtain ⟨rfl, rfl⟩ := trodVars_none hV
  obtain ⟨y0, l0, z0⟩ := Vs.lies_struct (n := 8) Try.underlying43 (by kernel_rfl) (hval 0 43 v0 rfl rfl) h0
  obtain ⟨s0, c0, f0, d0d, rfl, b0, _⟩ := Vs.sh_dev (n := 3) Try.underlying43 rfl Try.underlying32 (by kernel_rfl) Try.underlying41 (by kernel_rfl) Try.underlying145 rfl Try.underlying3 Try.underlying4 Try.underlying23 Try.underlying5 (by kernel_rfl) z0
  have t0 : ∀ x ∈ p0, x.block < W.heap.size := fun x hx => hW'.lt x (by simp [hx])
  obtain ⟨a1, rfl, rfl, rfl, w1⟩ := open_int Try.underlying3 (hval 1 3 v1 rfl rfl) h1
  clear hA0 hval0 hsz0
  refine (walk s0 c0 f0 d0d a1 v0 W l0 b0).mono fun e W' ⟨he, bel⟩ => ?_
  subst he
  exact ⟨_, rfl, _, _, _, [], _, [], hW', trodAll_mk1 (shut_bool Try.underlying4 _), (trodAll_cons_mk (Below.trod laid (by kernel_rfl) (of_decide_eq_true (by kernel_rfl)) h0 bel t0) (trodAll_cons_mk (shut_int Try.underlying3 w1) trodAll_mk0)), rfl, bel.frame _, fun h => by cases h⟩
theorem over : Rows.fnExactFallDevRow.holds Try.pinned (OpenSpec.ofChange Rows.fnExactFallDevSpec) :=
  OpenClaim.holds_of_wide 14 Try.f14 rfl rfl rfl rfl rfl rfl rfl ⟨rfl, rfl, rfl, rfl, rfl⟩ rfl rfl rfl rfl rfl (by kernel_rfl) Try.func14 fact
    (of_decide_eq_true (by kernel_rfl)) (by unfold Func.isWrapper; first | (rw [if_pos (by decide +kernel)]; kernel_rfl) | (rw [if_neg (by decide +kernel)]; exact ⟨rfl, rfl⟩))
    (fun os started H enc _ => lifted os started H enc)
theorem proved : Rows.FnExactFallDevSaid := over
#print axioms proved
end Go.Proofs.Ytgbapgjdkoojdaa.fnExactFallDev
