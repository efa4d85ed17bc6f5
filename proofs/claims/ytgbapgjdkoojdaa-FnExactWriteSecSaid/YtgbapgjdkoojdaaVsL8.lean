/-
  FnExactWriteSec: whatever the device, the int and the bytes are, the law answers true and leaves what it reads as it was. Condition: none.
-/
import Derived.Test.YtgbapgjdkoojdaaRows
import Derived.WalkKit
import Derived.ProofKit
import Derived.OpenShut
import Derived.ShutString
import Derived.ChangeOld
import Derived.Below
import Derived.Carry
import Derived.SizedLaws
import Derived.Test.YtgbapgjdkoojdaaVsL8a
import Derived.Test.YtgbapgjdkoojdaaVsE31
import Derived.Test.YtgbapgjdkoojdaaVsW2
set_option linter.unusedVariables false
set_option linter.unusedSimpArgs false
namespace Go.Proofs.Ytgbapgjdkoojdaa.fnExactWriteSec
open Go.ChangeShapes Go.WideShapes Go.ChangeAt Go.RowKit
set_option linter.unusedVariables false
theorem own : ownKnob Try.prog.godebug = none := by kernel_rfl
theorem laid : laidOutB Try.prog = true := by kernel_rfl
theorem walk (s0 : List (List UInt8)) (c0 : List Vs.Wr) (f0 : Int) (d0d : Bool) (a1 : Int) (a2 : List UInt8) (v0 : Value) (v2 : Value) (W : World) (l0 : Vs.ArgLies W (true, [.sl 1 (Vs.sD s0), .sl 2 (Vs.wD c0), .lf (.int .i64 f0), .lf (.bool d0d)]) v0) (b0 : s0.length ≤ 9223372036854775807 ∧ (∀ b ∈ s0, b.length ≤ 9223372036854775807) ∧ c0.length ≤ 9223372036854775807 ∧ (∀ w ∈ c0, w.2.length ≤ 9223372036854775807))  (l2 : Vs.Lies W (.sl 1 (Vs.bD a2)) v2) : Calls Try.prog 15 #[v0, .int .i64 a1, v2] W fun e W' => e = .returned (.bool true) ∧ Below W.heap.size W W' :=
  Vs.law_lf (av := [(true, [.sl 1 (Vs.sD s0), .sl 2 (Vs.wD c0), .lf (.int .i64 f0), .lf (.bool d0d)]), (false, [.lf (.int .i64 a1)]), (false, [.sl 1 (Vs.bD a2)])]) (runs15 s0 c0 f0 d0d a1 a2 b0.1 b0.2.1 b0.2.2.1 b0.2.2.2) (vs := #[v0, .int .i64 a1, v2]) ⟨l0, ⟨_, rfl, .lf _ rfl⟩, ⟨_, rfl, l2⟩, trivial⟩
set_option maxRecDepth 100000 in
theorem lifted (os : Os) (started : os.Started) (H : Type) (enc : TypeId × Value → H) :
    ReturnsInHanded {} Try.checked os 15 .any (Rows.fnExactWriteSecSpec.pre6 enc Try.prog Try.f15 Rows.fnExactWriteSecRow.domain false) (Rows.fnExactWriteSecSpec.post enc Try.prog Try.f15 false true false false) := by
  refine returnsInHanded_of_change_sized (C := Try.checked) own started (by kernel_rfl) Try.func15
    (ChangeSpec.witness6 (enc := enc) (C := Try.checked) false ⟨#[], #[.agg #[.slice none 0 0, .slice none 0 0, .int .i64 0, .bool false], .int .i64 0, .slice none 0 0], []⟩ 8 (by kernel_rfl) (by kernel_rfl) (by kernel_rfl) (by kernel_rfl)) ?_
  intro W base args ds gs before hval0 hW hcnd hsz0 _
  have hval : ∀ (j : Nat) t v, Try.f15.params[j]? = some t → args[j]? = some v → Value.okWide Try.prog W .any base t v := hval0
  have hW' := hW
  obtain ⟨p, q, hA0, hV, rfl, hfz, hnd⟩ := hW
  have hA : DataW.TrodAll enc Try.prog W 0 (fun _ => true) true Try.f15.params.toList args.toList ds p := hA0
  rw [Try.params15] at hA hval
  obtain ⟨v0, vs0, d0, ds0, p0, q0, hargs, rfl, rfl, h0, r0⟩ := trodAll_cons hA
  obtain ⟨v1, vs1, d1, ds1, p1, q1, rfl, rfl, rfl, h1, r1⟩ := trodAll_cons r0
  obtain ⟨v2, vs2, d2, ds2, p2, q2, rfl, rfl, rfl, h2, r2⟩ := trodAll_cons r1
  obtain ⟨rfl, rfl, rfl⟩ := trodAll_nil r2
  obtain rfl : args = #[v0, v1, v2] := by cases args; simp_all
  obtain ⟨rfl, rfl⟩ := trodVars_none hV
  obtain ⟨y0, l0, z0⟩ := Vs.lies_struct (n := 8) Try.underlying43 (by kernel_rfl) (hval 0 43 v0 rfl rfl) h0
  obtain ⟨s0, c0, f0, d0d, rfl, b0, _⟩ := Vs.sh_dev (n := 3) Try.underlying43 rfl Try.underlying32 (by kernel_rfl) Try.underlying41 (by kernel_rfl) Try.underlying145 rfl Try.underlying3 Try.underlying4 Try.underlying23 Try.underlying5 (by kernel_rfl) z0
  have t0 : ∀ x ∈ p0, x.block < W.heap.size := fun x hx => hW'.lt x (by simp [hx])
  obtain ⟨a1, rfl, rfl, rfl, w1⟩ := open_int Try.underlying3 (hval 1 3 v1 rfl rfl) h1
  obtain ⟨a2, b2, l2⟩ := Vs.lies_bytes Try.underlying23 Try.underlying5 (by kernel_rfl) (hval 2 23 v2 rfl rfl) h2
  have t2 : ∀ x ∈ p2, x.block < W.heap.size := fun x hx => hW'.lt x (by simp [hx])
  clear hA0 hval0 hsz0
  refine (walk s0 c0 f0 d0d a1 a2 v0 v2 W l0 b0 l2).mono fun e W' ⟨he, bel⟩ => ?_
  subst he
  exact ⟨_, rfl, _, _, _, [], _, [], hW', trodAll_mk1 (shut_bool Try.underlying4 _), (trodAll_cons_mk (Below.trod laid (by kernel_rfl) (of_decide_eq_true (by kernel_rfl)) h0 bel t0) (trodAll_cons_mk (shut_int Try.underlying3 w1) (trodAll_cons_mk (Below.trod laid (by kernel_rfl) (of_decide_eq_true (by kernel_rfl)) h2 bel t2) trodAll_mk0))), rfl, bel.frame _, fun h => by cases h⟩
theorem over : Rows.fnExactWriteSecRow.holds Try.pinned (OpenSpec.ofChange Rows.fnExactWriteSecSpec) :=
  OpenClaim.holds_of_wide 15 Try.f15 rfl rfl rfl rfl rfl rfl rfl ⟨rfl, rfl, rfl, rfl, rfl⟩ rfl rfl rfl rfl rfl (by kernel_rfl) Try.func15 fact
    (of_decide_eq_true (by kernel_rfl)) (by unfold Func.isWrapper; first | (rw [if_pos (by decide +kernel)]; kernel_rfl) | (rw [if_neg (by decide +kernel)]; exact ⟨rfl, rfl⟩))
    (fun os started H enc _ => lifted os started H enc)
theorem proved : Rows.FnExactWriteSecSaid := over
#print axioms proved
end Go.Proofs.Ytgbapgjdkoojdaa.fnExactWriteSec
