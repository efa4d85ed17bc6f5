/-
  FnExactFinal: whatever the one int is, the law answers true and leaves what it reads as it was. Condition: none.
-/
import Derived.Test.YteacflalidbhpaaVsE2
import Derived.Test.YteacflalidbhpaaRows
import Derived.WalkKit
import Derived.ProofKit
import Derived.OpenShut
import Derived.ShutString
import Derived.ChangeOld
import Derived.Below
import Derived.SizedLaws
set_option linter.unusedVariables false
set_option linter.unusedSimpArgs false
namespace Go.Vs
/-- A function that is handed nothing to write, called from outside. -/
theorem calls_of_runs {P : Program} {f : FuncId} {asl : List Arg} {out : Out} (h : Runs P f asl out) {W : World} {pl : Pls} {vs : Array Value}
    (hr : ∀ r x, get (inAs asl).2.1 r = some x → r < (inAs asl).2.2 ∧ RootOk (stable W fun _ _ => False) W (fun _ _ => none) pl (inAs asl).2.2 r x) (hfix : fixN asl ≤ (inAs asl).2.2) (hv : All2 (VR pl (inAs asl).2.2) (inAs asl).1 vs.toList) :
    Calls P f vs W fun e W' => RowKit.Below W.heap.size W W' ∧ ∃ rv g' pl' roots nx res, e = .returned rv ∧ Hp W (fun _ _ => False) pl g' pl' roots nx nx (fixN asl) W' ∧ VR pl' nx res rv ∧ Leaves asl out roots res := by
  have hp : Hp W (fun _ _ => False) pl (fun _ _ => none) pl (inAs asl).2.1 (inAs asl).2.2 (inAs asl).2.2 (fixN asl) W :=
    ⟨Fr.refl _ _, (fun b o x hx => by cases hx), (fun _ _ _ => rfl), hfix, Nat.le_refl _, hr⟩
  have := h W (fun _ _ => False) _ pl vs.toList hp hv
  rw [show vs.toList.toArray = vs from rfl] at this
  refine this.mono ?_
  rintro e w' ⟨rv, g', pl', roots, nx, res, he, hp', hrv, hl⟩
  exact ⟨⟨hp'.fr.os, hp'.fr.tape, hp'.fr.output, hp'.fr.size, fun b hb => hp'.fr.block b hb fun _ h => h⟩, rv, g', pl', roots, nx, res, he, hp', hrv, hl⟩
/-- It gives one leaf. -/
theorem leaves_lf {asl : List Arg} {v : Value} {roots : List (Nat × Root)} {res : V} (h : Leaves asl ⟨[(false, [.lf v])], [], []⟩ roots res) (hB : inB asl (inCells asl).1 = []) : res = .a (.c (.lf v)) := by
  obtain ⟨xs, hx, hs, bxs, hb, _, rt, ht, _⟩ := h
  rw [hB] at ht
  simp only [List.zip_nil_left, List.flatMap_nil, List.append_nil, List.flatten_nil, List.flatMap_cons] at ht
  match xs, hs with
  | [x], hs =>
    simp only [List.map_cons, List.map_nil, List.cons.injEq, and_true, Prod.mk.injEq, List.length_cons, List.length_nil] at hs
    cases x with
    | ag cs => simp [cellsA] at hs
    | c c =>
      simp only [cellsA, List.flatMap_cons, List.flatMap_nil, List.append_nil, takeAll] at ht
      split at ht
      · rename_i d r1 h1
        simp only [Option.some.injEq, Prod.mk.injEq, List.cons.injEq, and_true] at ht
        obtain ⟨rfl, rfl⟩ := ht
        have hc : c = .lf v := by
          unfold takeC at h1
          split at h1
          · simp only [Option.some.injEq, Prod.mk.injEq, D.lf.injEq] at h1; rw [h1.1]
          · simp at h1
          · split at h1
            · split at h1
              · split at h1 <;> simp at h1
              · simp at h1
            · simp at h1
          · simp at h1
        subst hc
        cases res with
        | a y => simp only [compsV, Option.some.injEq, List.cons.injEq, and_true] at hx; rw [hx]
        | un => simp [compsV] at hx
        | fn f cs => simp [compsV] at hx
        | tp ys =>
          match ys, hx with
          | [], hx => simp [compsV] at hx
          | [_], hx => simp [compsV] at hx
          | _ :: _ :: _, hx => simp [compsV] at hx
      · simp at ht
  | [], hs => simp at hs
  | _ :: _ :: _, hs => simp at hs
end Go.Vs
namespace Go.Proofs.Yteacflalidbhpaa.fnExactFinal
open Go.ChangeShapes Go.WideShapes Go.ChangeAt Go.RowKit
set_option linter.unusedVariables false
theorem own : ownKnob Try.prog.godebug = none := by kernel_rfl
theorem walk (z : Int) (W : World) : Calls Try.prog 3 #[.int .i64 z] W fun e W' => e = .returned (.bool true) ∧ Below W.heap.size W W' := by
  refine (Vs.calls_of_runs (runs3 z) (pl := fun _ _ => default) (W := W) (vs := #[.int .i64 z]) ?_ ?_ ?_).mono ?_
  · intro r x hx; cases hx
  · exact Nat.le_refl _
  · exact ⟨⟨rfl, rfl⟩, trivial⟩
  · rintro e W' ⟨hb, rv, g', pl', roots, nx, res, rfl, hp, hv, hl⟩
    have := Vs.leaves_lf hl rfl
    subst this
    exact ⟨by rw [hv.1], hb⟩
set_option maxRecDepth 100000 in
theorem lifted (os : Os) (started : os.Started) (H : Type) (enc : TypeId × Value → H) :
    ReturnsInHanded {} Try.checked os 3 .any (Rows.fnExactFinalSpec.pre6 enc Try.prog Try.f3 Rows.fnExactFinalRow.domain false) (Rows.fnExactFinalSpec.post enc Try.prog Try.f3 false true false false) := by
  refine returnsInHanded_of_change_sized (C := Try.checked) own started (by kernel_rfl) Try.func3
    (ChangeSpec.witness6 (enc := enc) (C := Try.checked) false ⟨#[], #[.int .i64 0], []⟩ 8 (by kernel_rfl) (by kernel_rfl) (by kernel_rfl) (by kernel_rfl)) ?_
  intro W base args ds gs before hval0 hW hcnd hsz0 _
  have hval : ∀ (j : Nat) t v, Try.f3.params[j]? = some t → args[j]? = some v → Value.okWide Try.prog W .any base t v := hval0
  have hW' := hW
  obtain ⟨p, q, hA0, hV, rfl, hfz, hnd⟩ := hW
  have hA : DataW.TrodAll enc Try.prog W 0 (fun _ => true) true Try.f3.params.toList args.toList ds p := hA0
  rw [Try.params3] at hA hval
  obtain ⟨v0, vs0, d0, ds0, p0, q0, hargs, rfl, rfl, h0, r0⟩ := trodAll_cons hA
  obtain ⟨rfl, rfl, rfl⟩ := trodAll_nil r0
  obtain rfl : args = #[v0] := by cases args; simp_all
  obtain ⟨rfl, rfl⟩ := trodVars_none hV
  obtain ⟨a0, rfl, rfl, rfl, w0⟩ := open_int Try.underlying3 (hval 0 3 v0 rfl rfl) h0
  clear hA0 hval0 hsz0
  refine (walk a0 W).mono fun e W' ⟨he, bel⟩ => ?_
  subst he
  exact ⟨_, rfl, _, _, _, [], _, [], hW', trodAll_mk1 (shut_bool Try.underlying4 _), (trodAll_cons_mk (shut_int Try.underlying3 w0) trodAll_mk0), rfl, bel.frame _, fun h => by cases h⟩
theorem over : Rows.fnExactFinalRow.holds Try.pinned (OpenSpec.ofChange Rows.fnExactFinalSpec) :=
  OpenClaim.holds_of_wide 3 Try.f3 rfl rfl rfl rfl rfl rfl rfl ⟨rfl, rfl, rfl, rfl, rfl⟩ rfl rfl rfl rfl rfl (by kernel_rfl) Try.func3 (by kernel_rfl)
    (of_decide_eq_true (by kernel_rfl)) (by unfold Func.isWrapper; first | (rw [if_pos (by decide +kernel)]; kernel_rfl) | (rw [if_neg (by decide +kernel)]; exact ⟨rfl, rfl⟩))
    (fun os started H enc _ => lifted os started H enc)
theorem proved : Rows.FnExactFinalSaid := over
#print axioms proved
end Go.Proofs.Yteacflalidbhpaa.fnExactFinal
