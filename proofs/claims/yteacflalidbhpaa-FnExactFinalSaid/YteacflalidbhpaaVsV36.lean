import Derived.Test.YteacflalidbhpaaVsV35
import Derived.IntWalk
set_option linter.unusedVariables false
set_option linter.unusedSimpArgs false
namespace Go.Vs
set_option linter.unusedVariables false
theorem body_of {P : Program} {N : Nat} {b : Option Code} {s : Stm} (h : (b.bind (trC P N)) = some s) : ∃ c, b = some c ∧ trC P N c = some s := by
  cases b with
  | none => simp at h
  | some c => exact ⟨c, rfl, h⟩
/-- Bytes as they lie. -/
def bD (bs : List UInt8) : List (List D) := bs.map fun b => [.lf (.int .u8 b.toNat)]
@[simp] theorem bD_len (bs : List UInt8) : (bD bs).length = bs.length := by simp [bD]
theorem bD_get {bs : List UInt8} {i : Nat} (h : i < bs.length) : (bD bs)[i]? = some [.lf (.int .u8 bs[i].toNat)] := by
  simp [bD, h]

variable {P : Program}
/-- One operation; what comes next stands behind a variable. -/
theorem os_k {g : GI} {l : List GI} {S : St} {K : St → Prop} (h : ∀ K' : St → Prop, (∀ S', runOs P l S' K → K' S') → stepO P g S K') : runOs P (g :: l) S K := h _ fun _ h => h
/-- One operation that writes nothing, in a region that is drawn. -/
theorem dr_rd {fix : Nat} {E0 : List (Nat × V)} {gi : GI} {anc : List Nat} {lo hi : Nat} {l : List DI} {D : List (Option Nat × V)} {m : Mem} {pend : List Pend} {K : St → Prop}
    (h : ∀ K' : V → Prop, (∀ x, drawGo P fix E0 l (D ++ [(gi.dst, x)]) [m] (if 0 < hi then ⟨gi, envSel (fun j => anc.contains j) 0 D ++ E0, x, hi⟩ :: pend else pend) K → K' x) → stepV P gi ⟨envSel (fun j => anc.contains j) 0 D ++ E0, m.1, m.2, fix⟩ fun x _ _ _ => K' x) :
    drawGo P fix E0 (⟨gi, anc, false, lo, hi⟩ :: l) D [m] pend K := by
  simp only [drawGo]
  refine stepV_mono (h (fun x => drawGo P fix E0 l (D ++ [(gi.dst, x)]) [m] (if 0 < hi then ⟨gi, envSel (fun j => anc.contains j) 0 D ++ E0, x, hi⟩ :: pend else pend) K) fun x h => h) ?_
  intro x ks r n hx
  simp only [Bool.false_eq_true, if_false, List.length_nil, Nat.zero_sub, List.take_zero, List.not_mem_nil, false_implies, implies_true, true_and]
  exact hx
theorem keep_nil {α : Type} {S : List (Nat × α)} : ∀ t x, get ([] : List (Nat × α)) t = some x → get S t = some x := fun t x h => by simp [get] at h
theorem keep_cons {α : Type} {S T : List (Nat × α)} {u : Nat} {y : α} (h : get S u = some y) (hT : ∀ t x, get T t = some x → get S t = some x) : ∀ t x, get ((u, y) :: T) t = some x → get S t = some x := fun t x hx => by
  simp only [get] at hx
  split at hx
  · rename_i e; subst e; simp only [Option.some.injEq] at hx; subst hx; exact h
  · exact hT t x hx
/-- What a function leaves that gives data, and was handed nothing to write. -/
theorem leaves_vals {as : List Arg} {res : List (Bool × List D)} {roots rt : List (Nat × Root)} {xs : List A} (h1 : inB as (inCells as).1 = []) (h2 : ioOf (flat as) 0 = []) (h3 : xs.map (fun x => ((cellsA x).1, (cellsA x).2.length)) = res.map (fun x => (x.1, x.2.length)))
    (h4 : takeAll roots (xs.flatMap fun x => (cellsA x).2) = some (res.flatMap (·.2), rt)) : Leaves as ⟨res, [], []⟩ roots (resV xs) := by
  refine ⟨xs, compsV_resV xs, h3, [], by rw [h1]; trivial, by simp, rt, ?_, by rw [h1]; rfl, by rw [h2]; trivial⟩
  rw [h1]
  simpa using h4
theorem wrap64 {z : Int} (h1 : -9223372036854775808 ≤ z) (h2 : z < 9223372036854775808) : IntKind.i64.wrap z = z := IntWalk.i64_in z ⟨h1, by omega⟩
/-- A call that hands on one leaf and gives one. -/
theorem call_lf {S : St} {f : FuncId} {v r : Value} {K : V → List (Nat × Path) → List (Nat × Root) → Nat → Prop} (h : Runs P f [.val false [(.rd, .lf v)]] ⟨[(false, [.lf r])], [], []⟩) (hK : K (.a (.c (.lf r))) [] S.roots S.next) : callOk P S f [.a (.c (.lf v))] K := by
  refine ⟨_, _, h, [(.rd, .lf v, .lf v)], rfl, S.roots, rfl, by simp [handIo, handBx], ?_, S.roots, rfl, S.roots, rfl, hK⟩
  intro x hx
  simp only [List.mem_singleton] at hx
  subst hx
  rfl
end Go.Vs
