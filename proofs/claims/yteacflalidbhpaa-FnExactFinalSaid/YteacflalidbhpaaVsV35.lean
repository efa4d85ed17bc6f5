import Derived.Test.YteacflalidbhpaaVsV34
set_option linter.unusedVariables false
set_option linter.unusedSimpArgs false
namespace Go.Vs
set_option linter.unusedVariables false
set_option linter.unusedSimpArgs false

/-! ## code, its operations translated -/
inductive Stm where
  | reg (gis : List GI)
  | drw (its : List DI)
  | seq (x y : Stm)
  | cond (c : Opd) (x y : Stm)
  | block (id : Nat) (x : Stm)
  | loop (x : Stm)
  | exit (id : Nat)
  | ret
  | skip
  deriving Inhabited
def nub : List Nat → List Nat
  | [] => []
  | x :: l => let r := nub l; if r.contains x then r else x :: r
def mkAncs : List Oper → List (List Nat) → List (List Nat)
  | [], acc => acc
  | o :: l, acc => mkAncs l (acc ++ [nub (preds o ++ (preds o).flatMap fun j => acc.getD j [])])
def cntW (ws : List Bool) : Nat → Nat
  | 0 => 0
  | n + 1 => (if ws.getD n false then 1 else 0) + cntW ws n
def hiOf (ws : List Bool) (ancs : List (List Nat)) (i : Nat) : Nat → List Nat → Nat
  | m, [] => m
  | m, j :: l => if ws.getD j false && (ancs.getD j []).contains i then cntW ws j else hiOf ws ancs i m l
def mkIts (ws : List Bool) (ancs : List (List Nat)) : Nat → List GI → List DI
  | _, [] => []
  | i, g :: l => ⟨g, ancs.getD i [], ws.getD i false, if ws.getD i false then 0 else ((ancs.getD i []).filter fun j => ws.getD j false).length, if ws.getD i false then 0 else hiOf ws ancs i (cntW ws ws.length) (List.range ws.length)⟩ :: mkIts ws ancs (i + 1) l
def trDraw (P : Program) (N : Nat) (ops : Array Oper) : Option (List DI) := do
  let gis ← trOpers P N ops ops.toList
  let its := mkIts (gis.map fun g => !isRd g) (mkAncs ops.toList []) 0 gis
  if ckAll its 0 ops.toList its && decide ((its.filterMap (·.gi.dst)).Nodup) then some its else none
theorem mkIts_gi (ws : List Bool) (ancs : List (List Nat)) : ∀ (gis : List GI) (i : Nat), (mkIts ws ancs i gis).map (·.gi) = gis
  | [], i => rfl
  | g :: l, i => by simp only [mkIts, List.map_cons, mkIts_gi ws ancs l (i + 1)]
def trC (P : Program) (N : Nat) : Code → Option Stm
  | .skip => some .skip
  | .label _ => some .skip
  | .region _ ops false => (trOpers P N ops ops.toList).map .reg
  | .region _ ops true => (trDraw P N ops).map .drw
  | .seq a b => do some (.seq (← trC P N a) (← trC P N b))
  | .cond c a b => do some (.cond (← trO P 0 c) (← trC P N a) (← trC P N b))
  | .block id a => (trC P N a).map (.block id)
  | .loop a => (trC P N a).map .loop
  | .exit id => some (.exit id)
  | .ret => some .ret
  | _ => none
def Sw (P : Program) (N : Nat) (s : Stm) (S : St) (Q : Exit → St → Prop) : Prop := ∀ c, trC P N c = some s → Vw P N c S Q

variable {P : Program} {N : Nat} {S : St} {Q : Exit → St → Prop}
theorem sw_skip (h : Q .normal S) : Sw P N .skip S Q := fun c hc => by
  cases c with
  | skip => exact vw_skip h
  | label l => exact fun _ _ _ g pl _ _ hR => wp_label ⟨S, g, pl, h, rfl, hR⟩
  | region id ops d => cases d <;> simp [trC] at hc
  | seq a b => simp [trC, Option.bind_eq_bind, Option.bind_eq_some_iff] at hc
  | cond c a b => simp [trC, Option.bind_eq_bind, Option.bind_eq_some_iff] at hc
  | _ => simp [trC] at hc
theorem sw_ret (h : Q .ret S) : Sw P N .ret S Q := fun c hc => by
  cases c with
  | ret => exact vw_ret h
  | region id ops d => cases d <;> simp [trC] at hc
  | seq a b => simp [trC, Option.bind_eq_bind, Option.bind_eq_some_iff] at hc
  | cond c a b => simp [trC, Option.bind_eq_bind, Option.bind_eq_some_iff] at hc
  | _ => simp [trC] at hc
theorem sw_exit {id : Nat} (h : Q (.exit id) S) : Sw P N (.exit id) S Q := fun c hc => by
  cases c with
  | exit i => simp [trC] at hc; subst hc; exact vw_exit h
  | region id ops d => cases d <;> simp [trC] at hc
  | seq a b => simp [trC, Option.bind_eq_bind, Option.bind_eq_some_iff] at hc
  | cond c a b => simp [trC, Option.bind_eq_bind, Option.bind_eq_some_iff] at hc
  | _ => simp [trC] at hc
theorem sw_seq {x y : Stm} (h : Sw P N x S (thenQ (fun S' => Sw P N y S' Q) Q)) : Sw P N (.seq x y) S Q := fun c hc => by
  cases c with
  | seq a b =>
    simp only [trC, Option.bind_eq_bind, Option.bind_eq_some_iff, Option.some.injEq, Stm.seq.injEq] at hc
    obtain ⟨x', hx, y', hy, rfl, rfl⟩ := hc
    refine vw_seq (vw_mono (h a hx) ?_)
    intro e S' q
    cases e <;> first | exact q b hy | exact q
  | region id ops d => cases d <;> simp [trC] at hc
  | cond c a b => simp [trC, Option.bind_eq_bind, Option.bind_eq_some_iff] at hc
  | _ => simp [trC] at hc
theorem sw_cond {o : Opd} {x y : Stm} {b : Bool} (hb : tv (S.opd o) = some b) (ht : b = true → Sw P N x S Q) (hf : b = false → Sw P N y S Q) : Sw P N (.cond o x y) S Q := fun c hc => by
  cases c with
  | cond c a d =>
    simp only [trC, Option.bind_eq_bind, Option.bind_eq_some_iff, Option.some.injEq, Stm.cond.injEq] at hc
    obtain ⟨o', ho, x', hx, y', hy, rfl, rfl, rfl⟩ := hc
    exact vw_cond ho hb (fun h => ht h a hx) fun h => hf h d hy
  | region id ops d => cases d <;> simp [trC] at hc
  | seq a b => simp [trC, Option.bind_eq_bind, Option.bind_eq_some_iff] at hc
  | _ => simp [trC] at hc
theorem sw_block {id : Nat} {x : Stm} (h : Sw P N x S (blockQ id Q)) : Sw P N (.block id x) S Q := fun c hc => by
  cases c with
  | block i a =>
    simp only [trC, Option.map_eq_some_iff, Stm.block.injEq] at hc
    obtain ⟨x', hx, rfl, rfl⟩ := hc
    exact vw_block (h a hx)
  | region id ops d => cases d <;> simp [trC] at hc
  | seq a b => simp [trC, Option.bind_eq_bind, Option.bind_eq_some_iff] at hc
  | cond c a b => simp [trC, Option.bind_eq_bind, Option.bind_eq_some_iff] at hc
  | _ => simp [trC] at hc
theorem sw_loop {x : Stm} (I : Nat → St → Prop) (n : Nat) (h0 : ∃ T, I n T ∧ Le S T) (hr : ∀ k T, T.fix = S.fix → I k T → Sw P N x T (thenQ (fun S' => ∃ k' T', k' < k ∧ I k' T' ∧ Le S' T') Q)) : Sw P N (.loop x) S Q := fun c hc => by
  cases c with
  | loop a =>
    simp only [trC, Option.map_eq_some_iff, Stm.loop.injEq] at hc
    obtain ⟨x', hx, rfl⟩ := hc
    exact vw_loop I n h0 fun k T hf hI => hr k T hf hI a hx
  | region id ops d => cases d <;> simp [trC] at hc
  | seq a b => simp [trC, Option.bind_eq_bind, Option.bind_eq_some_iff] at hc
  | cond c a b => simp [trC, Option.bind_eq_bind, Option.bind_eq_some_iff] at hc
  | _ => simp [trC] at hc
theorem sw_reg {gis : List GI} (h : runOs P gis S (Q .normal)) : Sw P N (.reg gis) S Q := fun c hc => by
  cases c with
  | region id ops d =>
    cases d with
    | false =>
      simp only [trC, Option.map_eq_some_iff, Stm.reg.injEq] at hc
      obtain ⟨gs, hg, rfl⟩ := hc
      exact vw_region hg h
    | true => simp [trC] at hc
  | seq a b => simp [trC, Option.bind_eq_bind, Option.bind_eq_some_iff] at hc
  | cond c a b => simp [trC, Option.bind_eq_bind, Option.bind_eq_some_iff] at hc
  | _ => simp [trC] at hc
theorem sw_drw {its : List DI} (hm : P.follows .mixedOrders = true) (h : drawGo P S.fix (S.env.filter fun x => !(its.filterMap (·.gi.dst)).contains x.1) its [] [(S.roots, S.next)] [] (Q .normal)) : Sw P N (.drw its) S Q := fun c hc => by
  cases c with
  | region id ops d =>
    cases d with
    | false => simp [trC] at hc
    | true =>
      simp only [trC, Option.map_eq_some_iff, Stm.drw.injEq] at hc
      obtain ⟨gs, hg, rfl⟩ := hc
      simp only [trDraw, Option.bind_eq_bind, Option.bind_eq_some_iff] at hg
      obtain ⟨gis, hgis, hg⟩ := hg
      split at hg
      · rename_i hck
        simp only [Option.some.injEq] at hg
        simp only [Bool.and_eq_true, decide_eq_true_eq] at hck
        subst hg
        exact vw_draw hm hck.1 (by rw [mkIts_gi]; exact hgis) hck.2 h
      · simp at hg
  | seq a b => simp [trC, Option.bind_eq_bind, Option.bind_eq_some_iff] at hc
  | cond c a b => simp [trC, Option.bind_eq_bind, Option.bind_eq_some_iff] at hc
  | _ => simp [trC] at hc
theorem sw_mono {s : Stm} {Q' : Exit → St → Prop} (h : Sw P N s S Q) (hq : ∀ e S', Q e S' → Q' e S') : Sw P N s S Q' := fun c hc => vw_mono (h c hc) hq
theorem sw_le {s : Stm} {T : St} (hl : Le S T) (h : Sw P N s T Q) : Sw P N s S Q := fun c hc => vw_le hl (h c hc)
theorem runs_of_sw {f : FuncId} {fn : Func} {c : Code} {s : Stm} {as : List Arg} {out : Out} {is : List I} (hf : P.funcs[f]? = some fn) (hb : fn.body = some c) (hs : trC P fn.ntmps c = some s) (hi : trRes P fn.results.toList = some is) (hn : as.length ≤ fn.ntmps)
    (h : Sw P fn.ntmps s ⟨env0 0 (inAs as).1, (inAs as).2.1, (inAs as).2.2, fixN as⟩ fun e S' => match e with
      | .ret | .normal => resK S' is fun xs => Leaves as out S'.roots (resV xs)
      | _ => False) : Runs P f as out := runs_of_vw hf hb hi hn (h c hs)
end Go.Vs
