import Derived.Laws.Append
import Derived.Laws.Cells
import Derived.Below
import Derived.Tactics
set_option linter.unusedVariables false
set_option linter.unusedSimpArgs false
namespace Go.Vs
set_option linter.unusedVariables false
set_option linter.unusedSimpArgs false

/-! ## association lists -/
def get {α : Type} : List (Nat × α) → Nat → Option α
  | [], _ => none
  | (k, x) :: l, t => if k = t then some x else get l t
def put {α : Type} : List (Nat × α) → Nat → α → List (Nat × α)
  | [], k, x => [(k, x)]
  | (j, y) :: l, k, x => if j = k then (k, x) :: l else (j, y) :: put l k x
def del {α : Type} : List (Nat × α) → Nat → List (Nat × α)
  | [], _ => []
  | (j, y) :: l, k => if j = k then del l k else (j, y) :: del l k
theorem get_put {α : Type} (l : List (Nat × α)) (k : Nat) (x : α) (t : Nat) : get (put l k x) t = if k = t then some x else get l t := by
  induction l with
  | nil => simp [put, get]
  | cons a l ih =>
    obtain ⟨j, y⟩ := a
    simp only [put]
    split
    · rename_i h; subst h; simp only [get]; split <;> rfl
    · rename_i h; simp only [get, ih]
      split
      · rename_i h2; subst h2; rw [if_neg (fun e => h e.symm)]
      · rfl
theorem get_del {α : Type} (l : List (Nat × α)) (k : Nat) (t : Nat) : get (del l k) t = if k = t then none else get l t := by
  induction l with
  | nil => simp [del, get]
  | cons a l ih =>
    obtain ⟨j, y⟩ := a
    simp only [del]
    split
    · rename_i h; subst h; rw [ih]; split <;> simp_all [get]
    · rename_i h; simp only [get, ih]
      split
      · rename_i h2; subst h2; rw [if_neg (fun e => h e.symm)]
      · rfl

/-- Two lists, element by element. -/
def All2 {α β : Type} (R : α → β → Prop) : List α → List β → Prop
  | [], [] => True
  | a :: as, b :: bs => R a b ∧ All2 R as bs
  | _, _ => False
theorem All2.length {α β : Type} {R : α → β → Prop} : ∀ {as : List α} {bs : List β}, All2 R as bs → as.length = bs.length
  | [], [], _ => rfl
  | _ :: _, _ :: _, h => by simp [All2.length h.2]
  | [], _ :: _, h => h.elim
  | _ :: _, [], h => h.elim
theorem All2.get {α β : Type} {R : α → β → Prop} : ∀ {as : List α} {bs : List β}, All2 R as bs → ∀ (i : Nat) (a : α), as[i]? = some a → ∃ b, bs[i]? = some b ∧ R a b
  | [], [], _, i, a, h => by simp at h
  | x :: as, y :: bs, h, 0, a, e => by simp at e; subst e; exact ⟨y, rfl, h.1⟩
  | x :: as, y :: bs, h, i + 1, a, e => by simpa using All2.get h.2 i a (by simpa using e)
  | [], _ :: _, h, _, _, _ => h.elim
  | _ :: _, [], h, _, _, _ => h.elim
theorem All2.mono {α β : Type} {R R' : α → β → Prop} (k : ∀ a b, R a b → R' a b) : ∀ {as : List α} {bs : List β}, All2 R as bs → All2 R' as bs
  | [], [], _ => trivial
  | _ :: _, _ :: _, h => ⟨k _ _ h.1, All2.mono k h.2⟩
  | [], _ :: _, h => h.elim
  | _ :: _, [], h => h.elim
theorem All2.of_get {α β : Type} {R : α → β → Prop} : ∀ {as : List α} {bs : List β}, as.length = bs.length → (∀ (i : Nat) (a : α) (b : β), as[i]? = some a → bs[i]? = some b → R a b) → All2 R as bs
  | [], [], _, _ => trivial
  | a :: as, b :: bs, h, k => ⟨k 0 a b rfl rfl, All2.of_get (by simpa using h) fun i x y hx hy => k (i + 1) x y (by simpa using hx) (by simpa using hy)⟩
  | [], _ :: _, h, _ => by simp at h
  | _ :: _, [], h, _ => by simp at h

/-! ## data -/
abbrev Path := List (Nat × Nat)
/-- Data as they stand in a cell: a leaf; a slice: its elements, each its cells; nothing is known. -/
inductive D where
  | lf (v : Value)
  | sl (sz : Nat) (es : List (List D))
  | hole
  deriving Inhabited
/-- What is known of a cell's value. -/
inductive C where
  | un
  | nl (sz : Nat)
  | lf (v : Value)
  | rf (r : Nat) (p : Path) (sz lo n : Nat)
  | pe (r : Nat) (p : Path) (i c : Nat)
  | pb (r : Nat) (c : Nat)
  deriving Inhabited
inductive A where
  | c (x : C)
  | ag (cs : List C)
  deriving Inhabited
inductive V where
  | un
  | a (x : A)
  | tp (xs : List A)
  | fn (f : FuncId) (caps : List C)
  deriving Inhabited
inductive Root where
  | tr (sz : Nat) (es : List (List D))
  | im (sz : Nat) (es : List (List D))
  | bx (cs : List C)
  | ib (cs : List C)
  deriving Inhabited
structure St where
  env : List (Nat × V)
  roots : List (Nat × Root)
  next : Nat
  fix : Nat

/-- The node that a path leads to. -/
def nodeAt : Nat → List (List D) → Path → Option (Nat × List (List D))
  | sz, es, [] => some (sz, es)
  | _, es, (i, c) :: p =>
    match (es[i]?).bind (·[c]?) with
    | some (.sl sz' es') => nodeAt sz' es' p
    | _ => none
theorem nodeAt_append (sz : Nat) (es : List (List D)) (p q : Path) : nodeAt sz es (p ++ q) = (nodeAt sz es p).bind fun n => nodeAt n.1 n.2 q := by
  induction p generalizing sz es with
  | nil => rfl
  | cons a p ih =>
    obtain ⟨i, c⟩ := a
    simp only [List.cons_append, nodeAt]
    split
    · exact ih _ _
    · rfl
theorem nodeAt_step {sz : Nat} {es : List (List D)} {p : Path} {n : Nat × List (List D)} (h : nodeAt sz es p = some n) (i c : Nat) :
    nodeAt sz es (p ++ [(i, c)]) = match (n.2[i]?).bind (·[c]?) with | some (.sl sz' es') => some (sz', es') | _ => none := by
  rw [nodeAt_append, h]
  simp only [Option.bind_some, nodeAt]

/-- Where a node's cells lie. -/
structure Pl where
  nil : Bool
  b : Nat
  off : Nat
  cap : Nat
  sz : Nat
  deriving Inhabited
abbrev Lab := Nat → Nat → Option (Nat × Path)
abbrev Pls := Nat → Path → Pl
def Pl.base (L : Pl) : Option Addr := if L.nil then none else some ⟨L.b, L.off, none⟩
def hdr (L : Pl) (n : Nat) : Value := .slice L.base n L.cap
/-- A datum in a cell; L: where the slice in it lies. -/
def DV (L : Pl) : D → Value → Prop
  | .lf x, v => v = x ∧ x.oneCell' = true
  | .sl sz es, v => L.sz = sz ∧ v = hdr L es.length
  | .hole, v => v.oneCell' = true

/-- A window of a node. -/
def Win (L : Pl) (sz lo n : Nat) (v : Value) : Prop :=
  L.sz = sz ∧ (L.nil = true → L.cap = 0) ∧ lo + n ≤ L.cap ∧ ∃ A : Option Addr, v = .slice A n (L.cap - lo) ∧ (lo < L.cap ∨ lo = 0 → A = if L.nil then none else some ⟨L.b, L.off + lo * L.sz, none⟩)
def CR (pl : Pls) (nx : Nat) : C → Value → Prop
  | .un, v => v.oneCell' = true
  | .nl _, v => v = .slice none 0 0
  | .lf x, v => v = x ∧ x.oneCell' = true
  | .rf r p sz lo n, v => r < nx ∧ Win (pl r p) sz lo n v
  | .pe r p i c, v => r < nx ∧ (pl r p).nil = false ∧ v = .pointer (some ⟨(pl r p).b, (pl r p).off + (i * (pl r p).sz + c), none⟩)
  | .pb r c, v => r < nx ∧ v = .pointer (some ⟨(pl r []).b, (pl r []).off + c, none⟩)
def AR (pl : Pls) (nx : Nat) : A → Value → Prop
  | .c x, v => CR pl nx x v
  | .ag cs, v => ∃ vs : List Value, v = .agg vs.toArray ∧ All2 (CR pl nx) cs vs
def VR (pl : Pls) (nx : Nat) : V → Value → Prop
  | .un, _ => True
  | .a x, v => AR pl nx x v
  | .tp xs, v => ∃ vs : List Value, v = .tuple vs.toArray ∧ All2 (AR pl nx) xs vs
  | .fn f caps, v => ∃ vs : List Value, v = .func (.func f) #[] vs.toArray ∧ All2 (CR pl nx) caps vs

/-- A node's cells. -/
structure NodeC (w : World) (pl : Pls) (r : Nat) (p : Path) (sz : Nat) (es : List (List D)) : Prop where
  szp : (pl r p).sz = sz
  le : es.length ≤ (pl r p).cap
  nil : (pl r p).nil = true → (pl r p).cap = 0
  szs : ∀ e ∈ es, e.length = sz
  cells : ∀ i e c d, es[i]? = some e → e[c]? = some d → ∃ v, w.cell? ⟨(pl r p).b, (pl r p).off + (i * sz + c), none⟩ = some v ∧ DV (pl r (p ++ [(i, c)])) d v
/-- They are all ours, the spare ones too. -/
def Mine (w : World) (g : Lab) (pl : Pls) (r : Nat) (p : Path) : Prop :=
  ∀ j, j < (pl r p).cap * (pl r p).sz → g (pl r p).b ((pl r p).off + j) = some (r, p) ∧ (∃ v, w.cell? ⟨(pl r p).b, (pl r p).off + j, none⟩ = some v) ∧ w.frozen? ⟨(pl r p).b, (pl r p).off + j, none⟩ = false
/-- They stay as they are. -/
def Still (st : Nat → Nat → Prop) (pl : Pls) (r : Nat) (p : Path) (n : Nat) : Prop := ∀ j, j < n * (pl r p).sz → st (pl r p).b ((pl r p).off + j)

def RootOk (st : Nat → Nat → Prop) (w : World) (g : Lab) (pl : Pls) (nx : Nat) (r : Nat) : Root → Prop
  | .tr sz es => ∀ p n, nodeAt sz es p = some n → NodeC w pl r p n.1 n.2 ∧ Mine w g pl r p
  | .im sz es => ∀ p n, nodeAt sz es p = some n → NodeC w pl r p n.1 n.2 ∧ Still st pl r p n.2.length
  | .bx cs => ∀ c x, cs[c]? = some x → ∃ v, w.cell? ⟨(pl r []).b, (pl r []).off + c, none⟩ = some v ∧ CR pl nx x v ∧ g (pl r []).b ((pl r []).off + c) = some (r, [(0, c)]) ∧ w.frozen? ⟨(pl r []).b, (pl r []).off + c, none⟩ = false
  | .ib cs => ∀ c x, cs[c]? = some x → ∃ v, w.cell? ⟨(pl r []).b, (pl r []).off + c, none⟩ = some v ∧ CR pl nx x v ∧ st (pl r []).b ((pl r []).off + c)

/-- What stays of the world that was. -/
structure Fr (w0 : World) (own0 : Nat → Nat → Prop) (w : World) : Prop where
  os : w.os = w0.os
  tape : w.tape = w0.tape
  output : w.output = w0.output
  size : w0.heap.size ≤ w.heap.size
  block : ∀ b, b < w0.heap.size → (∀ o, ¬ own0 b o) → w.heap[b]? = w0.heap[b]?
  cell : ∀ b o, b < w0.heap.size → ¬ own0 b o → w.cell? ⟨b, o, none⟩ = w0.cell? ⟨b, o, none⟩ ∧ w.frozen? ⟨b, o, none⟩ = w0.frozen? ⟨b, o, none⟩

def stable (w0 : World) (own0 : Nat → Nat → Prop) (b o : Nat) : Prop := b < w0.heap.size ∧ ¬ own0 b o

/-- The heap's part. -/
structure Hp (w0 : World) (own0 : Nat → Nat → Prop) (pl0 : Pls) (g : Lab) (pl : Pls) (roots : List (Nat × Root)) (nx nc fix : Nat) (w : World) : Prop where
  fr : Fr w0 own0 w
  lab : ∀ b o x, g b o = some x → b < w.heap.size ∧ (w0.heap.size ≤ b ∨ own0 b o) ∧ x.1 < nx
  fixed : ∀ r p, r < fix → pl r p = pl0 r p
  fixle : fix ≤ nx
  ncle : nc ≤ nx
  roots : ∀ r x, get roots r = some x → r < nx ∧ RootOk (stable w0 own0) w g pl nc r x

structure Rel (N : Nat) (w0 : World) (own0 : Nat → Nat → Prop) (pl0 : Pls) (g : Lab) (pl : Pls) (S : St) (a : Act) (w : World) : Prop where
  hp : Hp w0 own0 pl0 g pl S.roots S.next S.next S.fix w
  size : a.tmps.size = N
  defers : a.defers = []
  env : ∀ t x, get S.env t = some x → VR pl S.next x (a.tmps.getD t undef)

/-! ## monotony -/
theorem Win.one {L : Pl} {sz lo n : Nat} {v : Value} (h : Win L sz lo n v) : v.oneCell' = true := by obtain ⟨_, _, _, A, rfl, _⟩ := h; rfl
theorem CR.one {pl : Pls} {nx : Nat} {x : C} {v : Value} (h : CR pl nx x v) : v.oneCell' = true := by
  cases x with
  | un => exact h
  | nl sz => rw [show v = _ from h]; rfl
  | lf x => rw [h.1]; exact h.2
  | rf r p sz lo n => exact h.2.one
  | pe r p i c => rw [h.2.2]; rfl
  | pb r c => rw [h.2]; rfl
theorem DV.one {L : Pl} {d : D} {v : Value} (h : DV L d v) : v.oneCell' = true := by
  cases d with
  | lf x => rw [h.1]; exact h.2
  | sl sz es => rw [h.2]; rfl
  | hole => exact h
theorem cells_one {v : Value} (h : v.oneCell' = true) : v.cells = #[v] := by cases v <;> first | rfl | (simp [Value.oneCell'] at h)
theorem CR.mono {pl : Pls} {nx nx' : Nat} (h : nx ≤ nx') {x : C} {v : Value} (k : CR pl nx x v) : CR pl nx' x v := by
  cases x <;> first | exact k | exact ⟨Nat.lt_of_lt_of_le k.1 h, k.2⟩
theorem AR.mono {pl : Pls} {nx nx' : Nat} (h : nx ≤ nx') {x : A} {v : Value} (k : AR pl nx x v) : AR pl nx' x v := by
  cases x with
  | c x => exact CR.mono h k
  | ag cs => obtain ⟨vs, rfl, hk⟩ := k; exact ⟨vs, rfl, hk.mono fun _ _ => CR.mono h⟩
theorem VR.mono {pl : Pls} {nx nx' : Nat} (h : nx ≤ nx') {x : V} {v : Value} (k : VR pl nx x v) : VR pl nx' x v := by
  cases x with
  | un => trivial
  | a x => exact AR.mono h k
  | tp cs => obtain ⟨vs, rfl, hk⟩ := k; exact ⟨vs, rfl, hk.mono fun _ _ => AR.mono h⟩
  | fn f cs => obtain ⟨vs, rfl, hk⟩ := k; exact ⟨vs, rfl, hk.mono fun _ _ => CR.mono h⟩
/-- Places agree on the ids below nx. -/
def Agree (nx : Nat) (pl pl' : Pls) : Prop := ∀ r p, r < nx → pl' r p = pl r p
theorem CR.agree {pl pl' : Pls} {nx : Nat} (h : Agree nx pl pl') {x : C} {v : Value} (k : CR pl nx x v) : CR pl' nx x v := by
  cases x with
  | rf r p sz lo n => exact ⟨k.1, by rw [h r p k.1]; exact k.2⟩
  | pe r p i c => exact ⟨k.1, by rw [h r p k.1]; exact k.2⟩
  | pb r c => exact ⟨k.1, by rw [h r [] k.1]; exact k.2⟩
  | _ => exact k
theorem AR.agree {pl pl' : Pls} {nx : Nat} (h : Agree nx pl pl') {x : A} {v : Value} (k : AR pl nx x v) : AR pl' nx x v := by
  cases x with
  | c x => exact CR.agree h k
  | ag cs => obtain ⟨vs, rfl, hk⟩ := k; exact ⟨vs, rfl, hk.mono fun _ _ => CR.agree h⟩
theorem VR.agree {pl pl' : Pls} {nx : Nat} (h : Agree nx pl pl') {x : V} {v : Value} (k : VR pl nx x v) : VR pl' nx x v := by
  cases x with
  | un => trivial
  | a x => exact AR.agree h k
  | tp cs => obtain ⟨vs, rfl, hk⟩ := k; exact ⟨vs, rfl, hk.mono fun _ _ => AR.agree h⟩
  | fn f cs => obtain ⟨vs, rfl, hk⟩ := k; exact ⟨vs, rfl, hk.mono fun _ _ => CR.agree h⟩

end Go.Vs
