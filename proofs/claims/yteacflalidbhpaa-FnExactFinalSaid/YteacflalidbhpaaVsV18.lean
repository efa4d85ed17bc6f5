import Derived.Test.YteacflalidbhpaaVsV17
set_option linter.unusedVariables false
set_option linter.unusedSimpArgs false
namespace Go.Vs
set_option linter.unusedVariables false
set_option linter.unusedSimpArgs false

/-! ## what a function is handed, and what it gives -/
inductive Arg where
  | val (ag : Bool) (cs : List (M × D))
  | ptr (cs : List (M × D))
  deriving Inhabited
def Arg.cells : Arg → List (M × D)
  | .val _ l => l
  | .ptr l => l
def flat (as : List Arg) : List (M × D) := as.flatMap Arg.cells
/-- res: each result's data (is it a struct?). io: what the slices that are handed to be written hold behind the call. bx: the new data of the cells of each variable that is handed by its address (those that are handed 'rx' stay). -/
structure Out where
  res : List (Bool × List D)
  io : List (Nat × List (List D))
  bx : List (List D)
  deriving Inhabited

/-- The two counters: ids that keep their place (slices to be written, those of variables that stay), and others. -/
abbrev Kk := Nat × Nat
def inC (m : M) (d : D) (k : Kk) : C × List (Nat × Root) × Kk :=
  match d with
  | .lf v => (.lf v, [], k)
  | .hole => (.un, [], k)
  | .sl sz es => match m with
    | .io => (.rf k.1 [] sz 0 es.length, [(k.1, .tr sz es)], (k.1 + 1, k.2))
    | .ow => (.rf k.2 [] sz 0 es.length, [(k.2, .tr sz es)], (k.1, k.2 + 1))
    | .rd => (.rf k.2 [] sz 0 es.length, [(k.2, .im sz es)], (k.1, k.2 + 1))
    | .rx => (.rf k.1 [] sz 0 es.length, [(k.1, .im sz es)], (k.1 + 1, k.2))
def inCs : List (M × D) → Kk → List C × List (Nat × Root) × Kk
  | [], k => ([], [], k)
  | (m, d) :: l, k => ((inC m d k).1 :: (inCs l (inC m d k).2.2).1, (inC m d k).2.1 ++ (inCs l (inC m d k).2.2).2.1, (inCs l (inC m d k).2.2).2.2)
def fixC : M × D → Nat
  | (.io, .sl _ _) => 1
  | (.rx, .sl _ _) => 1
  | _ => 0
def fixCs : List (M × D) → Nat
  | [] => 0
  | x :: l => fixC x + fixCs l
def nBox : List Arg → Nat
  | [] => 0
  | .ptr _ :: l => nBox l + 1
  | _ :: l => nBox l
def fixN (as : List Arg) : Nat := fixCs (flat as) + nBox as
/-- The arguments' values, their cells being known. -/
def inV : List Arg → List C → Nat → List V
  | [], _, _ => []
  | .val false l :: r, cs, b => (match cs.take l.length with | [c] => .a (.c c) | _ => .un) :: inV r (cs.drop l.length) b
  | .val true l :: r, cs, b => .a (.ag (cs.take l.length)) :: inV r (cs.drop l.length) b
  | .ptr l :: r, cs, b => .a (.c (.pb b 0)) :: inV r (cs.drop l.length) (b + 1)
/-- The variables that are handed by their address: what is handed, what is known. -/
def inB : List Arg → List C → List (List (M × D) × List C)
  | [], _ => []
  | .val _ l :: r, cs => inB r (cs.drop l.length)
  | .ptr l :: r, cs => (l, cs.take l.length) :: inB r (cs.drop l.length)
def rootB : List (List (M × D) × List C) → Nat → List (Nat × Root)
  | [], _ => []
  | x :: l, b => (b, .bx x.2) :: rootB l (b + 1)
def inCells (as : List Arg) : List C × List (Nat × Root) × Kk := inCs (flat as) (0, fixN as)
def inAs (as : List Arg) : List V × List (Nat × Root) × Nat :=
  (inV as (inCells as).1 (fixCs (flat as)), (inCells as).2.1 ++ rootB (inB as (inCells as).1) (fixCs (flat as)), (inCells as).2.2.2)

/-- The slices that are handed to be written: id, size, length. -/
def ioOf : List (M × D) → Nat → List (Nat × Nat × Nat)
  | [], _ => []
  | (.io, .sl sz es) :: l, k => (k, sz, es.length) :: ioOf l (k + 1)
  | (.rx, .sl _ _) :: l, k => ioOf l (k + 1)
  | _ :: l, k => ioOf l k

def cellsA : A → Bool × List C
  | .c x => (false, [x])
  | .ag cs => (true, cs)
def compsV : V → Option (List A)
  | .a x => some [x]
  | .tp [_] => none
  | .tp xs => some xs
  | _ => none
def isRx : M × D → Bool
  | (.rx, .sl _ _) => true
  | _ => false
/-- The cells of a variable that were not handed 'rx'. -/
def owPick {α : Type} : List (M × D) → List α → List α
  | x :: l, c :: cs => if isRx x then owPick l cs else c :: owPick l cs
  | _, _ => []
/-- Those that were, as they were. -/
def rdSame : List (M × D) → List C → List C → Prop
  | x :: l, c :: c0, y :: c1 => (isRx x = true → y = c) ∧ rdSame l c0 c1
  | [], [], [] => True
  | _, _, _ => False

/-- What a function leaves. -/
def Leaves (as : List Arg) (out : Out) (roots : List (Nat × Root)) (res : V) : Prop :=
  ∃ xs, compsV res = some xs ∧ xs.map (fun x => ((cellsA x).1, (cellsA x).2.length)) = out.res.map (fun x => (x.1, x.2.length)) ∧
  ∃ bxs : List (List C), All2 (fun x ys => rdSame x.1 x.2 ys) (inB as (inCells as).1) bxs ∧ (∀ (j : Nat) (ys : List C), bxs[j]? = some ys → get roots (fixCs (flat as) + j) = some (.bx ys)) ∧
  ∃ rt, takeAll roots ((xs.flatMap fun x => (cellsA x).2) ++ (((inB as (inCells as).1).zip bxs).flatMap fun x => owPick x.1.1 x.2)) = some ((out.res.flatMap (·.2)) ++ out.bx.flatten, rt) ∧
    ((inB as (inCells as).1).zip bxs).map (fun x => (owPick x.1.1 x.2).length) = out.bx.map (·.length) ∧
    All2 (fun (x : Nat × Nat × Nat) (o : Nat × List (List D)) => get rt x.1 = some (.tr o.1 o.2) ∧ o.1 = x.2.1 ∧ o.2.length = x.2.2) (ioOf (flat as) 0) out.io

/-- The function f, called with such data, returns and gives that, in whatever memory. -/
def Runs (P : Program) (f : FuncId) (as : List Arg) (out : Out) : Prop :=
  ∀ (w : World) (own : Nat → Nat → Prop) (g : Lab) (pl : Pls) (vs : List Value),
    Hp w own pl g pl (inAs as).2.1 (inAs as).2.2 (inAs as).2.2 (fixN as) w →
    All2 (VR pl (inAs as).2.2) (inAs as).1 vs →
    Calls P f vs.toArray w fun e w' => ∃ rv g' pl' roots nx res, e = .returned rv ∧ Hp w own pl g' pl' roots nx nx (fixN as) w' ∧ VR pl' nx res rv ∧ Leaves as out roots res

/-! ## a call -/
def zipA : List C → List (M × D) → Option (List (M × C × D))
  | [], [] => some []
  | c :: cs, (m, d) :: l => (zipA cs l).map ((m, c, d) :: ·)
  | _, _ => none
/-- Each cell that is handed on: how, what is known of it here, what it is there. -/
def flatA (roots : List (Nat × Root)) : V → Arg → Option (List (M × C × D))
  | .a (.c x), .val false l => zipA [x] l
  | .a (.ag cs), .val true l => zipA cs l
  | .a (.c (.pb r c)), .ptr l => match get roots r with
    | some (.bx cs) => if c + l.length ≤ cs.length then zipA ((cs.drop c).take l.length) l else none
    | _ => none
  | _, _ => none
def flatAs (roots : List (Nat × Root)) : List V → List Arg → Option (List (M × C × D))
  | [], [] => some []
  | v :: vs, x :: as => match flatA roots v x, flatAs roots vs as with
    | some a, some b => some (a ++ b)
    | _, _ => none
  | _, _ => none
def isOw : M × C × D → Bool
  | (.ow, _, _) => true
  | _ => false
/-- roots that are handed to be written -/
def handIo : List (M × C × D) → List Nat
  | [] => []
  | (.io, .rf r _ _ _ _, .sl _ _) :: l => r :: handIo l
  | _ :: l => handIo l
def handBx : List V → List Arg → List (Nat × Nat × Nat)
  | .a (.c (.pb r c)) :: vs, .ptr l :: as => (r, c, l.length) :: handBx vs as
  | _ :: vs, _ :: as => handBx vs as
  | _, _ => []
/-- What is read, or written, of what stays here. -/
def seen (roots : List (Nat × Root)) (hand : List Nat) : M × C × D → Prop
  | (.ow, _, _) => True
  | (_, c, .lf v) => c = .lf v
  | (_, _, .hole) => True
  | (m, .nl s, .sl sz es) => s = sz ∧ es = []
  | (.io, .rf r p s lo n, .sl sz es) => s = sz ∧ lo = 0 ∧ n = es.length ∧ ∃ sz0 es0, get roots r = some (.tr sz0 es0) ∧ nodeAt sz0 es0 p = some (sz, es)
  | (_, .rf r p s lo n, .sl sz es) => s = sz ∧ (lo = 0 ∨ 0 < n) ∧ r ∉ hand ∧ ∃ l, nodeIn roots r p = some (sz, l) ∧ lo + n ≤ l.length ∧ es = (l.drop lo).take n
  | _ => False
/-- The slices that were written. -/
def backIo : List (Nat × Root) → List (M × C × D) → List (Nat × List (List D)) → Option (List (Nat × Root))
  | roots, [], [] => some roots
  | roots, (.io, .rf r p _ _ _, .sl _ _) :: l, (_, es) :: o => match get roots r with
    | some (.tr sz0 es0) => backIo (put roots r (.tr sz0 (updNode es0 p fun _ => es))) l o
    | _ => none
  | roots, (.io, .nl _, .sl _ _) :: l, _ :: o => backIo roots l o
  | _, (.io, _, .sl _ _) :: _, _ => none
  | roots, _ :: l, o => backIo roots l o
  | _, _, _ => none
/-- Data that are new here. -/
def newCs : List D → Nat → List C × List (Nat × Root) × Nat
  | [], n => ([], [], n)
  | .lf v :: l, n => (.lf v :: (newCs l n).1, (newCs l n).2)
  | .hole :: l, n => (.un :: (newCs l n).1, (newCs l n).2)
  | .sl sz es :: l, n => (.rf n [] sz 0 es.length :: (newCs l (n + 1)).1, (n, .tr sz es) :: (newCs l (n + 1)).2.1, (newCs l (n + 1)).2.2)
def newA (ag : Bool) (cs : List C) : A := if ag then .ag cs else match cs with | [c] => .c c | _ => .ag []
def newRes : List (Bool × List D) → List C → List A
  | [], _ => []
  | (ag, ds) :: l, cs => newA ag (cs.take ds.length) :: newRes l (cs.drop ds.length)
/-- A variable's cells behind the call. -/
def mixCs : List (M × D) → List C → List C → List C
  | x :: l, c :: c0, ys => if isRx x then c :: mixCs l c0 ys else match ys with
    | y :: ys => y :: mixCs l c0 ys
    | [] => c :: mixCs l c0 []
  | _, _, _ => []
def backBx : List (Nat × Root) → List V → List Arg → List (List D) → List C → Option (List (Nat × Root))
  | roots, .a (.c (.pb r c)) :: vs, .ptr l :: as, ds :: o, ys => match get roots r with
    | some (.bx cs) => backBx (put roots r (.bx (cs.take c ++ (mixCs l ((cs.drop c).take l.length) (ys.take ds.length) ++ cs.drop (c + l.length))))) vs as o (ys.drop ds.length)
    | _ => none
  | _, _ :: _, .ptr _ :: _, _, _ => none
  | roots, _ :: vs, _ :: as, o, ys => backBx roots vs as o ys
  | roots, _, _, _, _ => some roots
def resV : List A → V
  | [x] => .a x
  | xs => .tp xs
/-- A call. -/
def callOk (P : Program) (S : St) (f : FuncId) (vs : List V) (K : V → List (Nat × Path) → List (Nat × Root) → Nat → Prop) : Prop :=
  ∃ as out, Runs P f as out ∧ ∃ fl, flatAs S.roots vs as = some fl ∧ ∃ rt, takeAll S.roots ((fl.filter isOw).map (·.2.1)) = some ((fl.filter isOw).map (·.2.2), rt) ∧
    (handIo fl ++ (handBx vs as).map (·.1)).Nodup ∧ (∀ x ∈ fl, seen rt (handIo fl ++ (handBx vs as).map (·.1)) x) ∧
    ∃ r1, backIo rt fl out.io = some r1 ∧ ∃ r2, backBx r1 vs as out.bx ((newCs (out.res.flatMap (·.2) ++ out.bx.flatten) S.next).1.drop (out.res.flatMap (·.2)).length) = some r2 ∧
    K (resV (newRes out.res (newCs (out.res.flatMap (·.2) ++ out.bx.flatten) S.next).1)) [] ((newCs (out.res.flatMap (·.2) ++ out.bx.flatten) S.next).2.1 ++ r2) (newCs (out.res.flatMap (·.2) ++ out.bx.flatten) S.next).2.2
end Go.Vs
