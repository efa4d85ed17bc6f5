import Derived.Test.YteacflalidbhpaaVsV9
set_option linter.unusedVariables false
set_option linter.unusedSimpArgs false
namespace Go.Vs
set_option linter.unusedVariables false
set_option linter.unusedSimpArgs false

/-! ## what is written -/
def killC (r : Nat) (pre : Path) : C → C
  | .rf r' q sz lo n => if r' = r ∧ pre <+: q then .un else .rf r' q sz lo n
  | .pe r' q i c => if r' = r ∧ pre <+: q then .un else .pe r' q i c
  | x => x
def killCs : List (Nat × Path) → C → C
  | [], x => x
  | k :: ks, x => killCs ks (killC k.1 k.2 x)
def A.map (k : C → C) : A → A
  | .c x => .c (k x)
  | .ag cs => .ag (cs.map k)
def V.map (k : C → C) : V → V
  | .un => .un
  | .a x => .a (x.map k)
  | .tp xs => .tp (xs.map (A.map k))
  | .fn f caps => .fn f (caps.map k)
def killRoots (r : Nat) (pre : Path) (roots : List (Nat × Root)) : List (Nat × Root) := roots.map fun x => (x.1, x.2.map (killC r pre))
def killEnv (ks : List (Nat × Path)) (env : List (Nat × V)) : List (Nat × V) :=
  match ks with
  | [] => env
  | k :: ks => killEnv ks (env.map fun x => (x.1, x.2.map (killC k.1 k.2)))

def takeC (roots : List (Nat × Root)) : C → Option (D × List (Nat × Root))
  | .lf v => some (.lf v, roots)
  | .nl sz => some (.sl sz [], roots)
  | .rf r p sz 0 n =>
    match get roots r with
    | some (.tr sz0 es) => match nodeAt sz0 es p with
      | some (sz', es1) => if sz' = sz ∧ n ≤ es1.length then some (.sl sz (es1.take n), cutR roots r p) else none
      | none => none
    | _ => none
  | _ => none
def takeAll : List (Nat × Root) → List C → Option (List D × List (Nat × Root))
  | roots, [] => some ([], roots)
  | roots, c :: cs =>
    match takeC roots c with
    | some (d, roots1) => match takeAll roots1 cs with
      | some (ds, roots2) => some (d :: ds, roots2)
      | none => none
    | none => none
def hasCell (sz0 : Nat) (es : List (List D)) (p : Path) (i c : Nat) : Bool :=
  match (nodeAt sz0 es p).bind (·.2[i]?) with
  | some e => decide (c < e.length)
  | none => false
/-- Cells of an element of a tree are written. -/
def storeT (fix r : Nat) (p : Path) (i : Nat) : List C → List (Nat × Root) → Nat → List (Nat × Path) → Option (List (Nat × Root) × List (Nat × Path))
  | [], roots, _, ks => some (roots, ks)
  | y :: ys, roots, c, ks =>
    match killCs ks y with
    | .lf u => match get roots r with
      | some (.tr sz0 es) => storeT fix r p i ys (put roots r (.tr sz0 (setD es p i c (.lf u)))) (c + 1) ks
      | _ => none
    | y => match takeC roots y with
      | some (d, roots1) => match get roots1 r with
        | some (.tr sz0 es) => if fix ≤ r ∧ hasCell sz0 es p i (c + ys.length) = true then storeT fix r p i ys (put (killRoots r (p ++ [(i, c)]) roots1) r (.tr sz0 (setD es p i c d))) (c + 1) (ks ++ [(r, p ++ [(i, c)])]) else none
        | _ => none
      | none => none
def chunk {α : Type} (sz : Nat) : Nat → List α → List (List α)
  | 0, _ => []
  | n + 1, l => l.take sz :: chunk sz n (l.drop sz)
def zeroD : C → D
  | .lf v => .lf v
  | .nl sz => .sl sz []
  | _ => .hole
def plainC : C → Bool
  | .lf _ => true
  | .nl _ => true
  | _ => false
def rep {α : Type} (n : Nat) (l : List α) : List α :=
  match n with
  | 0 => []
  | n + 1 => l ++ rep n l
def isLf : D → Bool
  | .lf _ => true
  | _ => false
def allLf (E : List (List D)) : Bool := E.all (·.all isLf)
def noHole : D → Bool
  | .hole => false
  | _ => true
def strD (s : ByteArray) : List (List D) := s.data.toList.map fun b => [.lf (.int .u8 b.toNat)]

/-- A slice that is appended to: its elements, and what is left of the roots. -/
def baseOf (roots : List (Nat × Root)) : V → Option (Nat × List (List D) × Option Nat)
  | .a (.c (.nl sz)) => some (sz, [], none)
  | .a (.c (.rf r [] sz 0 n)) => match get roots r with
    | some (.tr sz0 es) => if sz0 = sz ∧ n = es.length then some (sz, es, some r) else none
    | _ => none
  | _ => none
def delO (roots : List (Nat × Root)) : Option Nat → List (Nat × Root)
  | none => roots
  | some r => del roots r

/-- What an operation that writes, or makes memory, gives: its value, what is no more to be read, the roots, the next id. -/
def wr (S : St) (K : V → List (Nat × Path) → List (Nat × Root) → Nat → Prop) : W → Prop
  | .alloc zero => K (.a (.c (.pb S.next 0))) [] ((S.next, .bx zero) :: S.roots) (S.next + 1)
  | .box x => ∃ ys, cellsV (S.opd x) = some ys ∧ K (.a (.c (.pb S.next 0))) [] ((S.next, .bx ys) :: S.roots) (S.next + 1)
  | .store n x v => match S.opd x with
    | .a (.c (.pb r c)) => ∃ ys, cellsV (S.opd v) = some ys ∧ ys.length = n ∧ ∃ cs, get S.roots r = some (.bx cs) ∧ c + n ≤ cs.length ∧ K .un [] (put S.roots r (.bx (cs.take c ++ (ys ++ cs.drop (c + n))))) S.next
    | .a (.c (.pe r p i c)) => ∃ ys, cellsV (S.opd v) = some ys ∧ ys.length = n ∧ ∃ e, ((S.node r p).bind (·.2[i]?)) = some e ∧ c + n ≤ e.length ∧ (∃ sz0 es, get S.roots r = some (.tr sz0 es)) ∧ ∃ res, storeT S.fix r p i ys S.roots c [] = some res ∧ K .un res.2 res.1 S.next
    | _ => False
  | .mks sz bytes zero l c => match S.opd l, S.opd c with
    | .a (.c (.lf (.int _ z))), .a (.c (.lf (.int _ z'))) => z' = z ∧ 0 ≤ z ∧ z * bytes ≤ 140737488355328 ∧ z ≤ 9223372036854775807 ∧ zero.all plainC = true ∧ K (.a (.c (.rf S.next [] sz 0 z.toNat))) [] ((S.next, .tr sz (List.replicate z.toNat (zero.map zeroD))) :: S.roots) (S.next + 1)
    | _, _ => False
  | .lit sz len zero parts => ∃ cs, fillC S (rep len zero) (parts.map fun x => (x.1 * sz, sz, x.2)) = some cs ∧ ∃ ds, takeAll S.roots cs = some ds ∧ K (.a (.c (.rf S.next [] sz 0 len))) [] ((S.next, .tr sz (chunk sz len ds.1)) :: ds.2) (S.next + 1)
  | .s2b x => match S.opd x with
    | .a (.c (.lf (.string s))) => K (.a (.c (.rf S.next [] 1 0 s.size))) [] ((S.next, .tr 1 (strD s)) :: S.roots) (S.next + 1)
    | _ => False
  | .app sz bytes _ x y => ∃ b, baseOf S.roots (S.opd x) = some b ∧ b.1 = sz ∧ match S.opd y with
    | .a (.c (.nl _)) => b.2.1.length * bytes ≤ 140737488355328 ∧ K (.a (.c (.rf S.next [] sz 0 b.2.1.length))) [] ((S.next, .tr sz b.2.1) :: delO S.roots b.2.2) (S.next + 1)
    | .a (.c (.rf ry py sz' lo m)) => sz' = sz ∧ some ry ≠ b.2.2 ∧ (b.2.1.length + m) * bytes ≤ 140737488355328 ∧ ∃ l, S.node ry py = some (sz, l) ∧ lo + m ≤ l.length ∧
        ((allLf ((l.drop lo).take m) = true ∧ K (.a (.c (.rf S.next [] sz 0 (b.2.1.length + m)))) [] ((S.next, .tr sz (b.2.1 ++ (l.drop lo).take m)) :: delO S.roots b.2.2) (S.next + 1)) ∨
         (∃ sz0 es0, get S.roots ry = some (.tr sz0 es0) ∧ K (.a (.c (.rf S.next [] sz 0 (b.2.1.length + m)))) [] ((S.next, .tr sz (b.2.1 ++ (l.drop lo).take m)) :: put (delO S.roots b.2.2) ry (.tr sz0 (updNode es0 py (holeWin lo m)))) (S.next + 1)))
    | _ => False
  | .aps _ x y => ∃ b, baseOf S.roots (S.opd x) = some b ∧ b.1 = 1 ∧ match S.opd y with
    | .a (.c (.lf (.string s))) => b.2.1.length + s.size ≤ 140737488355328 ∧ K (.a (.c (.rf S.next [] 1 0 (b.2.1.length + s.size)))) [] ((S.next, .tr 1 (b.2.1 ++ strD s)) :: delO S.roots b.2.2) (S.next + 1)
    | _ => False
  | _ => False
end Go.Vs
