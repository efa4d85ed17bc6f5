import Derived.Test.YteacflalidbhpaaVsV0
import Derived.Laws.Slices
set_option linter.unusedVariables false
set_option linter.unusedSimpArgs false
namespace Go.Vs
set_option linter.unusedVariables false
set_option linter.unusedSimpArgs false

/-! ## operands, instructions -/
inductive Opd where
  | t (n : Nat)
  | k (v : V)
  deriving Inhabited

/-- The types of a type's cells. -/
def cellTypes (P : Program) : Nat → TypeId → List TypeId
  | 0, t => [t]
  | n + 1, t =>
    match P.underlying t with
    | some (.struct fs) => fs.toList.flatMap fun f => cellTypes P n f.type
    | some (.array k e) => (List.range k).flatMap fun _ => cellTypes P n e
    | _ => [t]
def elemSize (P : Program) (t : TypeId) : Nat :=
  match P.underlying t with
  | some (.slice e) => P.cellsOf e
  | _ => 0
def constC (P : Program) (t : TypeId) : Value → C
  | .slice none 0 0 => .nl (elemSize P t)
  | v => if v.oneCell' then .lf v else .un
def constCs (P : Program) : List TypeId → List Value → List C
  | t :: ts, v :: vs => constC P t v :: constCs P ts vs
  | [], v :: vs => constC P 0 v :: constCs P [] vs
  | _, [] => []
def constV (P : Program) (t : TypeId) : Value → V
  | .agg cs => if cs.all (·.oneCell') then .a (.ag (constCs P (cellTypes P 8 t) cs.toList)) else .un
  | v => if v.oneCell' then .a (.c (constC P t v)) else .un
theorem constC_ok (P : Program) (t : TypeId) (pl : Pls) (nx : Nat) (v : Value) (h : v.oneCell' = true) : CR pl nx (constC P t v) v := by
  unfold constC
  split
  · exact rfl
  · rw [if_pos h]; exact ⟨rfl, h⟩
theorem constCs_ok (P : Program) (pl : Pls) (nx : Nat) : ∀ (ts : List TypeId) (l : List Value), (∀ v ∈ l, v.oneCell' = true) → All2 (CR pl nx) (constCs P ts l) l
  | [], [], _ => trivial
  | _ :: _, [], _ => trivial
  | [], v :: l, h => ⟨constC_ok P 0 pl nx v (h v (by simp)), constCs_ok P pl nx [] l fun u hu => h u (by simp [hu])⟩
  | t :: ts, v :: l, h => ⟨constC_ok P t pl nx v (h v (by simp)), constCs_ok P pl nx ts l fun u hu => h u (by simp [hu])⟩
theorem constV_ok (P : Program) (t : TypeId) (pl : Pls) (nx : Nat) (v : Value) : VR pl nx (constV P t v) v := by
  unfold constV
  split
  · rename_i cs
    split
    · rename_i h
      exact ⟨cs.toList, by simp, constCs_ok P pl nx _ _ fun u hu => by simpa using (Array.all_eq_true_iff_forall_mem.1 h) u (by simpa using hu)⟩
    · trivial
  · split
    · rename_i h; exact constC_ok P t pl nx v h
    · trivial

def trO (P : Program) (t : TypeId) : Operand → Option Opd
  | .tmp t => some (.t t)
  | .const v => some (.k (constV P t v))
  | .global _ => none
  | .func f => some (.k (.fn f []))

def St.opd (S : St) : Opd → V
  | .t n => (get S.env n).getD .un
  | .k v => v

theorem opd_ok {N w0 own0 pl0 g pl S a w} (h : Rel N w0 own0 pl0 g pl S a w) {P : Program} {ty : TypeId} {x : Operand} {y : Opd} (hx : trO P ty x = some y) : VR pl S.next (S.opd y) (a.eval x) := by
  cases x with
  | tmp t =>
    simp only [trO, Option.some.injEq] at hx; subst hx
    simp only [St.opd, Act.eval]
    cases hg : get S.env t with
    | none => trivial
    | some v => exact h.env t v hg
  | const v => simp only [trO, Option.some.injEq] at hx; subst hx; exact constV_ok P ty pl S.next v
  | global g => simp [trO] at hx
  | func f => simp only [trO, Option.some.injEq] at hx; subst hx; exact ⟨[], rfl, trivial⟩

/-- By value: which cells of an argument are handed on, and how. -/
inductive M where
  | rd
  | rx
  | ow
  | io
  deriving DecidableEq, Inhabited

/-- Operations that write nothing. -/
inductive I where
  | mv (x : Opd)
  | pick (c a b : Opd)
  | load (n : Option Nat) (x : Opd)
  | nilc (x : Opd)
  | bin (op : BinOp) (x y : Opd)
  | beq (neg : Bool) (x y : Opd)
  | un (op : UnOp) (x : Opd)
  | conv (k : IntKind) (x : Opd)
  | b2s (x : Opd)
  | slc (sz : Nat) (x : Opd) (lo hi : Option Opd)
  | ssl (x : Opd) (lo hi : Option Opd)
  | fld (off : Nat) (n : Option Nat) (x : Opd)
  | fad (off : Nat) (x : Opd)
  | iad (sz : Nat) (x i : Opd)
  | iaa (len sz : Nat) (x i : Opd)
  | idx (x i : Opd)
  | ixa (len : Nat) (n : Option Nat) (sz : Nat) (x i : Opd)
  | ext (i : Nat) (x : Opd)
  | len (x : Opd)
  | sln (x : Opd)
  | sid (x : Opd)
  | build (zero : List C) (parts : List (Nat × Nat × Opd))
  deriving Inhabited
/-- Operations that write, or make memory, or call. -/
inductive W where
  | alloc (zero : List C)
  | box (x : Opd)
  | lit (sz len : Nat) (zero : List C) (parts : List (Nat × Opd))
  | store (n : Nat) (x v : Opd)
  | s2b (x : Opd)
  | mks (sz bytes : Nat) (zero : List C) (l c : Opd)
  | app (sz bytes : Nat) (zero : List C) (x y : Opd)
  | aps (zero : List C) (x y : Opd)
  | clr (sz : Nat) (zero : List C) (x : Opd)
  | call (f : FuncId) (args : List Opd)
  | calv (f : Opd) (args : List Opd)
  deriving Inhabited
inductive J where
  | rd (i : I)
  | wr (j : W)
  deriving Inhabited

structure GI where
  dst : Option Nat
  op : J
  guard : Option (Nat × Bool)
  deriving Inhabited

def aggD : TypeDesc → Bool
  | .struct _ | .array _ _ => true
  | _ => false

def cellsZero (P : Program) (t : TypeId) (v : Value) : Option (List C) := if v.cells.all (·.oneCell') then some (constCs P (cellTypes P 8 t) v.cells.toList) else none

def trOs (P : Program) : List TypeId → List Operand → Option (List Opd)
  | _, [] => some []
  | [], x :: l => do some ((← trO P 0 x) :: (← trOs P [] l))
  | t :: ts, x :: l => do some ((← trO P t x) :: (← trOs P ts l))
def trParts (P : Program) (t : TypeId) : List (Nat × Operand) → Option (List (Nat × Opd))
  | [] => some []
  | (i, x) :: l => do some ((i, ← trO P t x) :: (← trParts P t l))
def trMb (P : Program) : Option Operand → Option (Option Opd)
  | none => some none
  | some x => (trO P 0 x).map some

def partSize (P : Program) (t : TypeId) : Option (Option Nat) := do
  let d ← P.underlying t
  let i ← P.info? t
  some (if aggD d then some i.size else none)

def trFieldParts (P : Program) (fs : Array Field) : List (Nat × Operand) → Option (List (Nat × Nat × Opd))
  | [] => some []
  | (i, x) :: l => do
    let f ← fs[i]?
    let j ← P.info? f.type
    some ((f.offset, j.size, ← trO P f.type x) :: (← trFieldParts P fs l))

/-- One operation that writes nothing, its types resolved. -/
def trR (P : Program) (ty : TypeId) : Op → Option I
  | .move x | .assign x => (trO P ty x).map .mv
  | .pick c a b => do some (.pick (← trO P 0 c) (← trO P ty a) (← trO P ty b))
  | .build t parts => do
    let i ← P.info? t
    let z ← i.zero
    match P.underlying t with
    | some (.struct fs) => if (fs.all fun f => (P.info? f.type).isSome) then some (.build (← cellsZero P t z) (← trFieldParts P fs parts.toList)) else none
    | _ => none
  | .load t x => do some (.load (← partSize P t) (← trO P 0 x))
  | .nilCheck x => (trO P 0 x).map .nilc
  | .binOp op t x y _ =>
    match P.underlying t, op with
    | some .bool, .eql => do some (.beq false (← trO P 0 x) (← trO P 0 y))
    | some .bool, .neq => do some (.beq true (← trO P 0 x) (← trO P 0 y))
    | _, _ => do some (.bin op (← trO P 0 x) (← trO P 0 y))
  | .unOp op _ x => (trO P 0 x).map (.un op)
  | .convert s d x => do
    let x ← trO P s x
    match P.underlying s, P.underlying d with
    | some (.int _), some (.int k) => some (.conv k x)
    | some (.slice e), some .string => match P.underlying e with | some (.int .u8) => some (.b2s x) | _ => none
    | some .string, some .string => some (.sid x)
    | _, _ => none
  | .slice t x lo hi none =>
    match P.underlying t with
    | some (.slice e) => do
      let i ← P.info? e
      some (.slc i.size (← trO P 0 x) (← trMb P lo) (← trMb P hi))
    | some .string => do some (.ssl (← trO P 0 x) (← trMb P lo) (← trMb P hi))
    | _ => none
  | .fieldAddr s x f =>
    match P.underlying s with
    | some (.struct fs) => do
      let f ← fs[f]?
      let i ← P.info? f.type
      if i.size = 0 then none else some (.fad f.offset (← trO P 0 x))
    | _ => none
  | .field s x f =>
    match P.underlying s with
    | some (.struct fs) => do
      let f ← fs[f]?
      some (.fld f.offset (← partSize P f.type) (← trO P 0 x))
    | _ => none
  | .indexAddr t x i =>
    match P.underlying t with
    | some (.slice e) => do
      let j ← P.info? e
      some (.iad j.size (← trO P 0 x) (← trO P 0 i))
    | some (.array n e) => do
      let j ← P.info? e
      some (.iaa n j.size (← trO P 0 x) (← trO P 0 i))
    | _ => none
  | .index t x i =>
    match P.underlying t with
    | some .string => do some (.idx (← trO P 0 x) (← trO P 0 i))
    | some (.array n e) => do
      let j ← P.info? e
      some (.ixa n (← partSize P e) j.size (← trO P 0 x) (← trO P 0 i))
    | _ => none
  | .extract t i => (trO P 0 t).map (.ext i)
  | .call { callee := .builtin .len, args, argTypes } =>
    match args.toList, argTypes.toList with
    | [x], [t] => match P.underlying t with
      | some (.slice _) => (trO P t x).map .len
      | some .string => (trO P t x).map .sln
      | _ => none
    | _, _ => none
  | _ => none
/-- One operation that writes, makes memory, or calls. -/
def trW (P : Program) : Op → Option W
  | .alloc e => do
    let i ← P.info? e
    let z ← i.zero
    some (.alloc (← cellsZero P e z))
  | .box e x => (trO P e x).map .box
  | .buildSlice t len parts =>
    match P.underlying t with
    | some (.slice e) => do
      let i ← P.info? e
      let z ← i.zero
      let zc ← cellsZero P e z
      if zc.length = i.size ∧ len * i.size ≤ 2 ^ 24 ∧ 0 < i.size then some (.lit i.size len zc (← trParts P e parts.toList)) else none
    | _ => none
  | .store t x v => do
    let i ← P.info? t
    some (.store i.size (← trO P 0 x) (← trO P t v))
  | .convert s d x => do
    let x ← trO P s x
    match P.underlying s, P.underlying d with
    | some .string, some (.slice e) => match P.underlying e with | some (.int .u8) => some (.s2b x) | _ => none
    | _, _ => none
  | .makeSlice t l c =>
    match P.underlying t with
    | some (.slice e) => do
      let i ← P.info? e
      let z ← i.zero
      let zc ← cellsZero P e z
      if zc.length = i.size ∧ 0 < i.size then some (.mks i.size i.bytes zc (← trO P 0 l) (← trO P 0 c)) else none
    | _ => none
  | .call { callee := .builtin .append, args, argTypes } =>
    match args.toList, argTypes.toList with
    | [x, y], [t, u] => match P.underlying t, P.underlying u with
      | some (.slice e), some (.slice _) => do
        let i ← P.info? e
        let z ← i.zero
        let zc ← cellsZero P e z
        if zc.length = i.size ∧ 0 < i.size ∧ 0 < i.bytes then some (.app i.size i.bytes zc (← trO P t x) (← trO P u y)) else none
      | some (.slice e), some .string => do
        let i ← P.info? e
        let z ← i.zero
        let zc ← cellsZero P e z
        if zc.length = 1 ∧ i.size = 1 ∧ i.bytes = 1 then some (.aps zc (← trO P t x) (← trO P u y)) else none
      | _, _ => none
    | _, _ => none
  | .call { callee := .builtin .clear, args, argTypes } =>
    match args.toList, argTypes.toList with
    | [x], [t] => match P.underlying t with
      | some (.slice e) => do
        let i ← P.info? e
        let z ← i.zero
        let zc ← cellsZero P e z
        if zc.length = i.size ∧ 0 < i.size then some (.clr i.size zc (← trO P t x)) else none
      | _ => none
    | _, _ => none
  | .call { callee := .value (.func f), args, argTypes } =>
    match P.funcs[f]? with
    | some fn => if fn.body.isSome && fn.name != "runtime.NumGoroutine" then (trOs P argTypes.toList args.toList).map (.call f) else none
    | none => none
  | .call { callee := .value (.tmp t), args, argTypes } => do some (.calv (.t t) (← trOs P argTypes.toList args.toList))
  | _ => none

/-! ## what is read -/
def St.node (S : St) (r : Nat) (p : Path) : Option (Nat × List (List D)) :=
  match get S.roots r with
  | some (.tr sz es) => nodeAt sz es p
  | some (.im sz es) => nodeAt sz es p
  | _ => none
def St.bcells (S : St) (r : Nat) : Option (List C) :=
  match get S.roots r with
  | some (.bx cs) => some cs
  | some (.ib cs) => some cs
  | _ => none
def toC (r : Nat) (p : Path) (i c : Nat) : D → C
  | .lf v => .lf v
  | .sl sz es => .rf r (p ++ [(i, c)]) sz 0 es.length
  | .hole => .un
def toCs (r : Nat) (p : Path) (i : Nat) : Nat → List D → List C
  | _, [] => []
  | c, d :: ds => toC r p i c d :: toCs r p i (c + 1) ds

def leafBin : BinOp → Value → Value → Option Value
  | .shl, .int k a, .int _ b => if 0 ≤ b then some (.int k (k.wrap (a * 2 ^ (min b.toNat k.bits)))) else none
  | .shr, .int k a, .int _ b => if 0 ≤ b then some (.int k (a.fdiv (2 ^ (min b.toNat k.bits)))) else none
  | .add, .int k a, .int k' b => if k = k' then some (.int k (k.wrap (a + b))) else none
  | .sub, .int k a, .int k' b => if k = k' then some (.int k (k.wrap (a - b))) else none
  | .mul, .int k a, .int k' b => if k = k' then some (.int k (k.wrap (a * b))) else none
  | .quo, .int k a, .int k' b => if k = k' ∧ b ≠ 0 then some (.int k (k.wrap (a.tdiv b))) else none
  | .rem, .int k a, .int k' b => if k = k' ∧ b ≠ 0 then some (.int k (a.tmod b)) else none
  | .and, .int k a, .int k' b => if k = k' then some (.int k (k.wrap (BitVec.ofInt k.bits a &&& BitVec.ofInt k.bits b).toNat)) else none
  | .or, .int k a, .int k' b => if k = k' then some (.int k (k.wrap (BitVec.ofInt k.bits a ||| BitVec.ofInt k.bits b).toNat)) else none
  | .xor, .int k a, .int k' b => if k = k' then some (.int k (k.wrap (BitVec.ofInt k.bits a ^^^ BitVec.ofInt k.bits b).toNat)) else none
  | .eql, .int k a, .int k' b => if k = k' then some (.bool (a == b)) else none
  | .neq, .int k a, .int k' b => if k = k' then some (.bool (a != b)) else none
  | .lss, .int k a, .int k' b => if k = k' then some (.bool (decide (a < b))) else none
  | .leq, .int k a, .int k' b => if k = k' then some (.bool (decide (a ≤ b))) else none
  | .gtr, .int k a, .int k' b => if k = k' then some (.bool (decide (a > b))) else none
  | .geq, .int k a, .int k' b => if k = k' then some (.bool (decide (a ≥ b))) else none
  | .add, .string a, .string b => if a.size + b.size < 9223372036854775808 then some (.string (a ++ b)) else none
  | .eql, .string a, .string b => some (.bool (a.toList == b.toList))
  | .neq, .string a, .string b => some (.bool (!(a.toList == b.toList)))
  | .lss, .string a, .string b => some (.bool (Op.bytesLess a.toList b.toList))
  | .leq, .string a, .string b => some (.bool (Op.bytesLess a.toList b.toList || a.toList == b.toList))
  | .gtr, .string a, .string b => some (.bool (!(Op.bytesLess a.toList b.toList || a.toList == b.toList)))
  | .geq, .string a, .string b => some (.bool (!Op.bytesLess a.toList b.toList))
  | _, _, _ => none
theorem leafBin_ok {P : Program} {op : BinOp} {t : TypeId} {x y : Operand} {u v r : Value} (h : leafBin op u v = some r) (w : World) :
    (do eqGuard op t x y u v; binOp op t u v : Sem Value).run P w = .ok r w := by
  unfold leafBin at h
  split at h
  case h_17 a b =>
    split at h
    · rename_i hk
      simp only [Option.some.injEq] at h; subst h
      simp only [eqGuard, binOp, Op.stringOp, Sem.run_bind]
      have e : ¬ (((a.size + b.size : Nat) : Int) > IntKind.i64.max) := by rw [show IntKind.i64.max = 9223372036854775807 from rfl]; omega
      rw [if_neg e]
      simp
    · simp at h
  all_goals first
    | (simp at h; done)
    | (split at h
       · rename_i hk
         simp only [Option.some.injEq] at h; subst h
         first
          | (obtain ⟨rfl, hb⟩ := hk; simp [eqGuard, binOp, Op.intDiv, hb]; done)
          | (subst hk; simp [eqGuard, binOp, Op.intArith, Op.intBits, Op.intCmp]; done)
          | (simp [eqGuard, binOp, Op.shift, Int.not_lt.2 hk]; done)
       · simp at h)
    | (simp only [Option.some.injEq] at h; subst h
       simp [eqGuard, binOp, Op.stringOp]; done)
def leafUn : UnOp → Value → Option Value
  | .not, .bool b => some (.bool (!b))
  | .neg, .int k n => some (.int k (k.wrap (0 - n)))
  | _, _ => none
end Go.Vs
