import Derived.Test.YtgleokjlebkdcaaVsW5
import Derived.Test.YtgleokjlebkdcaaVsPd
set_option linter.all false
namespace Go.Vs
set_option linter.unusedVariables false
set_option linter.unusedSimpArgs false
noncomputable section
abbrev Cell := Int × List UInt8
abbrev Row := List UInt8 × Cell × Cell × Int × Bool
def smR (B : Nat) (r : Row) : Prop := r.1.length ≤ B ∧ r.2.1.2.length ≤ B ∧ r.2.2.1.2.length ≤ B
theorem smR.mono {A B : Nat} {r : Row} (h : smR A r) (hab : A ≤ B) : smR B r := ⟨Nat.le_trans h.1 hab, Nat.le_trans h.2.1 hab, Nat.le_trans h.2.2 hab⟩
theorem iEq_x (a b : Int) : iEq a b = decide (a = b) := by simp only [iEq]; rfl
abbrev Mark := Int × Int × Int
abbrev Tab := List Row × Int × List Mark
def smT (B : Nat) (t : Tab) : Prop := t.1.length ≤ B ∧ (∀ r ∈ t.1, smR B r) ∧ t.2.2.length ≤ B
theorem smT.mono {A B : Nat} {t : Tab} (h : smT A t) (hab : A ≤ B) : smT B t := ⟨Nat.le_trans h.1 hab, fun r hr => (h.2.1 r hr).mono hab, Nat.le_trans h.2.2 hab⟩
end
end Go.Vs
