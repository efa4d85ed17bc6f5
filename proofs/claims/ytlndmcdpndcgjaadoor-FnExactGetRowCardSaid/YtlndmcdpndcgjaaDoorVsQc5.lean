import Derived.Test.YtlndmcdpndcgjaaDoorVsW4
import Derived.Test.YtlndmcdpndcgjaaDoorVsQc4
set_option linter.all false
namespace Go.Vs
set_option linter.unusedVariables false
set_option linter.unusedSimpArgs false
noncomputable section
/-! ## records -/
abbrev Rec := Int × Row × List UInt8 × Int × Int × Int × Int
/-! ## RecOk -/
theorem iEq_d (a b : Int) : iEq a b = decide (a = b) := by simp only [iEq]; rfl
/-! records: bytes, copies, marks -/
def smC (B : Nat) (r : Rec) : Prop := smR B r.2.1 ∧ r.2.2.1.length ≤ B
theorem smC.mono {A B : Nat} {r : Rec} (h : smC A r) (hab : A ≤ B) : smC B r := ⟨h.1.mono hab, Nat.le_trans h.2 hab⟩
end
end Go.Vs
