import Derived.Test.YtlndmcdpndcgjaaDoorVsW5
import Derived.Test.YtlndmcdpndcgjaaDoorVsQc4
set_option linter.all false
namespace Go.Vs
set_option linter.unusedVariables false
set_option linter.unusedSimpArgs false
noncomputable section
abbrev Rec := Int × Row × List UInt8 × Int × Int × Int × Int
theorem cnd_and (a b : Bool) : cnd a (some b) (some false) = some (a && b) := by cases a <;> rfl
theorem iEq_d (a b : Int) : iEq a b = decide (a = b) := by simp only [iEq]; rfl
def smC (B : Nat) (r : Rec) : Prop := smR B r.2.1 ∧ r.2.2.1.length ≤ B
theorem smC.mono {A B : Nat} {r : Rec} (h : smC A r) (hab : A ≤ B) : smC B r := ⟨h.1.mono hab, Nat.le_trans h.2 hab⟩
end
end Go.Vs
