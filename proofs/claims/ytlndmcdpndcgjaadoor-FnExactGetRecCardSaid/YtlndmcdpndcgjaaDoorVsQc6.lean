import Derived.Test.YtlndmcdpndcgjaaDoorVsW5
import Derived.Test.YtlndmcdpndcgjaaDoorVsQc5
set_option linter.all false
namespace Go.Vs
set_option linter.unusedVariables false
set_option linter.unusedSimpArgs false
noncomputable section
abbrev Mark := Int × Int × Int
abbrev Tab := List Row × Int × List Mark
def smT (B : Nat) (t : Tab) : Prop := t.1.length ≤ B ∧ (∀ r ∈ t.1, smR B r) ∧ t.2.2.length ≤ B
theorem smT.mono {A B : Nat} {t : Tab} (h : smT A t) (hab : A ≤ B) : smT B t := ⟨Nat.le_trans h.1 hab, fun r hr => (h.2.1 r hr).mono hab, Nat.le_trans h.2.2 hab⟩
end
end Go.Vs
