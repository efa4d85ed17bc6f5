import Derived.Test.YtgleokjlebkdcaaDoorVsW5
import Derived.Test.YtgleokjlebkdcaaDoorVsQe2
set_option linter.all false
namespace Go.Vs
set_option linter.unusedVariables false
set_option linter.unusedSimpArgs false
noncomputable section
def sgnR (o : Option (List Nat)) : List Int × Bool := match o with
 | none => ([], false)
 | some ns => (ns.map fun (n : Nat) => (n : Int), true)
end
end Go.Vs
