import Derived.Test.YtggfmlobpmndoaaGreatDoorVsW5
import Derived.Test.YtggfmlobpmndoaaGreatDoorVsQg2
set_option linter.all false
namespace Go.Vs
noncomputable section
def sgnR (o:Option (List Nat)):List Int×Bool:=match o with
 | none=>([],false)
 | some ns=>(ns.map fun (n:Nat)=>(n:Int),true)
end
end Go.Vs
