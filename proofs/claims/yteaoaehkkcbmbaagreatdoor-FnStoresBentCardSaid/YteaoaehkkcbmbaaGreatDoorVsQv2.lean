import Derived.Test.YteaoaehkkcbmbaaGreatDoorVsQv1
set_option linter.all false
namespace Go.Vs
noncomputable section
def TH(l a:List UInt8):Prop:=∃m,m<=l.length/\a=l.drop m/\∀b∈l.take m,b.toNat<128
def TH.refl(l:List UInt8):TH l l:=⟨0,Cq _,rfl,λb a=>by simp at a⟩
def TH.more{l c:List UInt8}{m:Nat}(h:TH l c)(f:m<=c.length)(e:∀b∈c.take m,b.toNat<128):TH l (c.drop m):=by
 obtain⟨k,g,rfl,d⟩:=h;rw[Di]at f;refine⟨k+m,by omega,by rw[MC],λb a=>?_⟩;rw[List.take_add,C7]at a;rcases a with h|h
 .exact d b h
 exact e b h
def xL(n:Nat):Prop:=n&&&9259542123273814144=0
instance (n:Nat):Decidable (xL n):=Nat.decEq _ _
def cT(o:Option (List Nat)):List Int×Bool:=match o with
 |none=>([],false)
 |some a=>(a.map λ(n:Nat)=>(n:Int),true)
end
end Go.Vs
