import Derived.Test.YtmfmjngkbddenaaGreatDoorVsQt1
set_option linter.all false
namespace Go.Vs
noncomputable section
def Asc (l l':List UInt8):Prop:=∃m,m<=l.length/\l'=l.drop m/\∀b∈l.take m,b.toNat<128
theorem Asc.refl (l:List UInt8):Asc l l:=⟨0,Kda _,rfl,fun b hb=>by simp at hb⟩
theorem Asc.more {l l':List UInt8}{m:Nat}(h:Asc l l') (hm:m<=l'.length) (hb:∀b∈l'.take m,b.toNat<128):Asc l (l'.drop m):=by
 obtain⟨k,h1,rfl,h2⟩:=h;rw[Kma]at hm;refine⟨k+m,by omega,by rw[Kbd],fun b hb'=>?_⟩;rw[List.take_add,Kca]at hb';rcases hb' with h|h
 ·exact h2 b h
 exact hb b h
def Yd7 (n:Nat):Prop:=n&&&9259542123273814144=0
instance (n:Nat):Decidable (Yd7 n):=Nat.decEq _ _
def Zic (o:Option (List Nat)):List Int×Bool:=match o with
 | none=>([],false)
 | some ns=>(ns.map fun (n:Nat)=>(n:Int),true)
end
end Go.Vs
