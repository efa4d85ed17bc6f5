import Derived.Test.YtmfmjngkbddenaaGreatDoorVsW5
import Derived.Test.YtmfmjngkbddenaaGreatDoorVsQte
set_option linter.all false
namespace Go.Vs
noncomputable section
abbrev WrT:=Int×List UInt8
abbrev Dev:=List (List UInt8)×List WrT×Int×Bool
abbrev Bv:=Dev×Tab×Int×Int
def smD (B:Nat) (d:Dev):Prop:=d.1.length<=B/\(∀s∈d.1,s.length<=B)/\d.2.1.length<=B/\∀w∈d.2.1,w.2.length<=B
def smS (B:Nat) (s:Bv):Prop:=smD B s.1/\smT B s.2.1
theorem smD.mono {A B:Nat}{d:Dev}(h:smD A d) (hab:A<=B):smD B d:=⟨Kka h.1 hab,fun s hs=>Kka (h.2.1 s hs) hab,Kka h.2.2.1 hab,fun w hw=>Kka (h.2.2.2 w hw) hab⟩
theorem T1 {d:Dev}(h:smD 1048576 d):SmD d:=⟨h.1,h.2.1,Kka h.2.2.1 (by decide),h.2.2.2⟩
def Ie (s:Bv):Bool:=Cj s.1.1 s.1.2.1 s.1.2.2.1&&(decide (s.1.1.length=62)&&((s.1.2.2.2||decide (s.1.2.1.length=0))&&(Ca s.2.1&&(decide (1<=s.2.2.1/\s.2.2.1<=60000)&&decide (0<=s.2.2.2/\s.2.2.2<=30)))))
theorem Zxi {n k:Nat}:decide ((n:Int)=(k:Int))=decide (n=k):=by rw[Kdc];simp;omega
theorem V0 {s:Bv}(h:smS 1048576 s):Jg s=some (Ie s):=by
 have e1:Jf (s.1.1,(s.1.2.1,(s.1.2.2.1,s.1.2.2.2)))=some (Cj s.1.1 s.1.2.1 s.1.2.2.1):=Zy (T1 h.1);have e2:Ns (s.2.1.1,(s.2.1.2.1,s.2.1.2.2))=some (Ca s.2.1):=Zmp h.2;unfold Jg Ie;simp only[e1,e2,Gz,Ak,Aa,Sc,K3];rw[show decide ((s.1.1.length:Int)=62)=decide (s.1.1.length=62) from Zxi,show decide ((s.1.2.1.length:Int)=0)=decide (s.1.2.1.length=0) from Zxi];generalize Cj s.1.1 s.1.2.1 s.1.2.2.1=a;generalize decide (s.1.1.length=62)=b;generalize decide (s.1.2.1.length=0)=c;generalize Ca s.2.1=d;generalize decide (1<=s.2.2.1/\s.2.2.1<=60000)=e;generalize decide (0<=s.2.2.2/\s.2.2.2<=30)=f;generalize s.1.2.2.2=g;cases a<;>cases b<;>cases c<;>cases d<;>cases g<;>rfl
end
end Go.Vs
