import Derived.Test.YtmfmjngkbddenaaGreatDoorVsQte
set_option linter.all false
namespace Go.Vs
noncomputable section
abbrev WrT:=Int×List UInt8
abbrev Dev:=List (List UInt8)×List WrT×Int×Bool
abbrev Bw:=Dev×Tab×Int×Int
def smD (B:Nat) (d:Dev):Prop:=d.1.length<=B/\(∀s∈d.1,s.length<=B)/\d.2.1.length<=B/\∀w∈d.2.1,w.2.length<=B
def smS (B:Nat) (s:Bw):Prop:=smD B s.1/\smT B s.2.1
theorem smD.mono {A B:Nat}{d:Dev}(h:smD A d) (hab:A<=B):smD B d:=⟨Kla h.1 hab,fun s hs=>Kla (h.2.1 s hs) hab,Kla h.2.2.1 hab,fun w hw=>Kla (h.2.2.2 w hw) hab⟩
theorem Zie {d:Dev}(h:smD 1048576 d):SmD d:=⟨h.1,h.2.1,Kla h.2.2.1 (by decide),h.2.2.2⟩
def Ii (s:Bw):Bool:=Ce s.1.1 s.1.2.1 s.1.2.2.1&&(decide (s.1.1.length=62)&&((s.1.2.2.2||decide (s.1.2.1.length=0))&&(B7 s.2.1&&(decide (1<=s.2.2.1/\s.2.2.1<=60000)&&decide (0<=s.2.2.2/\s.2.2.2<=30)))))
theorem Zxw {n k:Nat}:decide ((n:Int)=(k:Int))=decide (n=k):=by rw[Kdc];simp;omega
theorem Zm4 {s:Bw}(h:smS 1048576 s):Rz s=some (Ii s):=by
 have e1:Jh (s.1.1,(s.1.2.1,(s.1.2.2.1,s.1.2.2.2)))=some (Ce s.1.1 s.1.2.1 s.1.2.2.1):=Z9 (Zie h.1);have e2:Nu (s.2.1.1,(s.2.1.2.1,s.2.1.2.2))=some (B7 s.2.1):=Zm5 h.2;unfold Rz Ii;simp only[e1,e2,G1,Ak,Aa,Sm,K4];rw[show decide ((s.1.1.length:Int)=62)=decide (s.1.1.length=62) from Zxw,show decide ((s.1.2.1.length:Int)=0)=decide (s.1.2.1.length=0) from Zxw];generalize Ce s.1.1 s.1.2.1 s.1.2.2.1=a;generalize decide (s.1.1.length=62)=b;generalize decide (s.1.2.1.length=0)=c;generalize B7 s.2.1=d;generalize decide (1<=s.2.2.1/\s.2.2.1<=60000)=e;generalize decide (0<=s.2.2.2/\s.2.2.2<=30)=f;generalize s.1.2.2.2=g;cases a<;>cases b<;>cases c<;>cases d<;>cases g<;>rfl
end
end Go.Vs
