import Derived.Test.YteaoaehkkcbmbaaGreatDoorVsQve
set_option linter.all false
namespace Go.Vs
noncomputable section
abbrev x0:=Int×List UInt8
abbrev Xr:=List (List UInt8)×List x0×Int×Bool
abbrev BN:=Xr×B9×Int×Int
def HN(B:Nat)(d:Xr):Prop:=d.1.length<=B/\(∀s∈d.1,s.length<=B)/\d.2.1.length<=B/\∀w∈d.2.1,w.2.length<=B
def FD(B:Nat)(s:BN):Prop:=HN B s.1/\EU B s.2.1
def HN.mono{A B:Nat}{d:Xr}(h:HN A d)(a:A<=B):HN B d:=⟨CW h.1 a,λs b=>CW (h.2.1 s b) a,CW h.2.2.1 a,λw c=>CW (h.2.2.2 w c) a⟩
def Lq{d:Xr}(h:HN 1048576 d):GP d:=⟨h.1,h.2.1,CW h.2.2.1 (by decide),h.2.2.2⟩
def GH(s:BN):Bool:=CH s.1.1 s.1.2.1 s.1.2.2.1&&(decide (s.1.1.length=62)&&((s.1.2.2.2||decide (s.1.2.1.length=0))&&(Dw s.2.1&&(decide (1<=s.2.2.1/\s.2.2.1<=60000)&&decide (0<=s.2.2.2/\s.2.2.2<=30)))))
def ap{n k:Nat}:decide ((n:Int)=(k:Int))=decide (n=k):=by rw[J7];simp;omega
def cD{s:BN}(h:FD 1048576 s):NW s=some (GH s):=by
 have i:P7 (s.1.1,(s.1.2.1,(s.1.2.2.1,s.1.2.2.2)))=some (CH s.1.1 s.1.2.1 s.1.2.2.1):=kW (Lq h.1);have j:M3 (s.2.1.1,(s.2.1.2.1,s.2.1.2.2))=some (Dw s.2.1):=k7 h.2;unfold NW GH;simp only[i,j,Ef,Av,Ad,Oz,Jq];rw[show decide ((s.1.1.length:Int)=62)=decide (s.1.1.length=62) from ap,show decide ((s.1.2.1.length:Int)=0)=decide (s.1.2.1.length=0) from ap];generalize CH s.1.1 s.1.2.1 s.1.2.2.1=a;generalize decide (s.1.1.length=62)=b;generalize decide (s.1.2.1.length=0)=c;generalize Dw s.2.1=d;generalize decide (1<=s.2.2.1/\s.2.2.1<=60000)=e;generalize decide (0<=s.2.2.2/\s.2.2.2<=30)=f;generalize s.1.2.2.2=g;cases a<;>cases b<;>cases c<;>cases d<;>cases g<;>rfl
def VE{s:BN}(h:FD 1048576 s):Mw s=some (GH s):=by
 have i:K9 (s.1.1,(s.1.2.1,(s.1.2.2.1,s.1.2.2.2)))=some (CH s.1.1 s.1.2.1 s.1.2.2.1):=aV (Lq h.1);have j:Mx (s.2.1.1,(s.2.1.2.1,s.2.1.2.2))=some (Dw s.2.1):=iO h.2;unfold Mw GH;simp only[i,j,HD,Av,Ad,Oz,Jq];rw[show decide ((s.1.1.length:Int)=62)=decide (s.1.1.length=62) from ap,show decide ((s.1.2.1.length:Int)=0)=decide (s.1.2.1.length=0) from ap];generalize CH s.1.1 s.1.2.1 s.1.2.2.1=a;generalize decide (s.1.1.length=62)=b;generalize decide (s.1.2.1.length=0)=c;generalize Dw s.2.1=d;generalize decide (1<=s.2.2.1/\s.2.2.1<=60000)=e;generalize decide (0<=s.2.2.2/\s.2.2.2<=30)=f;generalize s.1.2.2.2=g;cases a<;>cases b<;>cases c<;>cases d<;>cases g<;>rfl
end
end Go.Vs
