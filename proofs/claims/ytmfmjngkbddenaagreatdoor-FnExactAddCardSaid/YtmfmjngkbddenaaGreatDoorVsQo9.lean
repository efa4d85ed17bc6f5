import Derived.Test.YtmfmjngkbddenaaGreatDoorVsW5
import Derived.Test.YtmfmjngkbddenaaGreatDoorVsQo8
set_option linter.all false
namespace Go.Vs
noncomputable section
abbrev WrT:=Int×List UInt8
abbrev Dev:=List (List UInt8)×List WrT×Int×Bool
abbrev Cx:=Dev×Tab×Int×Int
def smD (B:Nat) (d:Dev):Prop:=d.1.length<=B/\(∀s∈d.1,s.length<=B)/\d.2.1.length<=B/\∀w∈d.2.1,w.2.length<=B
def smS (B:Nat) (s:Cx):Prop:=smD B s.1/\smT B s.2.1
theorem smD.mono {A B:Nat}{d:Dev}(h:smD A d) (hab:A<=B):smD B d:=⟨Kka h.1 hab,fun s hs=>Kka (h.2.1 s hs) hab,Kka h.2.2.1 hab,fun w hw=>Kka (h.2.2.2 w hw) hab⟩
theorem Yqh {d:Dev}{k:Int}(h0:0<=k) (hk:k<=1048576) (h:smD 9223372036854775807 d):SzR (Zaj (d,k)) k (smD 1048576 d):=by
 unfold Zaj;have e1:Zf2 (d.1,k)=Yy Sh (d.1,k):=rfl;have e2:∀z,Zf4 (d.2.1,z)=Yy Zao (d.2.1,z):=fun z=>rfl;simp only[e1,e2];refine (SzR.seq h0 (Zm8 (B:=1048576) h0 hk (by omega) h.1 (P:=fun s=>s.length<=1048576) fun e he k h0 hk=>(Zm7 h0 (by omega) (h.2.1 e he)).mono (Klb _) fun h=>by omega) (Q:=d.2.1.length<=1048576/\∀w∈d.2.1,w.2.length<=1048576) fun z hz hz2=>?_).mono (Klb _) fun h=>⟨by have:=h.1.1;omega,h.1.2,h.2.1,h.2.2⟩;refine SzR.one hz ((Zm8 (B:=1048576) hz (by omega) (by omega) h.2.2.1 (P:=fun w=>w.2.length<=1048576) fun e he k h0 hk=>?_).mono (Klb _) fun h=>⟨by have:=h.1;omega,h.2⟩);unfold Zao;exact SzR.one h0 ((Zm7 h0 (by omega) (h.2.2.2 e he)).mono (Klb _) fun h=>by omega)
theorem Yqr {d:Dev}(h:smD 1048576 d):V1 d=some d:=by
 have e1:Zap d.1=some d.1:=by
  have:Zap d.1=R3 Qa [] 24 d.1:=rfl;rw[this];exact Y4 (by have:=h.1;omega) (by have:=h.1;omega) fun r hr=>Znc (by have:=h.2.1 r hr;omega)
 have e2:Zat d.2.1=some d.2.1:=by
  have:Zat d.2.1=R3 Zas (0,[]) 32 d.2.1:=rfl;rw[this];exact Y4 (by have:=h.2.2.1;omega) (by have:=h.2.2.1;omega) fun r hr=>by
   unfold Zas;rw[Znc (by have:=h.2.2.2 r hr;omega)];rfl
 unfold V1;rw[e1,Ab,e2];rfl
theorem Ye6 {d:Dev}(h:smD 1048576 d):Vt (d,d)=some true:=by
 have e1:Zy (d.1,d.1)=some true:=by
  have:Zy (d.1,d.1)=Tj P6 (d.1,d.1):=rfl;rw[this];exact Zc2 (by have:=h.1;omega) fun r hr=>Zir (by have:=h.2.1 r hr;omega)
 have e2:Z4 (d.2.1,d.2.1)=some true:=by
  have:Z4 (d.2.1,d.2.1)=Tj Z3 (d.2.1,d.2.1):=rfl;rw[this];exact Zc2 (by have:=h.2.2.1;omega) fun r hr=>by
   unfold Z3;simp only[Fo,Ac,Zir (show r.2.length<9223372036854775807 by have:=h.2.2.2 r hr;omega),Ab,A5]
 unfold Vt;simp only[e1,e2,Ab,A5,Ac,Fo,Zb1]
theorem Yqk {s:Cx}{k:Int}(h0:0<=k) (hk:k<=1048576) (h:smS 9223372036854775807 s):SzR (Zam (s,k)) k (smS 1048576 s):=by
 unfold Zam;refine SzR.seq h0 (Yqh (d:=s.1) h0 hk h.1) fun z hz hz2=>?_;exact SzR.one hz (Yql (t:=s.2.1) hz (by omega) h.2)
theorem Yqu {s:Cx}(h:smS 1048576 s):Qd s=some s:=by
 unfold Qd;rw[show V1 (s.1.1,(s.1.2.1,(s.1.2.2.1,s.1.2.2.2)))=some s.1 from Yqr h.1,Ab,show V2 (s.2.1.1,(s.2.1.2.1,s.2.1.2.2))=some s.2.1 from Yqv h.2];rfl
theorem Zrl {s:Cx}(h:smS 1048576 s):P8 (s,s)=some true:=by
 have e1:Vt ((s.1.1,(s.1.2.1,(s.1.2.2.1,s.1.2.2.2))),(s.1.1,(s.1.2.1,(s.1.2.2.1,s.1.2.2.2))))=some true:=Ye6 h.1;have e2:Vu ((s.2.1.1,(s.2.1.2.1,s.2.1.2.2)),(s.2.1.1,(s.2.1.2.1,s.2.1.2.2)))=some true:=Ye8 h.2;unfold P8;simp only[e1,e2,Ab,A5,Ac,Fo]
theorem Rx {d:Dev}(h:smD 1048576 d):SmD d:=⟨h.1,h.2.1,Kka h.2.2.1 (by decide),h.2.2.2⟩
def H1 (s:Cx):Bool:=C6 s.1.1 s.1.2.1 s.1.2.2.1&&(decide (s.1.1.length=62)&&((s.1.2.2.2||decide (s.1.2.1.length=0))&&(Ez s.2.1&&(decide (1<=s.2.2.1/\s.2.2.1<=60000)&&decide (0<=s.2.2.2/\s.2.2.2<=30)))))
theorem Zd0 {n k:Nat}:decide ((n:Int)=(k:Int))=decide (n=k):=by rw[Klc];simp;omega
theorem Yox {s:Cx}(h:smS 1048576 s):Za1 s=some (H1 s):=by
 have e1:V3 (s.1.1,(s.1.2.1,(s.1.2.2.1,s.1.2.2.2)))=some (C6 s.1.1 s.1.2.1 s.1.2.2.1):=Yon (Rx h.1);have e2:Mc (s.2.1.1,(s.2.1.2.1,s.2.1.2.2))=some (Ez s.2.1):=Zmg h.2;unfold Za1 H1;simp only[e1,e2,En,Aj,Ab,Oi,O5];rw[show decide ((s.1.1.length:Int)=62)=decide (s.1.1.length=62) from Zd0,show decide ((s.1.2.1.length:Int)=0)=decide (s.1.2.1.length=0) from Zd0];generalize C6 s.1.1 s.1.2.1 s.1.2.2.1=a;generalize decide (s.1.1.length=62)=b;generalize decide (s.1.2.1.length=0)=c;generalize Ez s.2.1=d;generalize decide (1<=s.2.2.1/\s.2.2.1<=60000)=e;generalize decide (0<=s.2.2.2/\s.2.2.2<=30)=f;generalize s.1.2.2.2=g;cases a<;>cases b<;>cases c<;>cases d<;>cases g<;>rfl
theorem Zs1 {s:Cx}(h:smS 1048576 s):Vm s=some (H1 s):=by
 have e1:L3 (s.1.1,(s.1.2.1,(s.1.2.2.1,s.1.2.2.2)))=some (C6 s.1.1 s.1.2.1 s.1.2.2.1):=Zji (Rx h.1);have e2:L6 (s.2.1.1,(s.2.1.2.1,s.2.1.2.2))=some (Ez s.2.1):=Zjm h.2;unfold Vm H1;simp only[e1,e2,Ix,Aj,Ab,Oi,O5];rw[show decide ((s.1.1.length:Int)=62)=decide (s.1.1.length=62) from Zd0,show decide ((s.1.2.1.length:Int)=0)=decide (s.1.2.1.length=0) from Zd0];generalize C6 s.1.1 s.1.2.1 s.1.2.2.1=a;generalize decide (s.1.1.length=62)=b;generalize decide (s.1.2.1.length=0)=c;generalize Ez s.2.1=d;generalize decide (1<=s.2.2.1/\s.2.2.1<=60000)=e;generalize decide (0<=s.2.2.2/\s.2.2.2<=30)=f;generalize s.1.2.2.2=g;cases a<;>cases b<;>cases c<;>cases d<;>cases g<;>rfl
def Zl1 (r:Row):Rec:=(1,r,[],0,0,0,0)
def Zko (m:Cb):Rec:=(4,([],(0,[]),(0,[]),0,false),[],0,m.1,m.2.1,m.2.2)
def Hx (t:Tab):List Rec:=Znd t.2.1::(t.1.map Zl1++t.2.2.map Zko)
theorem Zve (t:Tab):(Hx t).length=1+t.1.length+t.2.2.length:=by simp [Hx];omega
theorem Zvf {t:Tab}(h:smT 1048576 t):(Hx t).length<=4194304/\∀r∈Hx t,smC 1048576 r:=by
 refine⟨by rw[Zve];have:=h.1;have:=h.2.2;omega, ?_⟩;intro r hr;simp only[Hx,Kh,Kda,Kx]at hr;rcases hr with rfl|⟨q,hq,rfl⟩|⟨q,hq,rfl⟩
 ·exact⟨⟨Kpa _,Kpa _,Kpa _⟩,Kpa _⟩
 ·exact⟨h.2.1 q hq,Kpa _⟩
 ·exact⟨⟨Kpa _,Kpa _,Kpa _⟩,Kpa _⟩
theorem Yoh {t:Tab}(h:smT 1048576 t):V5 t=some (Hx t):=by
 have h1:=h.1;have h2:=h.2.2;unfold V5;rw[Mm (x:=t.1) (f:=Zl1) (by
  intro l i hi hl;simp only[Kg,Ki]at hl;simp (disch:=first|omega|(simp only[Aj];omega)) only[Zgq,A4,Ag,Bt,Ab,Zl6 (h.2.1 t.1[i] (Khb hi)),Bk,Av,C8];rfl) (by
  intro l;simp (disch:=first|omega|(simp only[Aj];omega)) only[Zgq,A0,Ac])]
 simp only[A3];rw[Mm (x:=t.2.2) (f:=Zko) (by
  intro l i hi hl;simp only[Ky,Ko,Kg,Ki]at hl;simp (disch:=first|omega|(simp only[Aj];omega)) only[Zgr,A4,Ag,Bt,Ab,Bk,Av,C8];rfl) (by
  intro l;simp (disch:=first|omega|(simp only[Aj];omega)) only[Zgr,A0,Ac])]
 simp only[A3];rfl
theorem Ykx {t:Tab}(h:smT 1048576 t):Zt t=some (Hx t):=by
 have h1:=h.1;have h2:=h.2.2;unfold Zt;rw[Mm (x:=t.1) (f:=Zl1) (by
  intro l i hi hl;simp only[Kg,Ki]at hl;simp (disch:=first|omega|(simp only[Aj];omega)) only[Zgg,A4,Ag,Bt,Ab,Zjf (h.2.1 t.1[i] (Khb hi)),Bk,Av,C8];rfl) (by
  intro l;simp (disch:=first|omega|(simp only[Aj];omega)) only[Zgg,A0,Ac])]
 simp only[A3];rw[Mm (x:=t.2.2) (f:=Zko) (by
  intro l i hi hl;simp only[Ky,Ko,Kg,Ki]at hl;simp (disch:=first|omega|(simp only[Aj];omega)) only[Zgh,A4,Ag,Bt,Ab,Bk,Av,C8];rfl) (by
  intro l;simp (disch:=first|omega|(simp only[Aj];omega)) only[Zgh,A0,Ac])]
 simp only[A3];rfl
end
end Go.Vs
