import Derived.Test.YtmfmjngkbddenaaGreatDoorVsW5
import Derived.Test.YtmfmjngkbddenaaGreatDoorVsQtb
set_option linter.all false
namespace Go.Vs
noncomputable section
def Tt (a b:Ba):Bool:=decide (a.1=b.1)&&(a.2==b.2)
def Pc (a b:Row):Bool:=(a.1==b.1)&&Tt a.2.1 b.2.1&&Tt a.2.2.1 b.2.2.1&&decide (a.2.2.2.1=b.2.2.2.1)&&(a.2.2.2.2==b.2.2.2.2)
def Tu (a b:Bu):Bool:=decide (a.1=b.1)&&decide (a.2.1=b.2.1)&&decide (a.2.2=b.2.2)
def Zhu (a b:Tab):Bool:=decide (a.1.length=b.1.length)&&Lz Pc a.1 b.1&&decide (a.2.1=b.2.1)&&decide (a.2.2.length=b.2.2.length)&&Lz Tu a.2.2 b.2.2
theorem Yxy (a b:Bu):zEq [a.1,a.2.1,a.2.2] [b.1,b.2.1,b.2.2]=Tu a b:=by
 unfold zEq Tu;rw[Kdc];simp [and_assoc]
def Wq (r:Row):Rec:=(1,r,[],0,0,0,0)
def L6 (m:Bu):Rec:=(4,([],(0,[]),(0,[]),0,false),[],0,m.1,m.2.1,m.2.2)
def Pk (z:Int):Rec:=(3,([],(0,[]),(0,[]),0,false),[],z,0,0,0)
def C2 (t:Tab):List Rec:=Pk t.2.1::(t.1.map Wq++t.2.2.map L6)
theorem Tl (t:Tab):(C2 t).length=1+t.1.length+t.2.2.length:=by simp [C2];omega
theorem Zo0 {t:Tab}(h:smT 1048576 t):(C2 t).length<=4194304/\∀r∈C2 t,smC 1048576 r:=by
 refine⟨by rw[Tl];have:=h.1;have:=h.2.2;omega, ?_⟩;intro r hr;simp only[C2,Kh,Kda,Ky]at hr;rcases hr with rfl|⟨q,hq,rfl⟩|⟨q,hq,rfl⟩
 ·exact⟨⟨Kca _,Kca _,Kca _⟩,Kca _⟩
 ·exact⟨h.2.1 q hq,Kca _⟩
 ·exact⟨⟨Kca _,Kca _,Kca _⟩,Kca _⟩
theorem Yak {t:Tab}(h:smT 1048576 t):Ya t=some (C2 t):=by
 have h1:=h.1;have h2:=h.2.2;unfold Ya;rw[R4 (x:=t.1) (f:=Wq) (by
  intro l i hi hl;simp only[Kf,Ki]at hl;simp (disch:=first|omega|(simp only[Ak];omega)) only[Zjh,A5,Ad,Br,Aa,Zba (h.2.1 t.1[i] (Kcb hi)),Bi,Az,C0];rfl) (by
  intro l;simp (disch:=first|omega|(simp only[Ak];omega)) only[Zjh,A6,Ac])]
 simp only[Ar];rw[R4 (x:=t.2.2) (f:=L6) (by
  intro l i hi hl;simp only[Kt,Ko,Kf,Ki]at hl;simp (disch:=first|omega|(simp only[Ak];omega)) only[Zji,A5,Ad,Br,Aa,Bi,Az,C0];rfl) (by
  intro l;simp (disch:=first|omega|(simp only[Ak];omega)) only[Zji,A6,Ac])]
 simp only[Ar];rfl
theorem Yop {t:Tab}(h:smT 1048576 t):Zcl t=some (C2 t):=by
 have h1:=h.1;have h2:=h.2.2;unfold Zcl;rw[R4 (x:=t.1) (f:=Wq) (by
  intro l i hi hl;simp only[Kf,Ki]at hl;simp (disch:=first|omega|(simp only[Ak];omega)) only[Zi9,A5,Ad,Br,Aa,Zmi (h.2.1 t.1[i] (Kcb hi)),Bi,Az,C0];rfl) (by
  intro l;simp (disch:=first|omega|(simp only[Ak];omega)) only[Zi9,A6,Ac])]
 simp only[Ar];rw[R4 (x:=t.2.2) (f:=L6) (by
  intro l i hi hl;simp only[Kt,Ko,Kf,Ki]at hl;simp (disch:=first|omega|(simp only[Ak];omega)) only[Zja,A5,Ad,Br,Aa,Bi,Az,C0];rfl) (by
  intro l;simp (disch:=first|omega|(simp only[Ak];omega)) only[Zja,A6,Ac])]
 simp only[Ar];rfl
theorem Yp9 {a b:Ba}:Xz (a,b)=some (Tt a b):=by
 unfold Xz Tt;simp only[E9,Zbb];cases decide (a.1=b.1)<;>rfl
theorem Yqa {a b:Row}:X3 (a,b)=some (Pc a b):=by
 rw[X3];unfold Pc;simp only[E9,Zbb,Yp9,Aa,bEq];cases (a.1==b.1)<;>cases Tt a.2.1 b.2.1<;>cases Tt a.2.2.1 b.2.2.1<;>cases decide (a.2.2.2.1=b.2.2.2.1)<;>rfl
theorem Yqb {a b:Tab}(ha:smT 1048576 a) (hb:smT 1048576 b):Et (a,b)=some (Zhu a b):=by
 have h1:=ha.1;have h2:=ha.2.2;unfold Et Zhu;simp only;by_cases e1:a.1.length=b.1.length
 case neg=>rw[Iw (by simp only[Ak];omega),Ad];simp [e1]
 rw[show iNe (Ah a.1) (Ah b.1)=false by simp only[Ak,e1,Om],Ac];by_cases e2:a.2.1=b.2.1
 case neg=>rw[Iw e2,Ad];simp [e2]
 rw[e2,Om,Ac];by_cases e3:a.2.2.length=b.2.2.length
 case neg=>rw[Iw (by simp only[Ak];omega),Ad];simp [e3]
 rw[show iNe (Ah a.2.2) (Ah b.2.2)=false by simp only[Ak,e3,Om],Ac];rw[Yaz (step:=Zdr (a,b)) (fun i=>(i:Int)) a.1 b.1 Pc (.inr false) (.inl ()) e1 (fun i hi hi'=>by
  have e:X3 ((a.1[i].1,((a.1[i].2.1.1,a.1[i].2.1.2),((a.1[i].2.2.1.1,a.1[i].2.2.1.2),(a.1[i].2.2.2.1,a.1[i].2.2.2.2)))),(b.1[i].1,((b.1[i].2.1.1,b.1[i].2.1.2),((b.1[i].2.2.1.1,b.1[i].2.2.1.2),(b.1[i].2.2.2.1,b.1[i].2.2.2.2)))))=some (Pc a.1[i] b.1[i]):=Yqa;unfold Zdr;simp only;rw[A5 (by simp only[Ak];omega),Ad,Br hi,Aa,Br hi',Aa,e,Aa,Cz (by omega)];cases Pc a.1[i] b.1[i]<;>rfl) (by
  unfold Zdr;simp only;rw[A6 (by simp only[Ak];omega),Ac]) (0:Int) rfl]
 cases hq:Lz Pc a.1 b.1 with
 | false=>simp only[Kla,if_false];simp [e1,Ao]
 | true =>
  simp only[if_true,Ar];rw[Yaz (step:=Zds (a,b)) (fun i=>(i:Int)) a.2.2 b.2.2 Tu false true e3 (fun i hi hi'=>by
   unfold Zds;simp only;rw[A5 (by simp only[Ak];omega),Ad,Br hi,Aa,Br hi',Aa,Yxy,Cz (by omega)];cases Tu a.2.2[i] b.2.2[i]<;>rfl) (by
   unfold Zds;simp only;rw[A6 (by simp only[Ak];omega),Ac]) (0:Int) rfl]
  simp [e1,e3]
theorem Zlt {α:Type}{q:α->α->Bool}(h:∀a,q a a=true):∀l:List α,Lz q l l=true
 | []=>rfl
 | a::l=>by simp only[Lz,h a,Zlt h l,Kod]
theorem Yue (a:Row):Pc a a=true:=by simp [Pc,Tt]
theorem Yud (a:Bu):Tu a a=true:=by simp [Tu]
theorem Yug (t:Tab):Zhu t t=true:=by simp [Zhu,Zlt Yue,Zlt Yud]
end
end Go.Vs
