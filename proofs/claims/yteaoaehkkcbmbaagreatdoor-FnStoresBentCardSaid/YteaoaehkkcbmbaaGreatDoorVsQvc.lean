import Derived.Test.YteaoaehkkcbmbaaGreatDoorVsQvb
set_option linter.all false
namespace Go.Vs
noncomputable section
def QS(a b:BI):Bool:=decide (a.1=b.1)&&(a.2==b.2)
def N9(a b:A8):Bool:=(a.1==b.1)&&QS a.2.1 b.2.1&&QS a.2.2.1 b.2.2.1&&decide (a.2.2.2.1=b.2.2.2.1)&&(a.2.2.2.2==b.2.2.2.2)
def QT(a b:CF):Bool:=decide (a.1=b.1)&&decide (a.2.1=b.2.1)&&decide (a.2.2=b.2.2)
def cL(a b:B9):Bool:=decide (a.1.length=b.1.length)&&KR N9 a.1 b.1&&decide (a.2.1=b.2.1)&&decide (a.2.2.length=b.2.2.length)&&KR QT a.2.2 b.2.2
def Zqn(a b:CF):Xm [a.1,a.2.1,a.2.2] [b.1,b.2.1,b.2.2]=QT a b:=by
 unfold Xm QT;rw[J7];simp[and_assoc]
def kF(r:A8):Bo:=(1,r,[],0,0,0,0)
def jI(m:CF):Bo:=(4,([],(0,[]),(0,[]),0,false),[],0,m.1,m.2.1,m.2.2)
def lN(z:Int):Bo:=(3,([],(0,[]),(0,[]),0,false),[],z,0,0,0)
def Hs(t:B9):List Bo:=lN t.2.1::(t.1.map kF++t.2.2.map jI)
def jv(t:B9):(Hs t).length=1+t.1.length+t.2.2.length:=by simp[Hs];omega
def Wx{t:B9}(h:EU 1048576 t):(Hs t).length<=4194304/\∀r∈Hs t,FM 1048576 r:=by
 refine⟨by rw[jv];have:=h.1;have:=h.2.2;omega, ?_⟩;intro r b;simp only[Hs,AX,C7,CC]at b;rcases b with rfl|⟨q,a,rfl⟩|⟨q,a,rfl⟩
 .exact⟨⟨Cq _,Cq _,Cq _⟩,Cq _⟩
 .exact⟨h.2.1 q a,Cq _⟩
 exact⟨⟨Cq _,Cq _,Cq _⟩,Cq _⟩
def kS{t:B9}(h:EU 1048576 t):Uk t=some (Hs t):=by
 have c:=h.1;have d:=h.2.2;unfold Uk;rw[MS (x:=t.1) (f:=kF) (by
  intro l i b a;simp only[Aq,Ay]at a;simp (disch:=first|omega|(simp only[Av];omega)) only[eR,Bw,Ah,BK,Ad,WC (h.2.1 t.1[i] (EN b)),B8,AY,CS];rfl) (by
  intro l;simp (disch:=first|omega|(simp only[Av];omega)) only[eR,B1,Ag])]
 simp only[A4];rw[MS (x:=t.2.2) (f:=jI) (by
  intro l i b a;simp only[Cb,B3,Aq,Ay]at a;simp (disch:=first|omega|(simp only[Av];omega)) only[eT,Bw,Ah,BK,Ad,B8,AY,CS];rfl) (by
  intro l;simp (disch:=first|omega|(simp only[Av];omega)) only[eT,B1,Ag])]
 simp only[A4];rfl
def qn{t:B9}(h:EU 1048576 t):Rv t=some (Hs t):=by
 have c:=h.1;have d:=h.2.2;unfold Rv;rw[MS (x:=t.1) (f:=kF) (by
  intro l i b a;simp only[Aq,Ay]at a;simp (disch:=first|omega|(simp only[Av];omega)) only[eI,Bw,Ah,BK,Ad,iI (h.2.1 t.1[i] (EN b)),B8,AY,CS];rfl) (by
  intro l;simp (disch:=first|omega|(simp only[Av];omega)) only[eI,B1,Ag])]
 simp only[A4];rw[MS (x:=t.2.2) (f:=jI) (by
  intro l i b a;simp only[Cb,B3,Aq,Ay]at a;simp (disch:=first|omega|(simp only[Av];omega)) only[eJ,Bw,Ah,BK,Ad,B8,AY,CS];rfl) (by
  intro l;simp (disch:=first|omega|(simp only[Av];omega)) only[eJ,B1,Ag])]
 simp only[A4];rfl
def Zji{a b:BI}:TW (a,b)=some (QS a b):=by
 unfold TW QS;simp only[Eu,WD];cases decide (a.1=b.1)<;>rfl
def Zjj{a b:A8}:TX (a,b)=some (N9 a b):=by
 rw[TX];unfold N9;simp only[Eu,WD,Zji,Ad,MT];cases (a.1==b.1)<;>cases QS a.2.1 b.2.1<;>cases QS a.2.2.1 b.2.2.1<;>cases decide (a.2.2.2.1=b.2.2.2.1)<;>rfl
def r4{a b:B9}(j:EU 1048576 a)(m:EU 1048576 b):TY (a,b)=some (cL a b):=by
 have k:=j.1;have l:=j.2.2;unfold TY cL;simp only;by_cases d:a.1.length=b.1.length
 case neg=>rw[Hl (by simp only[Av];omega),Ah];simp[d]
 rw[show AI (Am a.1) (Am b.1)=false by simp only[Av,d,Jr],Ag];by_cases g:a.2.1=b.2.1
 case neg=>rw[Hl g,Ah];simp[g]
 rw[g,Jr,Ag];by_cases f:a.2.2.length=b.2.2.length
 case neg=>rw[Hl (by simp only[Av];omega),Ah];simp[f]
 rw[show AI (Am a.2.2) (Am b.2.2)=false by simp only[Av,f,Jr],Ag];rw[ui (step:=YG (a,b)) (λi=>(i:Int)) a.1 b.1 N9 (.inr false) (.inl ()) d (λi h c=>by
  have e:TX ((a.1[i].1,((a.1[i].2.1.1,a.1[i].2.1.2),((a.1[i].2.2.1.1,a.1[i].2.2.1.2),(a.1[i].2.2.2.1,a.1[i].2.2.2.2)))),(b.1[i].1,((b.1[i].2.1.1,b.1[i].2.1.2),((b.1[i].2.2.1.1,b.1[i].2.2.1.2),(b.1[i].2.2.2.1,b.1[i].2.2.2.2)))))=some (N9 a.1[i] b.1[i]):=Zjj;unfold YG;simp only;rw[Bw (by simp only[Av];omega),Ah,BK h,Ad,BK c,Ad,e,Ad,CX (by omega)];cases N9 a.1[i] b.1[i]<;>rfl) (by
  unfold YG;simp only;rw[B1 (by simp only[Av];omega),Ag]) (0:Int) rfl]
 cases n:KR N9 a.1 b.1 with
 |false=>simp only[C6,BC];simp[d,AC]
 |true=>
  simp only[BF,A4];rw[ui (step:=YH (a,b)) (λi=>(i:Int)) a.2.2 b.2.2 QT false true f (λi h c=>by
   unfold YH;simp only;rw[Bw (by simp only[Av];omega),Ah,BK h,Ad,BK c,Ad,Zqn,CX (by omega)];cases QT a.2.2[i] b.2.2[i]<;>rfl) (by
   unfold YH;simp only;rw[B1 (by simp only[Av];omega),Ag]) (0:Int) rfl]
  simp[d,f]
def ge{α:Type}{q:α->α->Bool}(h:∀a,q a a=true):∀l:List α,KR q l l=true
 |[]=>rfl
 |a::l=>by simp only[KR,h a,ge h l,RQ]
def Zm9(a:A8):N9 a a=true:=by simp[N9,QS]
def Zm8(a:CF):QT a a=true:=by simp[QT]
def uf(t:B9):cL t t=true:=by simp[cL,ge Zm9,ge Zm8]
end
end Go.Vs
