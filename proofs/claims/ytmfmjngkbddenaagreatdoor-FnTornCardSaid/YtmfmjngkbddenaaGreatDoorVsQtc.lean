import Derived.Test.YtmfmjngkbddenaaGreatDoorVsQtb
set_option linter.all false
namespace Go.Vs
noncomputable section
def T6 (a b:Bb):Bool:=decide (a.1=b.1)&&(a.2==b.2)
def Pf (a b:Row):Bool:=(a.1==b.1)&&T6 a.2.1 b.2.1&&T6 a.2.2.1 b.2.2.1&&decide (a.2.2.2.1=b.2.2.2.1)&&(a.2.2.2.2==b.2.2.2.2)
def T7 (a b:Bv):Bool:=decide (a.1=b.1)&&decide (a.2.1=b.2.1)&&decide (a.2.2=b.2.2)
def Zbn (a b:Tab):Bool:=decide (a.1.length=b.1.length)&&L0 Pf a.1 b.1&&decide (a.2.1=b.2.1)&&decide (a.2.2.length=b.2.2.length)&&L0 T7 a.2.2 b.2.2
theorem Yyf (a b:Bv):zEq [a.1,a.2.1,a.2.2] [b.1,b.2.1,b.2.2]=T7 a b:=by
 unfold zEq T7;rw[Kdc];simp [and_assoc]
def W3 (r:Row):Rec:=(1,r,[],0,0,0,0)
def L7 (m:Bv):Rec:=(4,([],(0,[]),(0,[]),0,false),[],0,m.1,m.2.1,m.2.2)
def Jw (z:Int):Rec:=(3,([],(0,[]),(0,[]),0,false),[],z,0,0,0)
def A8 (t:Tab):List Rec:=Jw t.2.1::(t.1.map W3++t.2.2.map L7)
theorem Tz (t:Tab):(A8 t).length=1+t.1.length+t.2.2.length:=by simp [A8];omega
theorem Zpi {t:Tab}(h:smT 1048576 t):(A8 t).length<=4194304/\∀r∈A8 t,smC 1048576 r:=by
 refine⟨by rw[Tz];have:=h.1;have:=h.2.2;omega, ?_⟩;intro r hr;simp only[A8,Kh,Kca,Ky]at hr;rcases hr with rfl|⟨q,hq,rfl⟩|⟨q,hq,rfl⟩
 ·exact⟨⟨Kda _,Kda _,Kda _⟩,Kda _⟩
 ·exact⟨h.2.1 q hq,Kda _⟩
 exact⟨⟨Kda _,Kda _,Kda _⟩,Kda _⟩
theorem Yay {t:Tab}(h:smT 1048576 t):Ym t=some (A8 t):=by
 have h1:=h.1;have h2:=h.2.2;unfold Ym;rw[Sd (x:=t.1) (f:=W3) (by
  intro l i hi hl;simp only[Kf,Ki]at hl;simp (disch:=first|omega|(simp only[Ak];omega)) only[Zjs,A3,Ad,Bp,Aa,Zbj (h.2.1 t.1[i] (Kcb hi)),Bj,Az,Cz];rfl) (by
  intro l;simp (disch:=first|omega|(simp only[Ak];omega)) only[Zjs,A6,Ac])]
 simp only[Ar];rw[Sd (x:=t.2.2) (f:=L7) (by
  intro l i hi hl;simp only[Kt,Ko,Kf,Ki]at hl;simp (disch:=first|omega|(simp only[Ak];omega)) only[Zjt,A3,Ad,Bp,Aa,Bj,Az,Cz];rfl) (by
  intro l;simp (disch:=first|omega|(simp only[Ak];omega)) only[Zjt,A6,Ac])]
 simp only[Ar];rfl
theorem Yo6 {t:Tab}(h:smT 1048576 t):Zcu t=some (A8 t):=by
 have h1:=h.1;have h2:=h.2.2;unfold Zcu;rw[Sd (x:=t.1) (f:=W3) (by
  intro l i hi hl;simp only[Kf,Ki]at hl;simp (disch:=first|omega|(simp only[Ak];omega)) only[Zjk,A3,Ad,Bp,Aa,Zmy (h.2.1 t.1[i] (Kcb hi)),Bj,Az,Cz];rfl) (by
  intro l;simp (disch:=first|omega|(simp only[Ak];omega)) only[Zjk,A6,Ac])]
 simp only[Ar];rw[Sd (x:=t.2.2) (f:=L7) (by
  intro l i hi hl;simp only[Kt,Ko,Kf,Ki]at hl;simp (disch:=first|omega|(simp only[Ak];omega)) only[Zjl,A3,Ad,Bp,Aa,Bj,Az,Cz];rfl) (by
  intro l;simp (disch:=first|omega|(simp only[Ak];omega)) only[Zjl,A6,Ac])]
 simp only[Ar];rfl
theorem Yqr {a b:Bb}:Yf (a,b)=some (T6 a b):=by
 unfold Yf T6;simp only[E8,Zbk];cases decide (a.1=b.1)<;>rfl
theorem Yqs {a b:Row}:Yg (a,b)=some (Pf a b):=by
 rw[Yg];unfold Pf;simp only[E8,Zbk,Yqr,Aa,bEq];cases (a.1==b.1)<;>cases T6 a.2.1 b.2.1<;>cases T6 a.2.2.1 b.2.2.1<;>cases decide (a.2.2.2.1=b.2.2.2.1)<;>rfl
theorem Zgj {a b:Tab}(ha:smT 1048576 a) (hb:smT 1048576 b):Ux (a,b)=some (Zbn a b):=by
 have h1:=ha.1;have h2:=ha.2.2;unfold Ux Zbn;simp only;by_cases e1:a.1.length=b.1.length
 case neg=>rw[Iz (by simp only[Ak];omega),Ad];simp [e1]
 rw[show iNe (Ah a.1) (Ah b.1)=false by simp only[Ak,e1,Oq],Ac];by_cases e2:a.2.1=b.2.1
 case neg=>rw[Iz e2,Ad];simp [e2]
 rw[e2,Oq,Ac];by_cases e3:a.2.2.length=b.2.2.length
 case neg=>rw[Iz (by simp only[Ak];omega),Ad];simp [e3]
 rw[show iNe (Ah a.2.2) (Ah b.2.2)=false by simp only[Ak,e3,Oq],Ac];rw[Ybd (step:=Zd0 (a,b)) (fun i=>(i:Int)) a.1 b.1 Pf (.inr false) (.inl ()) e1 (fun i hi hi'=>by
  have e:Yg ((a.1[i].1,((a.1[i].2.1.1,a.1[i].2.1.2),((a.1[i].2.2.1.1,a.1[i].2.2.1.2),(a.1[i].2.2.2.1,a.1[i].2.2.2.2)))),(b.1[i].1,((b.1[i].2.1.1,b.1[i].2.1.2),((b.1[i].2.2.1.1,b.1[i].2.2.1.2),(b.1[i].2.2.2.1,b.1[i].2.2.2.2)))))=some (Pf a.1[i] b.1[i]):=Yqs;unfold Zd0;simp only;rw[A3 (by simp only[Ak];omega),Ad,Bp hi,Aa,Bp hi',Aa,e,Aa,C4 (by omega)];cases Pf a.1[i] b.1[i]<;>rfl) (by
  unfold Zd0;simp only;rw[A6 (by simp only[Ak];omega),Ac]) (0:Int) rfl]
 cases hq:L0 Pf a.1 b.1 with
 | false=>simp only[Kka,if_false];simp [e1,Ao]
 | true =>
  simp only[if_true,Ar];rw[Ybd (step:=Zd1 (a,b)) (fun i=>(i:Int)) a.2.2 b.2.2 T7 false true e3 (fun i hi hi'=>by
   unfold Zd1;simp only;rw[A3 (by simp only[Ak];omega),Ad,Bp hi,Aa,Bp hi',Aa,Yyf,C4 (by omega)];cases T7 a.2.2[i] b.2.2[i]<;>rfl) (by
   unfold Zd1;simp only;rw[A6 (by simp only[Ak];omega),Ac]) (0:Int) rfl]
  simp [e1,e3]
theorem Zl6 {α:Type}{q:α->α->Bool}(h:∀a,q a a=true):∀l:List α,L0 q l l=true
 | []=>rfl
 | a::l=>by simp only[L0,h a,Zl6 h l,Kqd]
theorem Yuv (a:Row):Pf a a=true:=by simp [Pf,T6]
theorem Yuu (a:Bv):T7 a a=true:=by simp [T7]
theorem Zp3 (t:Tab):Zbn t t=true:=by simp [Zbn,Zl6 Yuv,Zl6 Yuu]
end
end Go.Vs
