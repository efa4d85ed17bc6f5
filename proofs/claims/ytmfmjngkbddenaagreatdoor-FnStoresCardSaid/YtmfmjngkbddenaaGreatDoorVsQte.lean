import Derived.Test.YtmfmjngkbddenaaGreatDoorVsW5
import Derived.Test.YtmfmjngkbddenaaGreatDoorVsQtd
set_option linter.all false
namespace Go.Vs
noncomputable section
abbrev Mk:=Int×Int×Int
theorem Zyi {f:Int}(h:-1<=f/\f<=1000):-1<=opF f/\opF f<=1000:=by unfold opF;split<;>omega
theorem Ud {x:Dv}{n:Int}{b:List UInt8}(h:dOk x=true):dOk (x.1,wrC x.1 x.2.1 x.2.2.1 x.2.2.2 n b)=true:=by
 obtain⟨d1,d2,d3,d4,d5⟩:=Ms (show Cj x.1 x.2.1 x.2.2.1=true from h);unfold wrC;split
 ·exact h
 ·rename_i hc;split
  ·exact Zc d1 d2 (by simp) d4 d5
  ·refine Zc d1 ?_ (Zyi d3) d4 ?_
   ·simp only[Kt,List.length_singleton];have:¬40<=x.2.1.length:=fun h=>hc (.inr (.inr (.inr h)));omega
   ·intro w hw;rcases Kda.1 hw with hw|hw
    ·exact d5 w hw
    ·simp only[Kpa]at hw;subst hw;have h1:0<=n/\n<=(x.1.length:Int)-1:=Decidable.not_not.1 fun h=>hc (.inr (.inl h));have h2:¬120<b.length:=fun h=>hc (.inr (.inr (.inl h)));exact⟨h1.1,h1.2,by simp only;omega⟩
theorem Zo {x:Dv}(h:dOk x=true):dOk (flC x.1 x.2.1 x.2.2.1 x.2.2.2)=true:=by
 obtain⟨d1,d2,d3,d4,d5⟩:=Ms (show Cj x.1 x.2.1 x.2.2.1=true from h);unfold flC;split
 ·exact h
 ·split
  ·exact Zc d1 d2 (by simp) d4 d5
  ·refine Zc ?_ (by simp) (Zyi d3) ?_ ?_
   ·simpa using d1
   ·exact Zu9 d4 fun w hw=>(d5 w hw).2.2
   ·intro w hw;cases hw
theorem wr2 {x:Dv}{n:Int}{b:List UInt8}(h:dOk x=true) (hb:b.length<=1048576) :
  Jh (x,(n,b))=some (x.1,wrC x.1 x.2.1 x.2.2.1 x.2.2.2 n b)/\Mn (x,(n,b))=some (wrC x.1 x.2.1 x.2.2.1 x.2.2.2 n b):=by
 have hsm:=Zkz h;obtain⟨d1,d2,d3,d4,d5⟩:=Ms (show Cj x.1 x.2.1 x.2.2.1=true from h);constructor
 ·rw[Ypa hsm hb];unfold wrD;rw[Ydh (show Cj x.1 x.2.1 x.2.2.1=true from h)]
 ·exact Yty hsm d3 hb
theorem fl2 {x:Dv}(h:dOk x=true):Lm x=some (flC x.1 x.2.1 x.2.2.1 x.2.2.2)/\Lq x=some (flC x.1 x.2.1 x.2.2.1 x.2.2.2):=by
 have hsm:=Zkz h;obtain⟨d1,d2,d3,d4,d5⟩:=Ms (show Cj x.1 x.2.1 x.2.2.1=true from h);constructor
 ·rw[Yov hsm];unfold flD;rw[Zu7 (show Cj x.1 x.2.1 x.2.2.1=true from h)]
 ·exact Ytj hsm d3 (fun w hw=>⟨(d5 w hw).1,(d5 w hw).2.1⟩)
def Dt (g i:Int):Int:=Aj .i64 (Aj .i64 2 (D8 .i64 30 (Dy g 2))) i
def stp (g:Int) (rs:List Rec) (D:Dv) (i:Nat):Dv:=(D.1,wrC D.1 D.2.1 D.2.2.1 D.2.2.2 (Dt g i) (C7 g i (rs.getD i (Pk 0))))
def dAt (g:Int) (rs:List Rec) (D:Dv):Nat->Dv
 | 0=>D
 | i+1=>stp g rs (dAt g rs D i) i
theorem Ve {g:Int}{rs:List Rec}{D:Dv}(h:dOk D=true):∀i,dOk (dAt g rs D i)=true
 | 0=>h
 | i+1=>Ud (Ve h i)
theorem Ze1 {g:Int}{rs:List Rec}{D:Dv}:∀i,(dAt g rs D i).1=D.1
 | 0=>rfl
 | i+1=>Ze1 (D:=D) i
theorem Zg4 (g i:Int) (r:Rec):(C7 g i r).length<=1048576:=by
 unfold C7 Re;split
 ·have:=Zoz g i r;rw[Kt,Nq];omega
 ·simp
theorem Zvw (g n:Int):(Eo g n).length<=1048576:=by rw[Zvv];split<;>omega
def D3 (g:Int) (rs:List Rec) (D:Dv):Dv :=
 let d1:=dAt g rs D rs.length
 let d2:=flC d1.1 d1.2.1 d1.2.2.1 d1.2.2.2
 let d3:Dv:=(d2.1,wrC d2.1 d2.2.1 d2.2.2.1 d2.2.2.2 (Dy g 2) (Eo g rs.length))
 flC d3.1 d3.2.1 d3.2.2.1 d3.2.2.2
theorem Zf9 {g:Int}{rs:List Rec}{D:Dv}(h:dOk D=true):dOk (D3 g rs D)=true:=Zo (x:=(_,_)) (Ud (Zo (Ve h _)))
theorem Zvh {rs:List Rec}{i:Nat}(h:i<rs.length):rs.getD i (Pk 0)=rs[i]:=by simp [h]
theorem Ztb {g:Int}{rs:List Rec}{D:Dv}{i:Nat}(hi:i<rs.length):dAt g rs D (i+1)=((dAt g rs D i).1,wrC (dAt g rs D i).1 (dAt g rs D i).2.1 (dAt g rs D i).2.2.1 (dAt g rs D i).2.2.2 (Dt g i) (C7 g i rs[i])):=by
 show stp g rs (dAt g rs D i) i=_;unfold stp;rw[Zvh hi]
theorem Yar {D:Dv}{T:List Row×Int×List Mk}{gp:Int×Int}{g:Int}{rs:List Rec}(hD:dOk D=true) (hR:Ya T=some rs) (hl:rs.length<=4194304) (hr:∀r∈rs,smC 1048576 r) :
  P0 ((D,(T,gp)),g)=some ((D3 g rs D).1,((D3 g rs D).2.1,((D3 g rs D).2.2.1,((D3 g rs D).2.2.2,(T.2.1,if (D3 g rs D).2.2.2=true then gp else (g,(rs.length:Int))))))):=by
 rw[P0];simp only;rw[hR,Aa];rw[show Aw (Zdy ((D,(T,gp)),g) rs) (D.2.1,(D.2.2.1,(D.2.2.2,0)))=some (.inl (dAt g rs D rs.length).2) from I0 (fun i=>((dAt g rs D i).2.1,((dAt g rs D i).2.2.1,((dAt g rs D i).2.2.2,(i:Int))))) rs.length _ (fun i hi=>by
   have hk:=Ve (g:=g) (rs:=rs) hD i;have h1:=Ze1 (g:=g) (rs:=rs) (D:=D) i;rw[Zdy];simp only;rw[A5 (by rw[Ak];omega),Ad,show Uw (g,(i:Int))=some (Dt g i) from rfl,Aa,Br hi,Aa,Yan (hr _ (Kcb hi)),Aa];have e:∀S1,S1=(dAt g rs D i).1->Mn ((S1,(dAt g rs D i).2),(Dt g i,C7 g i rs[i]))=some (wrC (dAt g rs D i).1 (dAt g rs D i).2.1 (dAt g rs D i).2.2.1 (dAt g rs D i).2.2.2 (Dt g i) (C7 g i rs[i])):=by
    rintro _ rfl;exact (wr2 (x:=dAt g rs D i) (n:=Dt g i) (b:=C7 g i rs[i]) hk (Zg4 _ _ _)).2
   rw[show Mn ((D.1,((dAt g rs D i).2.1,((dAt g rs D i).2.2.1,(dAt g rs D i).2.2.2))),(Dt g i,C7 g i rs[i]))=some (wrC (dAt g rs D i).1 (dAt g rs D i).2.1 (dAt g rs D i).2.2.1 (dAt g rs D i).2.2.2 (Dt g i) (C7 g i rs[i])) from e D.1 h1.symm,Aa,Cz (by omega)];rw[Ztb hi]) (by
   rw[Zdy];simp only;rw[A6 (by rw[Ak];omega),Ac]) _ rfl,Ar]
 have hk:=Ve (g:=g) (rs:=rs) hD rs.length;have h1:=Ze1 (g:=g) (rs:=rs) (D:=D) rs.length;have f1:=(fl2 hk).2;have k2:=Zo hk;generalize hd2:flC (dAt g rs D rs.length).1 (dAt g rs D rs.length).2.1 (dAt g rs D rs.length).2.2.1 (dAt g rs D rs.length).2.2.2=d2 at f1 k2;have w3:=(wr2 (x:=d2) (n:=Dy g 2) (b:=Eo g rs.length) k2 (Zvw _ _)).2;have k3:=Ud (n:=Dy g 2) (b:=Eo g rs.length) k2;have f3:=(fl2 k3).2;have ef:∀S1,S1=(dAt g rs D rs.length).1->Lq (S1,(dAt g rs D rs.length).2)=some d2:=by
  rintro _ rfl;exact f1
 rw[ef D.1 h1.symm,Aa,Ak,Ytm,Aa,w3,Aa];rw[show Lq (d2.1,wrC d2.1 d2.2.1 d2.2.2.1 d2.2.2.2 (Dy g 2) (Eo g (rs.length:Int)))=_ from f3,Aa];have hlay:D3 g rs D=flC d2.1 (wrC d2.1 d2.2.1 d2.2.2.1 d2.2.2.2 (Dy g 2) (Eo g rs.length)).1 (wrC d2.1 d2.2.1 d2.2.2.1 d2.2.2.2 (Dy g 2) (Eo g rs.length)).2.1 (wrC d2.1 d2.2.1 d2.2.2.1 d2.2.2.2 (Dy g 2) (Eo g rs.length)).2.2:=by
  unfold D3;simp only[hd2]
 rw[<-hlay];cases hdn:(D3 g rs D).2.2.2 with
 | true=>simp only[A3,Au,Ad,Ac,hdn,if_true]
 | false=>simp only[A3,Au,Ad,Ac,hdn];rfl
end
end Go.Vs
