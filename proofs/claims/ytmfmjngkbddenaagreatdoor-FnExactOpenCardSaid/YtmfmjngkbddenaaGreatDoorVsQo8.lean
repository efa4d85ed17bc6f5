import Derived.Test.YtmfmjngkbddenaaGreatDoorVsW5
import Derived.Test.YtmfmjngkbddenaaGreatDoorVsQo7
set_option linter.all false
namespace Go.Vs
noncomputable section
abbrev StT:=Dv×(List Row×Int×List Mk)×Int×Int
def Yde (t:List Row×Int×List Mk):Prop:=t.1.length<=1048576/\(∀r∈t.1,smR 1048576 r)/\t.2.2.length<=1048576
def Ydd (s:StT):Prop:=SmD s.1/\Yde s.2.1
def HSc (m:Int) (e:List UInt8) (m':Int):Prop:=0<=m'/\Nb (e,m)=some m'
theorem Zwl {x:List (List UInt8)}{m:Int}(h0:0<=m) (hm:m<=1125899906842624) (hl:x.length<=1048577) (hx:∀b∈x,b.length<=1048576):∃m' x',Zb8 (x,m)=some (m',x')/\Zb2 (x',m)=some m'/\x'.length=x.length/\m<=m'/\m'<=m+1125899906842624:=by
 obtain⟨l',m',h1,h2,h3,h4,h5⟩:=Zv (H:=HSc) (K:=1048576) (x:=x) (m0:=m) (step:=X7) (by omega) (by omega) (by
  intro l k i hi hll hxi hk1 hk2;have hbl:=hx x[i] (Kcb hi);obtain⟨m1,x1,b1,b2,b3,b4,b5⟩:=Zf1 (x:=x[i]) (m:=k) (by omega) (by omega) hbl;have ho:=Eq.refl (X7 (l,(k,(i:Int))))
  conv at ho=>rhs;simp (disch:=first|omega|(simp only[Zfu,Ai];omega)) only[X7,A5,Ad,Ha,N6,hxi,Aa,Es,C3,H2,Av,b1,b3]
  exact⟨_,_,ho,⟨by omega,b2⟩,by omega,by omega⟩) (by
  intro l k hll;simp only[X7];rw[A3 (by simp only[Ai];omega),Ac])
 refine⟨m',l', ?_, ?_,h3,h4,by omega⟩
 ·unfold Zb8;simp only[h1,Ax,h3,H2,Av]
 ·unfold Zb2;simp only;rw[Y8 (H:=HSc) (m1:=m') (by omega) h2 (by
   rintro k k' i hi ⟨q1,q2⟩;simp only[Zi2];rw[A5 (by simp only[Ai];omega),Ad,Bp hi,Aa,q2,Aa,A3 q1,Ac,Cw (by omega)];rfl) (by
   intro k;simp only[Zi2];rw[A3 (by simp only[Ai];omega),Ac])]
  rfl
def HWr (m:Int) (e:Wr) (m':Int):Prop:=∀(x:List Wr×Int) (i:Nat),x.1.length<=4194304->i<x.1.length->x.1[i]? = some e->Zdb x (m,(i:Int))=some (.inl (m',(i:Int)+1))
theorem Zwm {x:List Wr}{m:Int}(h0:0<=m) (hm:m<=2251799813685248) (hl:x.length<=1048577) (hx:∀w∈x,w.2.length<=1048576):∃m' x',Zcd (x,m)=some (m',x')/\Zb7 (x',m)=some m'/\x'.length=x.length/\m<=m'/\m'<=m+2251799813685248:=by
 obtain⟨l',m',h1,h2,h3,h4,h5⟩:=Zv (H:=HWr) (K:=2097152) (x:=x) (m0:=m) (step:=Ya) (by omega) (by omega) (by
  intro l k i hi hll hxi hk1 hk2;have hbl:=hx x[i] (Kcb hi);have hil:i<l.length:=by omega
  obtain⟨m1,x1,b1,b2,b3,b4,b5⟩:=Zf1 (x:=x[i].2) (m:=k+1) (by omega) (by omega) hbl;have ho:=Eq.refl (Ya (l,(k,(i:Int))))
  conv at ho=>rhs;simp (disch:=first|omega|(simp only[Zfu,Ai];omega)) only[Ya,A5,Ad,Ha,N6,hxi,Aa,Es,C3,Zmw,Zmx,H2,Av,b1,b3]
  refine⟨_,_,ho, ?_,by omega,by omega⟩;intro y j hyl hj hy;simp (disch:=first|omega|(simp only[Ai];omega)) only[Zdb,A5,Ad,Ha,hy,Aa,C3,Eo,Ac,b2,A3]) (by
  intro l k hll;simp only[Ya];rw[A3 (by simp only[Ai];omega),Ac])
 refine⟨m',l', ?_, ?_,h3,h4,by omega⟩
 ·unfold Zcd;simp only[h1,Ax,h3,H2,Av]
 ·unfold Zb7;simp only;rw[Y8 (H:=HWr) (m1:=m') (by omega) h2 (fun k k' i hi h=>h _ i (by simp only;omega) hi (Ku hi)) (by
   intro k;simp only[Zdb];rw[A3 (by simp only[Ai];omega),Ac])]
  rfl
theorem Yqf {s:StT}(h:Ydd s):∃(m':Int) (x1:List (List UInt8)) (x2:List Wr) (x3:List Row) (x4:List Mk),Zcb (s,1)=some (m',(x1,(x2,(x3,x4))))/\(0<=m'/\m'<=9007199254740992)/\x1.length=s.1.1.length/\x2.length=s.1.2.1.length/\x3.length=s.2.1.1.length/\x4.length=s.2.1.2.2.length /\
  Xk (((x1,(x2,s.1.2.2)),((x3,(s.2.1.2.1,x4)),s.2.2)),1)=some m':=by
 obtain⟨⟨d1,d2,d3,d4⟩,t1,t2,t3⟩:=h;obtain⟨m1,x1,a1,a2,a3,a4,a5⟩:=Zwl (x:=s.1.1) (m:=1) (by omega) (by omega) (by omega) d2;obtain⟨m2,x2,b1,b2,b3,b4,b5⟩:=Zwm (x:=s.1.2.1) (m:=m1) (by omega) (by omega) (by omega) d4;obtain⟨m3,x3,c1,c2,c3,c4,c5⟩:=Yqe (x:=s.2.1.1) (m:=m2) (by omega) (by omega) (by omega) t2;obtain⟨m4,x4,e1,e2,e3,e4⟩:=Yqd (x:=s.2.1.2.2) (m:=m3) (by omega) (by omega) (by omega);refine⟨m4,x1,x2,x3,x4, ?_,by omega,a3,b3,c3,e3, ?_⟩
 ·have ed:Rf (s.1,1)=some (m2,(x1,x2)):=by
   rw[Rf];simp only[a1,Aa,a3,H2,Av,b1,b3]
  have et:Zcc (s.2.1,m2)=some (m4,(x3,x4)):=by
   rw[Zcc];simp only[c1,Aa,c3,H2,Av,e1,e3]
  rw[Zcb];simp only[ed,et,Aa,a3,b3,c3,e3,H2,Av]
 ·have ed:Zb3 ((x1,(x2,s.1.2.2)),1)=some m2:=by
   rw[Zb3];simp only[a2,Aa,b2];rw[A3 (by omega),Ac,A3 (by omega),Ac]
  have et:Zb6 ((x3,(s.2.1.2.1,x4)),m2)=some m4:=by
   rw[Zb6];simp only[c2,Aa,e2];rw[A3 (by omega),Ac,A3 (by omega),Ac]
  rw[Xk];simp only[ed,et,Aa];rw[A3 (by omega),Ac,A3 (by omega),Ac]
theorem Zw9 {f:Int}(h:-1<=f/\f<=1000):-1<=opF f/\opF f<=1000:=by unfold opF;split<;>omega
theorem Zh8 {x:Dv}{n:Int}{b:List UInt8}(h:dOk x=true):dOk (x.1,wrC x.1 x.2.1 x.2.2.1 x.2.2.2 n b)=true:=by
 obtain⟨d1,d2,d3,d4,d5⟩:=Ny (show C2 x.1 x.2.1 x.2.2.1=true from h);unfold wrC;split
 ·exact h
 ·rename_i hc;split
  ·exact Zel d1 d2 (by simp) d4 d5
  ·refine Zel d1 ?_ (Zw9 d3) d4 ?_
   ·simp only[Kz,List.length_singleton];have:¬40<=x.2.1.length:=fun h=>hc (.inr (.inr (.inr h)));omega
   ·intro w hw;rcases Kia.1 hw with hw|hw
    ·exact d5 w hw
    ·simp only[Kta]at hw;subst hw;have h1:0<=n/\n<=(x.1.length:Int)-1:=Decidable.not_not.1 fun h=>hc (.inr (.inl h));have h2:¬120<b.length:=fun h=>hc (.inr (.inr (.inl h)));exact⟨h1.1,h1.2,by simp only;omega⟩
theorem Ze8 {x:Dv}(h:dOk x=true):dOk (flC x.1 x.2.1 x.2.2.1 x.2.2.2)=true:=by
 obtain⟨d1,d2,d3,d4,d5⟩:=Ny (show C2 x.1 x.2.1 x.2.2.1=true from h);unfold flC;split
 ·exact h
 ·split
  ·exact Zel d1 d2 (by simp) d4 d5
  ·refine Zel ?_ (by simp) (Zw9 d3) ?_ ?_
   ·simpa using d1
   ·exact Zuk d4 fun w hw=>(d5 w hw).2.2
   ·intro w hw;cases hw
theorem wr2 {x:Dv}{n:Int}{b:List UInt8}(h:dOk x=true) (hb:b.length<=1048576) :
  K4 (x,(n,b))=some (x.1,wrC x.1 x.2.1 x.2.2.1 x.2.2.2 n b)/\Ph (x,(n,b))=some (wrC x.1 x.2.1 x.2.2.1 x.2.2.2 n b):=by
 have hsm:=Zkj h;obtain⟨d1,d2,d3,d4,d5⟩:=Ny (show C2 x.1 x.2.1 x.2.2.1=true from h);constructor
 ·rw[Yoy hsm hb];unfold wrD;rw[Ycn (show C2 x.1 x.2.1 x.2.2.1=true from h)]
 ·exact Ysw hsm d3 hb
theorem fl2 {x:Dv}(h:dOk x=true):M6 x=some (flC x.1 x.2.1 x.2.2.1 x.2.2.2)/\Nh x=some (flC x.1 x.2.1 x.2.2.1 x.2.2.2):=by
 have hsm:=Zkj h;obtain⟨d1,d2,d3,d4,d5⟩:=Ny (show C2 x.1 x.2.1 x.2.2.1=true from h);constructor
 ·rw[Yog hsm];unfold flD;rw[Zui (show C2 x.1 x.2.1 x.2.2.1=true from h)]
 ·exact Ysg hsm d3 (fun w hw=>⟨(d5 w hw).1,(d5 w hw).2.1⟩)
def F1 (g i:Int):Int:=Aj .i64 (Aj .i64 2 (Md .i64 30 (Dy g 2))) i
def stp (g:Int) (rs:List Rec) (D:Dv) (i:Nat):Dv:=(D.1,wrC D.1 D.2.1 D.2.2.1 D.2.2.2 (F1 g i) (Fy g i (rs.getD i (Zpy 0))))
def dAt (g:Int) (rs:List Rec) (D:Dv):Nat->Dv
 | 0=>D
 | i+1=>stp g rs (dAt g rs D i) i
theorem U0 {g:Int}{rs:List Rec}{D:Dv}(h:dOk D=true):∀i,dOk (dAt g rs D i)=true
 | 0=>h
 | i+1=>Zh8 (U0 h i)
theorem Zki {g:Int}{rs:List Rec}{D:Dv}:∀i,(dAt g rs D i).1=D.1
 | 0=>rfl
 | i+1=>Zki (D:=D) i
theorem Zxu (g i:Int) (r:Rec):(Fy g i r).length<=1048576:=by
 unfold Fy Zav;split
 ·have:=Zn9 g i r;rw[Kz,Tv];omega
 ·simp
theorem Zu2 (g n:Int):(Ft g n).length<=1048576:=by rw[Yn2];split<;>omega
def Hz (g:Int) (rs:List Rec) (D:Dv):Dv :=
 let d1:=dAt g rs D rs.length
 let d2:=flC d1.1 d1.2.1 d1.2.2.1 d1.2.2.2
 let d3:Dv:=(d2.1,wrC d2.1 d2.2.1 d2.2.2.1 d2.2.2.2 (Dy g 2) (Ft g rs.length))
 flC d3.1 d3.2.1 d3.2.2.1 d3.2.2.2
theorem Zv6 {g:Int}{rs:List Rec}{D:Dv}(h:dOk D=true):dOk (Hz g rs D)=true:=Ze8 (x:=(_,_)) (Zh8 (Ze8 (U0 h _)))
theorem Yi0 {rs:List Rec}{i:Nat}(h:i<rs.length):rs.getD i (Zpy 0)=rs[i]:=by simp [h]
theorem Zsm {g:Int}{rs:List Rec}{D:Dv}{i:Nat}(hi:i<rs.length):dAt g rs D (i+1)=((dAt g rs D i).1,wrC (dAt g rs D i).1 (dAt g rs D i).2.1 (dAt g rs D i).2.2.1 (dAt g rs D i).2.2.2 (F1 g i) (Fy g i rs[i])):=by
 show stp g rs (dAt g rs D i) i=_;unfold stp;rw[Yi0 hi]
theorem Ys5 {D:Dv}{T:List Row×Int×List Mk}{gp:Int×Int}{g:Int}{rs:List Rec}(hD:dOk D=true) (hR:Xq T=some rs) (hl:rs.length<=4194304) (hr:∀r∈rs,smC 1048576 r) :
  Xx ((D,(T,gp)),g)=some ((Hz g rs D).1,((Hz g rs D).2.1,((Hz g rs D).2.2.1,((Hz g rs D).2.2.2,(T.2.1,if (Hz g rs D).2.2.2=true then gp else (g,(rs.length:Int))))))):=by
 rw[Xx];simp only;rw[hR,Aa];rw[show Ar (Zdm ((D,(T,gp)),g) rs) (D.2.1,(D.2.2.1,(D.2.2.2,0)))=some (.inl (dAt g rs D rs.length).2) from Gn (fun i=>((dAt g rs D i).2.1,((dAt g rs D i).2.2.1,((dAt g rs D i).2.2.2,(i:Int))))) rs.length _ (fun i hi=>by
   have hk:=U0 (g:=g) (rs:=rs) hD i;have h1:=Zki (g:=g) (rs:=rs) (D:=D) i;rw[Zdm];simp only;rw[A5 (by rw[Ai];omega),Ad,show Xw (g,(i:Int))=some (F1 g i) from rfl,Aa,Bp hi,Aa,Ysp (hr _ (Kcb hi)),Aa];have e:∀S1,S1=(dAt g rs D i).1->Ph ((S1,(dAt g rs D i).2),(F1 g i,Fy g i rs[i]))=some (wrC (dAt g rs D i).1 (dAt g rs D i).2.1 (dAt g rs D i).2.2.1 (dAt g rs D i).2.2.2 (F1 g i) (Fy g i rs[i])):=by
    rintro _ rfl;exact (wr2 (x:=dAt g rs D i) (n:=F1 g i) (b:=Fy g i rs[i]) hk (Zxu _ _ _)).2
   rw[show Ph ((D.1,((dAt g rs D i).2.1,((dAt g rs D i).2.2.1,(dAt g rs D i).2.2.2))),(F1 g i,Fy g i rs[i]))=some (wrC (dAt g rs D i).1 (dAt g rs D i).2.1 (dAt g rs D i).2.2.1 (dAt g rs D i).2.2.2 (F1 g i) (Fy g i rs[i])) from e D.1 h1.symm,Aa,Cw (by omega)];rw[Zsm hi]) (by
   rw[Zdm];simp only;rw[A3 (by rw[Ai];omega),Ac]) _ rfl,Ax]
 have hk:=U0 (g:=g) (rs:=rs) hD rs.length;have h1:=Zki (g:=g) (rs:=rs) (D:=D) rs.length;have f1:=(fl2 hk).2;have k2:=Ze8 hk;generalize hd2:flC (dAt g rs D rs.length).1 (dAt g rs D rs.length).2.1 (dAt g rs D rs.length).2.2.1 (dAt g rs D rs.length).2.2.2=d2 at f1 k2;have w3:=(wr2 (x:=d2) (n:=Dy g 2) (b:=Ft g rs.length) k2 (Zu2 _ _)).2;have k3:=Zh8 (n:=Dy g 2) (b:=Ft g rs.length) k2;have f3:=(fl2 k3).2;have ef:∀S1,S1=(dAt g rs D rs.length).1->Nh (S1,(dAt g rs D rs.length).2)=some d2:=by
  rintro _ rfl;exact f1
 rw[ef D.1 h1.symm,Aa,Ai,Ysm,Aa,w3,Aa];rw[show Nh (d2.1,wrC d2.1 d2.2.1 d2.2.2.1 d2.2.2.2 (Dy g 2) (Ft g (rs.length:Int)))=_ from f3,Aa];have hlay:Hz g rs D=flC d2.1 (wrC d2.1 d2.2.1 d2.2.2.1 d2.2.2.2 (Dy g 2) (Ft g rs.length)).1 (wrC d2.1 d2.2.1 d2.2.2.1 d2.2.2.2 (Dy g 2) (Ft g rs.length)).2.1 (wrC d2.1 d2.2.1 d2.2.2.1 d2.2.2.2 (Dy g 2) (Ft g rs.length)).2.2:=by
  unfold Hz;simp only[hd2]
 rw[<-hlay];cases hdn:(Hz g rs D).2.2.2 with
 | true=>simp only[Bd,Az,Ad,Ac,hdn,if_true]
 | false=>simp only[Bd,Az,Ad,Ac,hdn];rfl
end
end Go.Vs
