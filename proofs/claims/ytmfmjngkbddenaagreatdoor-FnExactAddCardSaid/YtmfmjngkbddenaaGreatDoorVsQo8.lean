import Derived.Test.YtmfmjngkbddenaaGreatDoorVsW5
import Derived.Test.YtmfmjngkbddenaaGreatDoorVsQo7
set_option linter.all false
namespace Go.Vs
noncomputable section
abbrev StT:=Dv×(List Row×Int×List Mk)×Int×Int
def Zz1 (t:List Row×Int×List Mk):Prop:=t.1.length<=1048576/\(∀r∈t.1,smR 1048576 r)/\t.2.2.length<=1048576
def Zz0 (s:StT):Prop:=SmD s.1/\Zz1 s.2.1
def HSc (m:Int) (e:List UInt8) (m':Int):Prop:=0<=m'/\L8 (e,m)=some m'
theorem Ymw {x:List (List UInt8)}{m:Int}(h0:0<=m) (hm:m<=1125899906842624) (hl:x.length<=1048577) (hx:∀b∈x,b.length<=1048576):∃m' x',Zab (x,m)=some (m',x')/\Z5 (x',m)=some m'/\x'.length=x.length/\m<=m'/\m'<=m+1125899906842624:=by
 obtain⟨l',m',h1,h2,h3,h4,h5⟩:=X3 (H:=HSc) (K:=1048576) (x:=x) (m0:=m) (step:=Wh) (by omega) (by omega) (by
  intro l k i hi hll hxi hk1 hk2;have hbl:=hx x[i] (Khb hi);obtain⟨m1,x1,b1,b2,b3,b4,b5⟩:=Xz (x:=x[i]) (m:=k) (by omega) (by omega) hbl;have ho:=Eq.refl (Wh (l,(k,(i:Int))))
  conv at ho=>rhs;simp (disch:=first|omega|(simp only[Zdv,Aj];omega)) only[Wh,A4,Ag,Gr,Mz,hxi,Ab,D9,C8,Fs,Av,b1,b3]
  exact⟨_,_,ho,⟨by omega,b2⟩,by omega,by omega⟩) (by
  intro l k hll;simp only[Wh];rw[A0 (by simp only[Aj];omega),Ac])
 refine⟨m',l', ?_, ?_,h3,h4,by omega⟩
 ·unfold Zab;simp only[h1,A3,h3,Fs,Av]
 ·unfold Z5;simp only;rw[Xf (H:=HSc) (m1:=m') (by omega) h2 (by
   rintro k k' i hi ⟨q1,q2⟩;simp only[Zgn];rw[A4 (by simp only[Aj];omega),Ag,Bt hi,Ab,q2,Ab,A0 q1,Ac,Cs (by omega)];rfl) (by
   intro k;simp only[Zgn];rw[A0 (by simp only[Aj];omega),Ac])]
  rfl
def HWr (m:Int) (e:Wr) (m':Int):Prop:=∀(x:List Wr×Int) (i:Nat),x.1.length<=4194304->i<x.1.length->x.1[i]? = some e->Zbj x (m,(i:Int))=some (.inl (m',(i:Int)+1))
theorem Ymy {x:List Wr}{m:Int}(h0:0<=m) (hm:m<=2251799813685248) (hl:x.length<=1048577) (hx:∀w∈x,w.2.length<=1048576):∃m' x',Zah (x,m)=some (m',x')/\Zaa (x',m)=some m'/\x'.length=x.length/\m<=m'/\m'<=m+2251799813685248:=by
 obtain⟨l',m',h1,h2,h3,h4,h5⟩:=X3 (H:=HWr) (K:=2097152) (x:=x) (m0:=m) (step:=Wk) (by omega) (by omega) (by
  intro l k i hi hll hxi hk1 hk2;have hbl:=hx x[i] (Khb hi);have hil:i<l.length:=by omega
  obtain⟨m1,x1,b1,b2,b3,b4,b5⟩:=Xz (x:=x[i].2) (m:=k+1) (by omega) (by omega) hbl;have ho:=Eq.refl (Wk (l,(k,(i:Int))))
  conv at ho=>rhs;simp (disch:=first|omega|(simp only[Zdv,Aj];omega)) only[Wk,A4,Ag,Gr,Mz,hxi,Ab,D9,C8,Zj8,Zj9,Fs,Av,b1,b3]
  refine⟨_,_,ho, ?_,by omega,by omega⟩;intro y j hyl hj hy;simp (disch:=first|omega|(simp only[Aj];omega)) only[Zbj,A4,Ag,Gr,hy,Ab,C8,Fo,Ac,b2,A0]) (by
  intro l k hll;simp only[Wk];rw[A0 (by simp only[Aj];omega),Ac])
 refine⟨m',l', ?_, ?_,h3,h4,by omega⟩
 ·unfold Zah;simp only[h1,A3,h3,Fs,Av]
 ·unfold Zaa;simp only;rw[Xf (H:=HWr) (m1:=m') (by omega) h2 (fun k k' i hi h=>h _ i (by simp only;omega) hi (Kq hi)) (by
   intro k;simp only[Zbj];rw[A0 (by simp only[Aj];omega),Ac])]
  rfl
theorem Zt3 {s:StT}(h:Zz0 s):∃(m':Int) (x1:List (List UInt8)) (x2:List Wr) (x3:List Row) (x4:List Mk),Vy (s,1)=some (m',(x1,(x2,(x3,x4))))/\(0<=m'/\m'<=9007199254740992)/\x1.length=s.1.1.length/\x2.length=s.1.2.1.length/\x3.length=s.2.1.1.length/\x4.length=s.2.1.2.2.length /\
  Vv (((x1,(x2,s.1.2.2)),((x3,(s.2.1.2.1,x4)),s.2.2)),1)=some m':=by
 obtain⟨⟨d1,d2,d3,d4⟩,t1,t2,t3⟩:=h;obtain⟨m1,x1,a1,a2,a3,a4,a5⟩:=Ymw (x:=s.1.1) (m:=1) (by omega) (by omega) (by omega) d2;obtain⟨m2,x2,b1,b2,b3,b4,b5⟩:=Ymy (x:=s.1.2.1) (m:=m1) (by omega) (by omega) (by omega) d4;obtain⟨m3,x3,c1,c2,c3,c4,c5⟩:=Ymv (x:=s.2.1.1) (m:=m2) (by omega) (by omega) (by omega) t2;obtain⟨m4,x4,e1,e2,e3,e4⟩:=Ymt (x:=s.2.1.2.2) (m:=m3) (by omega) (by omega) (by omega);refine⟨m4,x1,x2,x3,x4, ?_,by omega,a3,b3,c3,e3, ?_⟩
 ·have ed:Zac (s.1,1)=some (m2,(x1,x2)):=by
   rw[Zac];simp only[a1,Ab,a3,Fs,Av,b1,b3]
  have et:Zag (s.2.1,m2)=some (m4,(x3,x4)):=by
   rw[Zag];simp only[c1,Ab,c3,Fs,Av,e1,e3]
  rw[Vy];simp only[ed,et,Ab,a3,b3,c3,e3,Fs,Av]
 ·have ed:Z6 ((x1,(x2,s.1.2.2)),1)=some m2:=by
   rw[Z6];simp only[a2,Ab,b2];rw[A0 (by omega),Ac,A0 (by omega),Ac]
  have et:Z9 ((x3,(s.2.1.2.1,x4)),m2)=some m4:=by
   rw[Z9];simp only[c2,Ab,e2];rw[A0 (by omega),Ac,A0 (by omega),Ac]
  rw[Vv];simp only[ed,et,Ab];rw[A0 (by omega),Ac,A0 (by omega),Ac]
theorem Zuo {f:Int}(h:-1<=f/\f<=1000):-1<=opF f/\opF f<=1000:=by unfold opF;split<;>omega
theorem Sa {x:Dv}{n:Int}{b:List UInt8}(h:dOk x=true):dOk (x.1,wrC x.1 x.2.1 x.2.2.1 x.2.2.2 n b)=true:=by
 obtain⟨d1,d2,d3,d4,d5⟩:=Mu (show C6 x.1 x.2.1 x.2.2.1=true from h);unfold wrC;split
 ·exact h
 ·rename_i hc;split
  ·exact Zcs d1 d2 (by simp) d4 d5
  ·refine Zcs d1 ?_ (Zuo d3) d4 ?_
   ·simp only[Ky,List.length_singleton];have:¬40<=x.2.1.length:=fun h=>hc (.inr (.inr (.inr h)));omega
   ·intro w hw;rcases Kda.1 hw with hw|hw
    ·exact d5 w hw
    ·simp only[Kna]at hw;subst hw;have h1:0<=n/\n<=(x.1.length:Int)-1:=Decidable.not_not.1 fun h=>hc (.inr (.inl h));have h2:¬120<b.length:=fun h=>hc (.inr (.inr (.inl h)));exact⟨h1.1,h1.2,by simp only;omega⟩
theorem Xb {x:Dv}(h:dOk x=true):dOk (flC x.1 x.2.1 x.2.2.1 x.2.2.2)=true:=by
 obtain⟨d1,d2,d3,d4,d5⟩:=Mu (show C6 x.1 x.2.1 x.2.2.1=true from h);unfold flC;split
 ·exact h
 ·split
  ·exact Zcs d1 d2 (by simp) d4 d5
  ·refine Zcs ?_ (by simp) (Zuo d3) ?_ ?_
   ·simpa using d1
   ·exact Zr4 d4 fun w hw=>(d5 w hw).2.2
   ·intro w hw;cases hw
theorem wr2 {x:Dv}{n:Int}{b:List UInt8}(h:dOk x=true) (hb:b.length<=1048576) :
  H7 (x,(n,b))=some (x.1,wrC x.1 x.2.1 x.2.2.1 x.2.2.2 n b)/\K3 (x,(n,b))=some (wrC x.1 x.2.1 x.2.2.1 x.2.2.2 n b):=by
 have hsm:=Zct h;obtain⟨d1,d2,d3,d4,d5⟩:=Mu (show C6 x.1 x.2.1 x.2.2.1=true from h);constructor
 ·rw[Ylh hsm hb];unfold wrD;rw[Zy7 (show C6 x.1 x.2.1 x.2.2.1=true from h)]
 ·exact Yo0 hsm d3 hb
theorem fl2 {x:Dv}(h:dOk x=true):Je x=some (flC x.1 x.2.1 x.2.2.1 x.2.2.2)/\Jg x=some (flC x.1 x.2.1 x.2.2.1 x.2.2.2):=by
 have hsm:=Zct h;obtain⟨d1,d2,d3,d4,d5⟩:=Mu (show C6 x.1 x.2.1 x.2.2.1=true from h);constructor
 ·rw[Yk4 hsm];unfold flD;rw[Zr2 (show C6 x.1 x.2.1 x.2.2.1=true from h)]
 ·exact Yop hsm d3 (fun w hw=>⟨(d5 w hw).1,(d5 w hw).2.1⟩)
def Ew (g i:Int):Int:=Ai .i64 (Ai .i64 2 (Ld .i64 30 (D6 g 2))) i
def stp (g:Int) (rs:List Rec) (D:Dv) (i:Nat):Dv:=(D.1,wrC D.1 D.2.1 D.2.2.1 D.2.2.2 (Ew g i) (Ek g i (rs.getD i (Znd 0))))
def dAt (g:Int) (rs:List Rec) (D:Dv):Nat->Dv
 | 0=>D
 | i+1=>stp g rs (dAt g rs D i) i
theorem Tg {g:Int}{rs:List Rec}{D:Dv}(h:dOk D=true):∀i,dOk (dAt g rs D i)=true
 | 0=>h
 | i+1=>Sa (Tg h i)
theorem Zh2 {g:Int}{rs:List Rec}{D:Dv}:∀i,(dAt g rs D i).1=D.1
 | 0=>rfl
 | i+1=>Zh2 (D:=D) i
theorem Zel (g i:Int) (r:Rec):(Ek g i r).length<=1048576:=by
 unfold Ek Zfd;split
 ·have:=Zlt g i r;rw[Ky,Zh];omega
 ·simp
theorem Zsm (g n:Int):(Fb g n).length<=1048576:=by rw[Ykp];split<;>omega
def Hb (g:Int) (rs:List Rec) (D:Dv):Dv :=
 let d1:=dAt g rs D rs.length
 let d2:=flC d1.1 d1.2.1 d1.2.2.1 d1.2.2.2
 let d3:Dv:=(d2.1,wrC d2.1 d2.2.1 d2.2.2.1 d2.2.2.2 (D6 g 2) (Fb g rs.length))
 flC d3.1 d3.2.1 d3.2.2.1 d3.2.2.2
theorem Zke {g:Int}{rs:List Rec}{D:Dv}(h:dOk D=true):dOk (Hb g rs D)=true:=Xb (x:=(_,_)) (Sa (Xb (Tg h _)))
theorem Yfr {rs:List Rec}{i:Nat}(h:i<rs.length):rs.getD i (Znd 0)=rs[i]:=by simp [h]
theorem Zp1 {g:Int}{rs:List Rec}{D:Dv}{i:Nat}(hi:i<rs.length):dAt g rs D (i+1)=((dAt g rs D i).1,wrC (dAt g rs D i).1 (dAt g rs D i).2.1 (dAt g rs D i).2.2.1 (dAt g rs D i).2.2.2 (Ew g i) (Ek g i rs[i])):=by
 show stp g rs (dAt g rs D i) i=_;unfold stp;rw[Yfr hi]
theorem Ypa {D:Dv}{T:List Row×Int×List Mk}{gp:Int×Int}{g:Int}{rs:List Rec}(hD:dOk D=true) (hR:V5 T=some rs) (hl:rs.length<=4194304) (hr:∀r∈rs,smC 1048576 r) :
  Ss ((D,(T,gp)),g)=some ((Hb g rs D).1,((Hb g rs D).2.1,((Hb g rs D).2.2.1,((Hb g rs D).2.2.2,(T.2.1,if (Hb g rs D).2.2.2=true then gp else (g,(rs.length:Int))))))):=by
 rw[Ss];simp only;rw[hR,Ab];rw[show Ar (Zbt ((D,(T,gp)),g) rs) (D.2.1,(D.2.2.1,(D.2.2.2,0)))=some (.inl (dAt g rs D rs.length).2) from Hv (fun i=>((dAt g rs D i).2.1,((dAt g rs D i).2.2.1,((dAt g rs D i).2.2.2,(i:Int))))) rs.length _ (fun i hi=>by
   have hk:=Tg (g:=g) (rs:=rs) hD i;have h1:=Zh2 (g:=g) (rs:=rs) (D:=D) i;rw[Zbt];simp only;rw[A4 (by rw[Aj];omega),Ag,show Sr (g,(i:Int))=some (Ew g i) from rfl,Ab,Bt hi,Ab,Zwg (hr _ (Khb hi)),Ab];have e:∀S1,S1=(dAt g rs D i).1->K3 ((S1,(dAt g rs D i).2),(Ew g i,Ek g i rs[i]))=some (wrC (dAt g rs D i).1 (dAt g rs D i).2.1 (dAt g rs D i).2.2.1 (dAt g rs D i).2.2.2 (Ew g i) (Ek g i rs[i])):=by
    rintro _ rfl;exact (wr2 (x:=dAt g rs D i) (n:=Ew g i) (b:=Ek g i rs[i]) hk (Zel _ _ _)).2
   rw[show K3 ((D.1,((dAt g rs D i).2.1,((dAt g rs D i).2.2.1,(dAt g rs D i).2.2.2))),(Ew g i,Ek g i rs[i]))=some (wrC (dAt g rs D i).1 (dAt g rs D i).2.1 (dAt g rs D i).2.2.1 (dAt g rs D i).2.2.2 (Ew g i) (Ek g i rs[i])) from e D.1 h1.symm,Ab,Cs (by omega)];rw[Zp1 hi]) (by
   rw[Zbt];simp only;rw[A0 (by rw[Aj];omega),Ac]) _ rfl,A3]
 have hk:=Tg (g:=g) (rs:=rs) hD rs.length;have h1:=Zh2 (g:=g) (rs:=rs) (D:=D) rs.length;have f1:=(fl2 hk).2;have k2:=Xb hk;generalize hd2:flC (dAt g rs D rs.length).1 (dAt g rs D rs.length).2.1 (dAt g rs D rs.length).2.2.1 (dAt g rs D rs.length).2.2.2=d2 at f1 k2;have w3:=(wr2 (x:=d2) (n:=D6 g 2) (b:=Fb g rs.length) k2 (Zsm _ _)).2;have k3:=Sa (n:=D6 g 2) (b:=Fb g rs.length) k2;have f3:=(fl2 k3).2;have ef:∀S1,S1=(dAt g rs D rs.length).1->Jg (S1,(dAt g rs D rs.length).2)=some d2:=by
  rintro _ rfl;exact f1
 rw[ef D.1 h1.symm,Ab,Aj,Yos,Ab,w3,Ab];rw[show Jg (d2.1,wrC d2.1 d2.2.1 d2.2.2.1 d2.2.2.2 (D6 g 2) (Fb g (rs.length:Int)))=_ from f3,Ab];have hlay:Hb g rs D=flC d2.1 (wrC d2.1 d2.2.1 d2.2.2.1 d2.2.2.2 (D6 g 2) (Fb g rs.length)).1 (wrC d2.1 d2.2.1 d2.2.2.1 d2.2.2.2 (D6 g 2) (Fb g rs.length)).2.1 (wrC d2.1 d2.2.1 d2.2.2.1 d2.2.2.2 (D6 g 2) (Fb g rs.length)).2.2:=by
  unfold Hb;simp only[hd2]
 rw[<-hlay];cases hdn:(Hb g rs D).2.2.2 with
 | true=>simp only[B6,A5,Ag,Ac,hdn,if_true]
 | false=>simp only[B6,A5,Ag,Ac,hdn];rfl
end
end Go.Vs
