import Derived.Test.YteaoaehkkcbmbaaGreatDoorVsQvf
set_option linter.all false
namespace Go.Vs
noncomputable section
def qy{D:Dv}{g:Int}{a:List Bo}(p:EQ D=true)(j:0<a.length)(w:a.length<=4194304)(s:∀r∈a,FM 1048576 r):TU (D,(g,a))=some (Gg g a D):=by
 have q:=Sp (g:=g) (rs:=a) p a.length;have o:=(S4 q).1;have m:=V4 q;generalize k:E6 (Cf g a D a.length).1 (Cf g a D a.length).2.1 (Cf g a D a.length).2.2.1 (Cf g a D a.length).2.2.2=c at o m;have v:=(TC (x:=c) (n:=EX g 2) (b:=GV g a.length) m (qa _ _)).1;have u:=Rq (n:=EX g 2) (b:=GV g a.length) m;have t:=(S4 u).1;have h:Gg g a D=E6 c.1 (Ff c.1 c.2.1 c.2.2.1 c.2.2.2 (EX g 2) (GV g a.length)).1 (Ff c.1 c.2.1 c.2.2.1 c.2.2.2 (EX g 2) (GV g a.length)).2.1 (Ff c.1 c.2.1 c.2.2.1 c.2.2.2 (EX g 2) (GV g a.length)).2.2:=by
  unfold Gg;simp only[k]
 have d:∀(i:Nat) (l:i<a.length),J5 (Cf g a D i,(ET g i,FK g i a[i]))=some (Cf g a D (i+1)):=by
  intro i l;rw[(TC (x:=Cf g a D i) (n:=ET g i) (b:=FK g i a[i]) (Sp p i) (bY _ _ _)).1,o7 l]
 rw[TU];simp only;rw[Bw (by rw[Av];omega),Ah,show idx a (0:Int)=some a[0] from BK (i:=0) j,Ad,show Lz (g,(0:Int))=some (ET g ((0:Nat):Int)) from rfl,Ad,iL (s _ (EN j)),Ad,show J5 (D,(ET g ((0:Nat):Int),FK g 0 a[0]))=some (Cf g a D 1) from d 0 j,Ad];refine HI (λi=>((Cf g a D (i+1)).1,((Cf g a D (i+1)).2.1,((Cf g a D (i+1)).2.2.1,((Cf g a D (i+1)).2.2.2,((i+1:Nat):Int)))))) (a.length-1) _ (λi l=>?_) ?_ _ ?_
 .have f:i+1<a.length:=by omega
  rw[eM];simp only;rw[Bw (by rw[Av];omega),Ah,BK f,Ad,show Lz (g,((i+1:Nat):Int))=some (ET g ((i+1:Nat):Int)) from rfl,Ad,iL (s _ (EN f)),Ad,
   show J5 (((Cf g a D (i+1)).1,((Cf g a D (i+1)).2.1,((Cf g a D (i+1)).2.2.1,(Cf g a D (i+1)).2.2.2))),(ET g ((i+1:Nat):Int),FK g ((i+1:Nat):Int) a[i+1]))=some (Cf g a D (i+1+1)) from d (i+1) f,Ad,CX (by omega)]
 .have e:a.length-1+1=a.length:=by omega
  rw[eM];simp only[e];rw[B1 (by rw[Av];omega),Ag,show KA ((Cf g a D a.length).1,((Cf g a D a.length).2.1,((Cf g a D a.length).2.2.1,(Cf g a D a.length).2.2.2)))=some c from o,Ad,Av,Zh7,Ad,v,Ad,t,Ad,Zkr,<-h]
 rfl
def IN(s:BN):BN:=if GH s=true/\s.1.2.2.2=false/\s.2.2.1≠60000 then (Gg (s.2.2.1+1) (Hs s.2.1) s.1,s.2.1,if (Gg (s.2.2.1+1) (Hs s.2.1) s.1).2.2.2=true then s.2.2 else (s.2.2.1+1,((Hs s.2.1).length:Int))) else s
def Ph{s:BN}(h:GH s=true):EQ s.1=true/\1<=s.2.2.1/\s.2.2.1<=60000:=by
 unfold GH at h;simp only[A6,AA]at h;exact⟨h.1,h.2.2.2.2.1⟩
def iy{s:BN}(h:FD 1048576 s):FD 1048576 (IN s):=by
 unfold IN;split
 .rename_i b;have a:=Qh (VV (g:=s.2.2.1+1) (rs:=Hs s.2.1) (Ph b.1).1);have c:=Hk (show CH _ _ _=true from VV (g:=s.2.2.1+1) (rs:=Hs s.2.1) (Ph b.1).1);exact⟨⟨a.1,a.2.1,by have:=c.2.1;simp only;omega,a.2.2.2⟩,h.2⟩
 exact h
def tM(t:B9):0<(Hs t).length:=by rw[jv];omega
def u3{s:BN}(h:FD 1048576 s):R4 s=some (IN s):=by
 have b:=Wx h.2;rw[R4,Uq,bu (Lq h.1),Ad,k8 h.2,Ad,Ad,cD h,Ad];unfold IN;cases f:GH s with
 |false=>rw[Ag,A4,Ae (by simp)]
 |true=>
  obtain⟨hd,i,j⟩:=Ph f;rw[Ah];cases a:s.1.2.2.2 with
  |true=>rw[Bf,Ag,A4,Ae (by simp)];rw[<-a]
  |false=>
   rw[B2,Ah];by_cases d:s.2.2.1=60000
   .rw[B1 (by omega),Ag,A4,Ae (by simp[d])];rw[<-a]
   rw[Bw (by omega),Ah,CS (by omega) (by omega)];have e:=k_ (D:=s.1) (T:=s.2.1) (gp:=s.2.2) (g:=s.2.2.1+1) hd (kS h.2) b.1 b.2;rw[show L3 ((s.1,(s.2.1,s.2.2)),s.2.2.1+1)=_ from e,Ad,A4,Af (c:=true=true/\false=false/\s.2.2.1≠60000) ⟨rfl,rfl,d⟩]
def iK{s:BN}(h:FD 1048576 s):NS s=some (IN s):=by
 have b:=Wx h.2;rw[NS,Ry,VC (Lq h.1),Ad,iP h.2,Ad,Ad,VE h,Ad];unfold IN;cases f:GH s with
 |false=>rw[B2,Ah,Ae (by simp)]
 |true=>
  obtain⟨hd,g,i⟩:=Ph f;rw[Bf,Ag];cases e:s.1.2.2.2 with
  |true=>rw[Ah,Ae (by simp)]
  |false=>
   rw[Ag];by_cases a:s.2.2.1=60000
   .rw[a,LM,Ah,Ae (by simp)]
   rw[E7 a,Ag,qn h.2,Ad,CS (by omega) (by omega),qy hd (tM _) b.1 b.2,Ad,Af (c:=true=true/\false=false/\s.2.2.1≠60000) ⟨rfl,rfl,a⟩];cases d:(Gg (s.2.2.1+1) (Hs s.2.1) s.1).2.2.2 with
   |true=>simp only[Bf,Ag,A4,BF]
   |false=>simp only[B2,Ah,A4];rfl
end
end Go.Vs
