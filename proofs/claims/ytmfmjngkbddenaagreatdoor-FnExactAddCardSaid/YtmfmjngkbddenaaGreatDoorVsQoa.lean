import Derived.Test.YtmfmjngkbddenaaGreatDoorVsW5
import Derived.Test.YtmfmjngkbddenaaGreatDoorVsQo9
set_option linter.all false
namespace Go.Vs
noncomputable section
theorem Ylm {D:Dv}{g:Int}{rs:List Rec}(hD:dOk D=true) (h0:0<rs.length) (hl:rs.length<=4194304) (hr:∀r∈rs,smC 1048576 r):Zv (D,(g,rs))=some (Hb g rs D):=by
 have hk:=Tg (g:=g) (rs:=rs) hD rs.length;have f1:=(fl2 hk).1;have k2:=Xb hk;generalize hd2:flC (dAt g rs D rs.length).1 (dAt g rs D rs.length).2.1 (dAt g rs D rs.length).2.2.1 (dAt g rs D rs.length).2.2.2=d2 at f1 k2;have w3:=(wr2 (x:=d2) (n:=D6 g 2) (b:=Fb g rs.length) k2 (Zsm _ _)).1;have k3:=Sa (n:=D6 g 2) (b:=Fb g rs.length) k2;have f3:=(fl2 k3).1;have hlay:Hb g rs D=flC d2.1 (wrC d2.1 d2.2.1 d2.2.2.1 d2.2.2.2 (D6 g 2) (Fb g rs.length)).1 (wrC d2.1 d2.2.1 d2.2.2.1 d2.2.2.2 (D6 g 2) (Fb g rs.length)).2.1 (wrC d2.1 d2.2.1 d2.2.2.1 d2.2.2.2 (D6 g 2) (Fb g rs.length)).2.2:=by
  unfold Hb;simp only[hd2]
 have stepW:∀(i:Nat) (hi:i<rs.length),H7 (dAt g rs D i,(Ew g i,Ek g i rs[i]))=some (dAt g rs D (i+1)):=by
  intro i hi;rw[(wr2 (x:=dAt g rs D i) (n:=Ew g i) (b:=Ek g i rs[i]) (Tg hD i) (Zel _ _ _)).1,Zp1 hi]
 rw[Zv];simp only;rw[A4 (by rw[Aj];omega),Ag,show idx rs (0:Int)=some rs[0] from Bt (i:=0) h0,Ab,show N4 (g,(0:Int))=some (Ew g ((0:Nat):Int)) from rfl,Ab,Zjj (hr _ (Khb h0)),Ab,show H7 (D,(Ew g ((0:Nat):Int),Ek g 0 rs[0]))=some (dAt g rs D 1) from stepW 0 h0,Ab];refine Hv (fun i=>((dAt g rs D (i+1)).1,((dAt g rs D (i+1)).2.1,((dAt g rs D (i+1)).2.2.1,((dAt g rs D (i+1)).2.2.2,((i+1:Nat):Int)))))) (rs.length-1) _ (fun i hi=>?_) ?_ _ ?_
 ·have hi2:i+1<rs.length:=by omega
  rw[Zgk];simp only;rw[A4 (by rw[Aj];omega),Ag,Bt hi2,Ab,show N4 (g,((i+1:Nat):Int))=some (Ew g ((i+1:Nat):Int)) from rfl,Ab,Zjj (hr _ (Khb hi2)),Ab,
   show H7 (((dAt g rs D (i+1)).1,((dAt g rs D (i+1)).2.1,((dAt g rs D (i+1)).2.2.1,(dAt g rs D (i+1)).2.2.2))),(Ew g ((i+1:Nat):Int),Ek g ((i+1:Nat):Int) rs[i+1]))=some (dAt g rs D (i+1+1)) from stepW (i+1) hi2,Ab,Cs (by omega)]
 ·have e:rs.length-1+1=rs.length:=by omega
  rw[Zgk];simp only[e];rw[A0 (by rw[Aj];omega),Ac,show Je ((dAt g rs D rs.length).1,((dAt g rs D rs.length).2.1,((dAt g rs D rs.length).2.2.1,(dAt g rs D rs.length).2.2.2)))=some d2 from f1,Ab,Aj,Yk7,Ab,w3,Ab,f3,Ab,Ynh,<-hlay]
 ·rfl
def Pc (s:Cx):Cx:=if H1 s=true/\s.1.2.2.2=false/\s.2.2.1≠60000 then (Hb (s.2.2.1+1) (Hx s.2.1) s.1,s.2.1,if (Hb (s.2.2.1+1) (Hx s.2.1) s.1).2.2.2=true then s.2.2 else (s.2.2.1+1,((Hx s.2.1).length:Int))) else s
theorem Uy {s:Cx}(h:H1 s=true):dOk s.1=true/\1<=s.2.2.1/\s.2.2.1<=60000:=by
 unfold H1 at h;simp only[Ke,decide_eq_true_eq]at h;exact⟨h.1,h.2.2.2.2.1⟩
theorem Yl9 {s:Cx}(h:smS 1048576 s):smS 1048576 (Pc s):=by
 unfold Pc;split
 ·rename_i hc;have h1:=Zct (Zke (g:=s.2.2.1+1) (rs:=Hx s.2.1) (Uy hc.1).1);have h2:=Mu (show C6 _ _ _=true from Zke (g:=s.2.2.1+1) (rs:=Hx s.2.1) (Uy hc.1).1);exact⟨⟨h1.1,h1.2.1,by have:=h2.2.1;simp only;omega,h1.2.2.2⟩,h.2⟩
 ·exact h
theorem Ynx (t:Tab):0<(Hx t).length:=by rw[Zve];omega
theorem Yk9 {s:Cx}(h:smS 1048576 s):Vj s=some (Pc s):=by
 have hR:=Zvf h.2;rw[Vj,Sd,Zdo (Rx h.1),Ab,Zjn h.2,Ab,Ab,Zs1 h,Ab];unfold Pc;cases ho:H1 s with
 | false=>rw[B6,Ag,if_neg (by simp)]
 | true =>
  obtain⟨hd,g1,g2⟩:=Uy ho;rw[A5,Ac];cases hdn:s.1.2.2.2 with
  | true=>rw[Ag,if_neg (by simp)]
  | false =>
   rw[Ac];by_cases hg:s.2.2.1=60000
   ·rw[hg,T2,Ag,if_neg (by simp)]
   ·rw[Dp hg,Ac,Ykx h.2,Ab,C8 (by omega) (by omega),Ylm hd (Ynx _) hR.1 hR.2,Ab,if_pos (c:=true=true/\false=false/\s.2.2.1≠60000) ⟨rfl,rfl,hg⟩];cases hdd:(Hb (s.2.2.1+1) (Hx s.2.1) s.1).2.2.2 with
    | true=>simp only[A5,Ac,A3,if_true]
    | false=>simp only[B6,Ag,A3];rfl
end
end Go.Vs
