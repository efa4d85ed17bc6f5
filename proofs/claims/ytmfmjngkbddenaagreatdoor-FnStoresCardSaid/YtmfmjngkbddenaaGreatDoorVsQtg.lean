import Derived.Test.YtmfmjngkbddenaaGreatDoorVsW5
import Derived.Test.YtmfmjngkbddenaaGreatDoorVsQtf
set_option linter.all false
namespace Go.Vs
noncomputable section
theorem Ypf {D:Dv}{g:Int}{rs:List Rec}(hD:dOk D=true) (h0:0<rs.length) (hl:rs.length<=4194304) (hr:∀r∈rs,smC 1048576 r):Zcn (D,(g,rs))=some (D3 g rs D):=by
 have hk:=Ve (g:=g) (rs:=rs) hD rs.length;have f1:=(fl2 hk).1;have k2:=Zo hk;generalize hd2:flC (dAt g rs D rs.length).1 (dAt g rs D rs.length).2.1 (dAt g rs D rs.length).2.2.1 (dAt g rs D rs.length).2.2.2=d2 at f1 k2;have w3:=(wr2 (x:=d2) (n:=Dy g 2) (b:=Eo g rs.length) k2 (Zvw _ _)).1;have k3:=Ud (n:=Dy g 2) (b:=Eo g rs.length) k2;have f3:=(fl2 k3).1;have hlay:D3 g rs D=flC d2.1 (wrC d2.1 d2.2.1 d2.2.2.1 d2.2.2.2 (Dy g 2) (Eo g rs.length)).1 (wrC d2.1 d2.2.1 d2.2.2.1 d2.2.2.2 (Dy g 2) (Eo g rs.length)).2.1 (wrC d2.1 d2.2.1 d2.2.2.1 d2.2.2.2 (Dy g 2) (Eo g rs.length)).2.2:=by
  unfold D3;simp only[hd2]
 have stepW:∀(i:Nat) (hi:i<rs.length),Jh (dAt g rs D i,(Dt g i,C7 g i rs[i]))=some (dAt g rs D (i+1)):=by
  intro i hi;rw[(wr2 (x:=dAt g rs D i) (n:=Dt g i) (b:=C7 g i rs[i]) (Ve hD i) (Zg4 _ _ _)).1,Ztb hi]
 rw[Zcn];simp only;rw[A5 (by rw[Ak];omega),Ad,show idx rs (0:Int)=some rs[0] from Br (i:=0) h0,Aa,show Mm (g,(0:Int))=some (Dt g ((0:Nat):Int)) from rfl,Aa,Zmm (hr _ (Kcb h0)),Aa,show Jh (D,(Dt g ((0:Nat):Int),C7 g 0 rs[0]))=some (dAt g rs D 1) from stepW 0 h0,Aa];refine I0 (fun i=>((dAt g rs D (i+1)).1,((dAt g rs D (i+1)).2.1,((dAt g rs D (i+1)).2.2.1,((dAt g rs D (i+1)).2.2.2,((i+1:Nat):Int)))))) (rs.length-1) _ (fun i hi=>?_) ?_ _ ?_
 ·have hi2:i+1<rs.length:=by omega
  rw[Zjd];simp only;rw[A5 (by rw[Ak];omega),Ad,Br hi2,Aa,show Mm (g,((i+1:Nat):Int))=some (Dt g ((i+1:Nat):Int)) from rfl,Aa,Zmm (hr _ (Kcb hi2)),Aa,
   show Jh (((dAt g rs D (i+1)).1,((dAt g rs D (i+1)).2.1,((dAt g rs D (i+1)).2.2.1,(dAt g rs D (i+1)).2.2.2))),(Dt g ((i+1:Nat):Int),C7 g ((i+1:Nat):Int) rs[i+1]))=some (dAt g rs D (i+1+1)) from stepW (i+1) hi2,Aa,Cz (by omega)]
 ·have e:rs.length-1+1=rs.length:=by omega
  rw[Zjd];simp only[e];rw[A6 (by rw[Ak];omega),Ac,show Lm ((dAt g rs D rs.length).1,((dAt g rs D rs.length).2.1,((dAt g rs D rs.length).2.2.1,(dAt g rs D rs.length).2.2.2)))=some d2 from f1,Aa,Ak,Yo1,Aa,w3,Aa,f3,Aa,Yrs,<-hlay]
 ·rfl
def H6 (s:Bv):Bv:=if Ie s=true/\s.1.2.2.2=false/\s.2.2.1≠60000 then (D3 (s.2.2.1+1) (C2 s.2.1) s.1,s.2.1,if (D3 (s.2.2.1+1) (C2 s.2.1) s.1).2.2.2=true then s.2.2 else (s.2.2.1+1,((C2 s.2.1).length:Int))) else s
theorem Zh6 {s:Bv}(h:Ie s=true):dOk s.1=true/\1<=s.2.2.1/\s.2.2.1<=60000:=by
 unfold Ie at h;simp only[Kd,decide_eq_true_eq]at h;exact⟨h.1,h.2.2.2.2.1⟩
theorem Ysn (t:Tab):0<(C2 t).length:=by rw[Tl];omega
theorem Zml {s:Bv}(h:smS 1048576 s):Px s=some (H6 s):=by
 have hR:=Zo0 h.2;rw[Px,Uk,Vz (T1 h.1),Aa,Zmq h.2,Aa,Aa,V0 h,Aa];unfold H6;cases ho:Ie s with
 | false=>rw[A3,Ad,if_neg (by simp)]
 | true =>
  obtain⟨hd,g1,g2⟩:=Zh6 ho;rw[Au,Ac];cases hdn:s.1.2.2.2 with
  | true=>rw[Ad,if_neg (by simp)]
  | false =>
   rw[Ac];by_cases hg:s.2.2.1=60000
   ·rw[hg,Ok,Ad,if_neg (by simp)]
   ·rw[Dk hg,Ac,Yop h.2,Aa,C0 (by omega) (by omega),Ypf hd (Ysn _) hR.1 hR.2,Aa,if_pos (c:=true=true/\false=false/\s.2.2.1≠60000) ⟨rfl,rfl,hg⟩];cases hdd:(D3 (s.2.2.1+1) (C2 s.2.1) s.1).2.2.2 with
    | true=>simp only[Au,Ac,Ar,if_true]
    | false=>simp only[A3,Ad,Ar];rfl
end
end Go.Vs
