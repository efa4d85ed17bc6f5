import Derived.Test.YtmfmjngkbddenaaGreatDoorVsW5
import Derived.Test.YtmfmjngkbddenaaGreatDoorVsQo9
set_option linter.all false
namespace Go.Vs
noncomputable section
theorem Yo3 {D:Dv}{g:Int}{rs:List Rec}(hD:dOk D=true) (h0:0<rs.length) (hl:rs.length<=4194304) (hr:∀r∈rs,smC 1048576 r):Zbt (D,(g,rs))=some (Hz g rs D):=by
 have hk:=U0 (g:=g) (rs:=rs) hD rs.length;have f1:=(fl2 hk).1;have k2:=Ze8 hk;generalize hd2:flC (dAt g rs D rs.length).1 (dAt g rs D rs.length).2.1 (dAt g rs D rs.length).2.2.1 (dAt g rs D rs.length).2.2.2=d2 at f1 k2;have w3:=(wr2 (x:=d2) (n:=Dy g 2) (b:=Ft g rs.length) k2 (Zu2 _ _)).1;have k3:=Zh8 (n:=Dy g 2) (b:=Ft g rs.length) k2;have f3:=(fl2 k3).1;have hlay:Hz g rs D=flC d2.1 (wrC d2.1 d2.2.1 d2.2.2.1 d2.2.2.2 (Dy g 2) (Ft g rs.length)).1 (wrC d2.1 d2.2.1 d2.2.2.1 d2.2.2.2 (Dy g 2) (Ft g rs.length)).2.1 (wrC d2.1 d2.2.1 d2.2.2.1 d2.2.2.2 (Dy g 2) (Ft g rs.length)).2.2:=by
  unfold Hz;simp only[hd2]
 have stepW:∀(i:Nat) (hi:i<rs.length),K4 (dAt g rs D i,(F1 g i,Fy g i rs[i]))=some (dAt g rs D (i+1)):=by
  intro i hi;rw[(wr2 (x:=dAt g rs D i) (n:=F1 g i) (b:=Fy g i rs[i]) (U0 hD i) (Zxu _ _ _)).1,Zsm hi]
 rw[Zbt];simp only;rw[A5 (by rw[Ai];omega),Ad,show idx rs (0:Int)=some rs[0] from Bp (i:=0) h0,Aa,show Rc (g,(0:Int))=some (F1 g ((0:Nat):Int)) from rfl,Aa,Zvh (hr _ (Kcb h0)),Aa,show K4 (D,(F1 g ((0:Nat):Int),Fy g 0 rs[0]))=some (dAt g rs D 1) from stepW 0 h0,Aa];refine Gn (fun i=>((dAt g rs D (i+1)).1,((dAt g rs D (i+1)).2.1,((dAt g rs D (i+1)).2.2.1,((dAt g rs D (i+1)).2.2.2,((i+1:Nat):Int)))))) (rs.length-1) _ (fun i hi=>?_) ?_ _ ?_
 ·have hi2:i+1<rs.length:=by omega
  rw[Ziz];simp only;rw[A5 (by rw[Ai];omega),Ad,Bp hi2,Aa,show Rc (g,((i+1:Nat):Int))=some (F1 g ((i+1:Nat):Int)) from rfl,Aa,Zvh (hr _ (Kcb hi2)),Aa,
   show K4 (((dAt g rs D (i+1)).1,((dAt g rs D (i+1)).2.1,((dAt g rs D (i+1)).2.2.1,(dAt g rs D (i+1)).2.2.2))),(F1 g ((i+1:Nat):Int),Fy g ((i+1:Nat):Int) rs[i+1]))=some (dAt g rs D (i+1+1)) from stepW (i+1) hi2,Aa,Cw (by omega)]
 ·have e:rs.length-1+1=rs.length:=by omega
  rw[Ziz];simp only[e];rw[A3 (by rw[Ai];omega),Ac,show M6 ((dAt g rs D rs.length).1,((dAt g rs D rs.length).2.1,((dAt g rs D rs.length).2.2.1,(dAt g rs D rs.length).2.2.2)))=some d2 from f1,Aa,Ai,Yom,Aa,w3,Aa,f3,Aa,Yqy,<-hlay]
 ·rfl
def So (s:E8):E8:=if J4 s=true/\s.1.2.2.2=false/\s.2.2.1≠60000 then (Hz (s.2.2.1+1) (Ip s.2.1) s.1,s.2.1,if (Hz (s.2.2.1+1) (Ip s.2.1) s.1).2.2.2=true then s.2.2 else (s.2.2.1+1,((Ip s.2.1).length:Int))) else s
theorem Zau {s:E8}(h:J4 s=true):dOk s.1=true/\1<=s.2.2.1/\s.2.2.1<=60000:=by
 unfold J4 at h;simp only[Kd,decide_eq_true_eq]at h;exact⟨h.1,h.2.2.2.2.1⟩
theorem Yps {s:E8}(h:smS 1048576 s):smS 1048576 (So s):=by
 unfold So;split
 ·rename_i hc;have h1:=Zkj (Zv6 (g:=s.2.2.1+1) (rs:=Ip s.2.1) (Zau hc.1).1);have h2:=Ny (show C2 _ _ _=true from Zv6 (g:=s.2.2.1+1) (rs:=Ip s.2.1) (Zau hc.1).1);exact⟨⟨h1.1,h1.2.1,by have:=h2.2.1;simp only;omega,h1.2.2.2⟩,h.2⟩
 ·exact h
theorem Yrl (t:Tab):0<(Ip t).length:=by rw[Zx4];omega
theorem Ysn {s:E8}(h:smS 1048576 s):Xo s=some (So s):=by
 have hR:=Zx5 h.2;rw[Xo,Zin,Zzj (Tg h.1),Aa,Zzr h.2,Aa,Aa,Zzp h,Aa];unfold So;cases ho:J4 s with
 | false=>rw[Ac,Ax,if_neg (by simp)]
 | true =>
  obtain⟨hd,g1,g2⟩:=Zau ho;rw[Ad];cases hdn:s.1.2.2.2 with
  | true=>rw[Az,Ac,Ax,if_neg (by simp)];rw[<-hdn]
  | false =>
   rw[Bd,Ad];by_cases hg:s.2.2.1=60000
   ·rw[A3 (by omega),Ac,Ax,if_neg (by simp [hg])];rw[<-hdn]
   ·rw[A5 (by omega),Ad,C3 (by omega) (by omega)];have e:=Ys5 (D:=s.1) (T:=s.2.1) (gp:=s.2.2) (g:=s.2.2.1+1) hd (Ysb h.2) hR.1 hR.2;rw[show Xx ((s.1,(s.2.1,s.2.2)),s.2.2.1+1)=_ from e,Aa,Ax,if_pos (c:=true=true/\false=false/\s.2.2.1≠60000) ⟨rfl,rfl,hg⟩]
theorem Yoo {s:E8}(h:smS 1048576 s):W8 s=some (So s):=by
 have hR:=Zx5 h.2;rw[W8,Zig,Zfj (Tg h.1),Aa,Zvm h.2,Aa,Aa,Zvj h,Aa];unfold So;cases ho:J4 s with
 | false=>rw[Bd,Ad,if_neg (by simp)]
 | true =>
  obtain⟨hd,g1,g2⟩:=Zau ho;rw[Az,Ac];cases hdn:s.1.2.2.2 with
  | true=>rw[Ad,if_neg (by simp)]
  | false =>
   rw[Ac];by_cases hg:s.2.2.1=60000
   ·rw[hg,Vh,Ad,if_neg (by simp)]
   ·rw[Eg hg,Ac,Yoa h.2,Aa,C3 (by omega) (by omega),Yo3 hd (Yrl _) hR.1 hR.2,Aa,if_pos (c:=true=true/\false=false/\s.2.2.1≠60000) ⟨rfl,rfl,hg⟩];cases hdd:(Hz (s.2.2.1+1) (Ip s.2.1) s.1).2.2.2 with
    | true=>simp only[Az,Ac,Ax,if_true]
    | false=>simp only[Bd,Ad,Ax];rfl
end
end Go.Vs
