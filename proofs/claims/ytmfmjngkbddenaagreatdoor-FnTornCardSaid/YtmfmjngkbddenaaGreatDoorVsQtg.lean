import Derived.Test.YtmfmjngkbddenaaGreatDoorVsQtf
set_option linter.all false
namespace Go.Vs
noncomputable section
theorem Ypx {D:Dv}{g:Int}{rs:List Rec}(hD:dOk D=true) (h0:0<rs.length) (hl:rs.length<=4194304) (hr:∀r∈rs,smC 1048576 r):Zcw (D,(g,rs))=some (Cg g rs D):=by
 have hk:=Vn (g:=g) (rs:=rs) hD rs.length;have f1:=(fl2 hk).1;have k2:=Z0 hk;generalize hd2:flC (dAt g rs D rs.length).1 (dAt g rs D rs.length).2.1 (dAt g rs D rs.length).2.2.1 (dAt g rs D rs.length).2.2.2=d2 at f1 k2;have w3:=(wr2 (x:=d2) (n:=De g 2) (b:=D1 g rs.length) k2 (Zwb _ _)).1;have k3:=Uo (n:=De g 2) (b:=D1 g rs.length) k2;have f3:=(fl2 k3).1;have hlay:Cg g rs D=flC d2.1 (wrC d2.1 d2.2.1 d2.2.2.1 d2.2.2.2 (De g 2) (D1 g rs.length)).1 (wrC d2.1 d2.2.1 d2.2.2.1 d2.2.2.2 (De g 2) (D1 g rs.length)).2.1 (wrC d2.1 d2.2.1 d2.2.2.1 d2.2.2.2 (De g 2) (D1 g rs.length)).2.2:=by
  unfold Cg;simp only[hd2]
 have stepW:∀(i:Nat) (hi:i<rs.length),Ji (dAt g rs D i,(Df g i,Ck g i rs[i]))=some (dAt g rs D (i+1)):=by
  intro i hi;rw[(wr2 (x:=dAt g rs D i) (n:=Df g i) (b:=Ck g i rs[i]) (Vn hD i) (Zhe _ _ _)).1,Ztr hi]
 rw[Zcw];simp only;rw[A3 (by rw[Ak];omega),Ad,show idx rs (0:Int)=some rs[0] from Bp (i:=0) h0,Aa,show Mp (g,(0:Int))=some (Df g ((0:Nat):Int)) from rfl,Aa,Zm1 (hr _ (Kcb h0)),Aa,show Ji (D,(Df g ((0:Nat):Int),Ck g 0 rs[0]))=some (dAt g rs D 1) from stepW 0 h0,Aa];refine I3 (fun i=>((dAt g rs D (i+1)).1,((dAt g rs D (i+1)).2.1,((dAt g rs D (i+1)).2.2.1,((dAt g rs D (i+1)).2.2.2,((i+1:Nat):Int)))))) (rs.length-1) _ (fun i hi=>?_) ?_ _ ?_
 ·have hi2:i+1<rs.length:=by omega
  rw[Zjo];simp only;rw[A3 (by rw[Ak];omega),Ad,Bp hi2,Aa,show Mp (g,((i+1:Nat):Int))=some (Df g ((i+1:Nat):Int)) from rfl,Aa,Zm1 (hr _ (Kcb hi2)),Aa,
   show Ji (((dAt g rs D (i+1)).1,((dAt g rs D (i+1)).2.1,((dAt g rs D (i+1)).2.2.1,(dAt g rs D (i+1)).2.2.2))),(Df g ((i+1:Nat):Int),Ck g ((i+1:Nat):Int) rs[i+1]))=some (dAt g rs D (i+1+1)) from stepW (i+1) hi2,Aa,C4 (by omega)]
 ·have e:rs.length-1+1=rs.length:=by omega
  rw[Zjo];simp only[e];rw[A6 (by rw[Ak];omega),Ac,show Lm ((dAt g rs D rs.length).1,((dAt g rs D rs.length).2.1,((dAt g rs D rs.length).2.2.1,(dAt g rs D rs.length).2.2.2)))=some d2 from f1,Aa,Ak,Ypi,Aa,w3,Aa,f3,Aa,Ysc,<-hlay]
 rfl
def Gf (s:Bw):Bw:=if Ii s=true/\s.1.2.2.2=false/\s.2.2.1≠60000 then (Cg (s.2.2.1+1) (A8 s.2.1) s.1,s.2.1,if (Cg (s.2.2.1+1) (A8 s.2.1) s.1).2.2.2=true then s.2.2 else (s.2.2.1+1,((A8 s.2.1).length:Int))) else s
theorem Zih {s:Bw}(h:Ii s=true):dOk s.1=true/\1<=s.2.2.1/\s.2.2.1<=60000:=by
 unfold Ii at h;simp only[Kd,decide_eq_true_eq]at h;exact⟨h.1,h.2.2.2.2.1⟩
theorem Ys4 (t:Tab):0<(A8 t).length:=by rw[Tz];omega
theorem Zwv {s:Bw}(h:smS 1048576 s):Rx s=some (Gf s):=by
 have hR:=Zpi h.2;rw[Rx,Ut,Wa (Zie h.1),Aa,Zm6 h.2,Aa,Aa,Zm4 h,Aa];unfold Gf;cases ho:Ii s with
 | false=>rw[A5,Ad,if_neg (by simp)]
 | true =>
  obtain⟨hd,g1,g2⟩:=Zih ho;rw[Av,Ac];cases hdn:s.1.2.2.2 with
  | true=>rw[Ad,if_neg (by simp)]
  | false =>
   rw[Ac];by_cases hg:s.2.2.1=60000
   ·rw[hg,V9,Ad,if_neg (by simp)]
   rw[Dp hg,Ac,Yo6 h.2,Aa,Cz (by omega) (by omega),Ypx hd (Ys4 _) hR.1 hR.2,Aa,if_pos (c:=true=true/\false=false/\s.2.2.1≠60000) ⟨rfl,rfl,hg⟩];cases hdd:(Cg (s.2.2.1+1) (A8 s.2.1) s.1).2.2.2 with
   | true=>simp only[Av,Ac,Ar,if_true]
   | false=>simp only[A5,Ad,Ar];rfl
end
end Go.Vs
