import Derived.Test.YteaoaehkkcbmbaaGreatDoorVsQvn
set_option linter.all false
namespace Go.Vs
noncomputable section
def cK{s:BN}(h:FD 1048576 s):P4 (s,s)=some true:=by
 rw[P4];simp only;rw[Zm7 (Lq h.1),Ad,Ah,r4 h.2 h.2,Ad,uf,Ah,LM,Ah,LM]
def Zjm(x:List UInt8):dQ x=some true:=by
 rw[dQ];by_cases b:x.length<=1048576
 case neg=>rw[xk (by omega),Ad,Ah]
 obtain⟨s,n,j⟩:=xQ b;obtain⟨a,r,o,h,c⟩:=xM b;obtain⟨l,p,i⟩:=xN b;obtain⟨d,q,u⟩:=xO b;obtain⟨e,g,t,v⟩:=xP b;have c:=c.mono (show 100<=1048576 by omega);obtain⟨w,y,z⟩:=Zh9 u;have k:=Lq v;have f:=(gz).1;have m:=(Pj (tX e g).1).mono (show 100<=1048576 by decide);rw[xj b,Ad,Ag,n,Ad,o,Ad,Zhu h c,Ad,Zl7 h c,Ad,p,Ad,q,Ad,w,Ad,y,Ad,t,Ad,qv k,Ad,u7 k,Ad,Zh1,Ad,VE j,Ad,cD j,Ad,et,Ah,et,Ah,cK (x1 h c),Ad,Ah,iK i,Ad,u3 i,Ad,cK (iy i),Ad,Ah,et,Ah,cK z,Ad,Ah,r4 m m,Ad,uf,Ah,LM,Ah,uY,Ad,cK (QN f),Ad,Ah,VE (QN f),Ad,kB f]
end
end Go.Vs
