import Derived.Test.YtmfmjngkbddenaaGreatDoorVsW5
import Derived.Test.YtmfmjngkbddenaaGreatDoorVsQoh
set_option linter.all false
namespace Go.Vs
noncomputable section
theorem Ynr {u:Cx}{t:Tab}{r:Rec}(h:smS 1048576 u) (hd:dOk u.1=true) (ht:smT 1048576 t):smS 1048576 (Pp u t r).1:=by
 have hp:smD 1048576 (J6 u r):=by
  have h1:=Zct (Zu5 (r:=r) hd);have h2:=Mu (show C6 _ _ _=true from Zu5 (r:=r) hd);exact⟨h1.1,h1.2.1,by have:=h2.2.1;omega,h1.2.2.2⟩
 unfold Pp;split
 ·exact h
 ·split
  ·exact⟨hp,h.2⟩
  ·exact⟨hp,ht⟩
theorem Yfp {s:Cx}(h:smS 1048576 s):smS 1048576 (Ei s):=by
 unfold Ei;split
 ·exact Yl9 h
 ·exact h
theorem Zz3 {s:Cx}{r:Rec}(h:smS 1048576 s) (hr:smC 1048576 r):smS 1048576 (Jh s r).1:=by
 unfold Jh;split
 ·rename_i hc;exact Ynr (Yfp h) (Zi1 (Uy hc.1).1) (Zz9 h.2 hr)
 ·exact h
theorem Yl6 {s:Cx}{r:Rec}(h:smS 9223372036854775807 s) (hr:smC 9223372036854775807 r):Zf1 (s,r)=some true:=by
 obtain⟨z,h1,h2,h3⟩:=Yqk (k:=1048576) (by omega) (by omega) h;rw[Zf1];simp only;rw[h1,Ab];by_cases hz:z<0
 ·rw[A4 hz];rfl
 rw[A0 (by omega),Ac];obtain⟨z2,i1,i2,i3⟩:=Yqi (r:=r) (k:=z) (by omega) (by omega) hr;rw[i1,Ab];by_cases hz2:z2<0
 ·rw[A4 hz2];rfl
 rw[A0 (by omega),Ac];have st:=h3 (by omega);have sr:=i3 (by omega);have sy:=Zz3 st sr;obtain⟨m1,a1,a2,a3,a4,f1,p0,p1,p2,p3,p4,_⟩:=Zt3 (s:=s) ⟨Rx st.1,st.2⟩;obtain⟨m2,y1,y2,b1,b3,b4,b5⟩:=Ymu (m:=m1) sr (by omega) (by omega);obtain⟨m3,c1,c2,c3,c4,f2,r0,r1,r2,r3,r4,f3⟩:=Zt3 (s:=(Jh s r).1) ⟨Rx sy.1,sy.2⟩;have e1:=Yqu st;have e2:=Yqt (sr.mono (by decide));have e3:=Zrl sy;have e4:=Zrl st;have e5:=Ye7 (sr.mono (by decide));have l1:iLt m2 0=false:=A0 (by omega);have l2:iLt m3 0=false:=A0 (by omega);simp only[e1,e2,e3,e4,e5,Ab,Yky st sr,Yoi st sr,A5,Ac,Zb1,f1,p1,p2,p3,p4,Fs,Av,b1,b3,b4,l1,f2,r1,r2,r3,r4,f3,l2,Fo,Sy]
end
end Go.Vs
