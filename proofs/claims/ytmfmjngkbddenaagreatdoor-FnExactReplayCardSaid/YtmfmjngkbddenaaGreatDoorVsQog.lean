import Derived.Test.YtmfmjngkbddenaaGreatDoorVsW5
import Derived.Test.YtmfmjngkbddenaaGreatDoorVsQof
set_option linter.all false
namespace Go.Vs
noncomputable section
theorem Yin {d:Dv}{m:Int}(h:SmD d) (h0:0<=m) (hm:m<=1048576):∃m' x1 x2,Zn (d,m)=some (m',(x1,x2))/\x1.length=d.1.length/\x2.length=d.2.1.length/\0<=m':=by
 have h3:=h.2.2.1;obtain⟨m1,x1,a1,a2,a3,a4,a5⟩:=Yiq (x:=d.1) (m:=m) (by omega) (by omega) (by have:=h.1;omega) h.2.1;obtain⟨m2,x2,b1,b2,b3,b4,b5⟩:=Yit (x:=d.2.1) (m:=m1) (by omega) (by omega) (by omega) h.2.2.2;refine⟨m2,x1,x2, ?_,a3,b3,by omega⟩;rw[Zn,a1,Ab];simp only[a3,b1,Ab,b3,Hw,A4]
theorem Yh3 {d:Dev}{g:Int}(h:smD 9223372036854775807 d):Zez (d,g)=some true:=by
 obtain⟨z,h1,h2,h3⟩:=Ymd (k:=1048576) (by omega) (by omega) h;rw[Zez];simp only;rw[h1,Ab];by_cases hz:z<0
 ·rw[A6 hz];rfl
 rw[A3 (by omega),Ae];have hs:=h3 (by omega);have hd:=Ylr hs;have sy:=(Zvc (Yjz d g).1).mono (show 100<=1048576 by decide);obtain⟨m1,x1,x2,a1,a3,a4,a5⟩:=Yin (m:=1) hd (by omega) (by omega);obtain⟨m3,w1,w2,c1,c2,c3,c4,c5,_⟩:=Yir (m:=1) sy (by omega) (by omega);have e1:=Ymj hs;have e3:=Yci sy;have e4:=Ycg hs;have l1:iLt m1 0=false:=A3 (by omega);have l2:iLt m3 0=false:=A3 (by omega);simp only[e1,e3,e4,Ab,Yg9 hd,Ykt hd,Bd,Ae,Za0,a1,a3,a4,Hw,A4,l1,c1,c3,c4,c2,l2,E6,Vx]
end
end Go.Vs
