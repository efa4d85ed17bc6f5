import Derived.Test.YtmfmjngkbddenaaGreatDoorVsW5
import Derived.Test.YtmfmjngkbddenaaGreatDoorVsQo8
set_option linter.all false
namespace Go.Vs
noncomputable section
abbrev WrT:=Int×List UInt8
abbrev Dev:=List (List UInt8)×List WrT×Int×Bool
def smD (B:Nat) (d:Dev):Prop:=d.1.length<=B/\(∀s∈d.1,s.length<=B)/\d.2.1.length<=B/\∀w∈d.2.1,w.2.length<=B
theorem smD.mono {A B:Nat}{d:Dev}(h:smD A d) (hab:A<=B):smD B d:=⟨Kja h.1 hab,fun s hs=>Kja (h.2.1 s hs) hab,Kja h.2.2.1 hab,fun w hw=>Kja (h.2.2.2 w hw) hab⟩
theorem Ymd {d:Dev}{k:Int}(h0:0<=k) (hk:k<=1048576) (h:smD 9223372036854775807 d):SzR (Zs (d,k)) k (smD 1048576 d):=by
 unfold Zs;have e1:Ze0 (d.1,k)=Zeb U9 (d.1,k):=rfl;have e2:∀z,Ze1 (d.2.1,z)=Zeb Zt (d.2.1,z):=fun z=>rfl;simp only[e1,e2];refine (SzR.seq h0 (Zva (B:=1048576) h0 hk (by omega) h.1 (P:=fun s=>s.length<=1048576) fun e he k h0 hk=>(Zu9 h0 (by omega) (h.2.1 e he)).mono (Kec _) fun h=>by omega) (Q:=d.2.1.length<=1048576/\∀w∈d.2.1,w.2.length<=1048576) fun z hz hz2=>?_).mono (Kec _) fun h=>⟨by have:=h.1.1;omega,h.1.2,h.2.1,h.2.2⟩;refine SzR.one hz ((Zva (B:=1048576) hz (by omega) (by omega) h.2.2.1 (P:=fun w=>w.2.length<=1048576) fun e he k h0 hk=>?_).mono (Kec _) fun h=>⟨by have:=h.1;omega,h.2⟩);unfold Zt;exact SzR.one h0 ((Zu9 h0 (by omega) (h.2.2.2 e he)).mono (Kec _) fun h=>by omega)
theorem Ymj {d:Dev}(h:smD 1048576 d):Pp d=some d:=by
 have e1:Zu d.1=some d.1:=by
  have:Zu d.1=Yj Rr [] 24 d.1:=rfl;rw[this];exact Zlk (by have:=h.1;omega) (by have:=h.1;omega) fun r hr=>Zvo (by have:=h.2.1 r hr;omega)
 have e2:Zw d.2.1=some d.2.1:=by
  have:Zw d.2.1=Yj Zv (0,[]) 32 d.2.1:=rfl;rw[this];exact Zlk (by have:=h.2.2.1;omega) (by have:=h.2.2.1;omega) fun r hr=>by
   unfold Zv;rw[Zvo (by have:=h.2.2.2 r hr;omega)];rfl
 unfold Pp;rw[e1,Ab,e2];rfl
theorem Ycg {d:Dev}(h:smD 1048576 d):Ze (d,d)=some true:=by
 have e1:Zd (d.1,d.1)=some true:=by
  have:Zd (d.1,d.1)=Sp Po (d.1,d.1):=rfl;rw[this];exact Zby (by have:=h.1;omega) fun r hr=>Zg9 (by have:=h.2.1 r hr;omega)
 have e2:Zj (d.2.1,d.2.1)=some true:=by
  have:Zj (d.2.1,d.2.1)=Sp Zi (d.2.1,d.2.1):=rfl;rw[this];exact Zby (by have:=h.2.2.1;omega) fun r hr=>by
   unfold Zi;simp only[E6,Ae,Zg9 (show r.2.length<9223372036854775807 by have:=h.2.2.2 r hr;omega),Ab,Bd]
 unfold Ze;simp only[e1,e2,Ab,Bd,Ae,E6,Za0]
theorem Ylr {d:Dev}(h:smD 1048576 d):SmD d:=⟨h.1,h.2.1,Kja h.2.2.1 (by decide),h.2.2.2⟩
end
end Go.Vs
