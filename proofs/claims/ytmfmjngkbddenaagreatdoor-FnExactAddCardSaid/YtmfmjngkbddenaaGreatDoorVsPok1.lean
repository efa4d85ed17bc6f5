import Derived.Test.YtmfmjngkbddenaaGreatDoorProg
import Derived.Test.YtmfmjngkbddenaaGreatDoorVsPok0
set_option linter.all false
namespace Go.Vs
open Go.Proofs
set_option maxRecDepth 100000
noncomputable section
theorem Yix x:fX [.see Zih] [] .d Tryz.f143 [(true,txC)] [(true,txC)] x=Zas x:=by kernel_rfl
def Ydx:=eS Tryz.func143 (by kernel_rfl) Yix
theorem Yiy x:fX [.see Ydx] [(7,.el txC)] (.sq none .d (.sq none .d (.sq (some [.sr 3 txC]) (.sq none .d (.bl (.lp [.kt 0,.sr 3 txC,.lt 4 (.I .i64)] .d))) .d)))
 Tryz.f69 [(false,txF)] [(false,txF)] x=Zat x:=by kernel_rfl
def Ydy:=eS Tryz.func69 (by kernel_rfl) Yiy
theorem Yip x:fX [.see Ydo,.see Ydy] [] .d Tryz.f22 [(true,txP)] [(true,txP)] x=V1 x:=by kernel_rfl
def Ydq:=eS Tryz.func22 (by kernel_rfl) Yip
theorem Yio x:fX [.see Zih] [] .d Tryz.f127 [(true,txC)] [(true,txC)] x=V0 x:=by kernel_rfl
def Ydp:=eS Tryz.func127 (by kernel_rfl) Yio
theorem Yit x:fX [.see Ydp] [] .d Tryz.f54 [(true,txT)] [(true,txT)] x=Qc x:=by kernel_rfl
def Zqs:=eS Tryz.func54 (by kernel_rfl) Yit
theorem Yiu x:fX [.see Zqs] [(7,.el txT)] (.sq none .d (.sq none .d (.sq (some [.sr 3 txT]) (.sq none .d (.bl (.lp [.kt 0,.sr 3 txT,.lt 4 (.I .i64)] .d))) .d)))
 Tryz.f125 [(false,txW)] [(false,txW)] x=Zar x:=by kernel_rfl
def Ydu:=eS Tryz.func125 (by kernel_rfl) Yiu
theorem Yiq x:fX [] [] .d Tryz.f188 [(true,txH)] [(true,txH)] x=Zf5 x:=by kernel_rfl
def Ydr:=eS Tryz.func188 (by kernel_rfl) Yiq
theorem Yir x:fX [.see Ydr] [(7,.el txH)] (.sq none .d (.sq none .d (.sq (some [.sr 3 txH]) (.sq none .d (.bl (.lp [.kt 0,.sr 3 txH,.lt 4 (.I .i64)] .d))) .d)))
 Tryz.f126 [(false,txI)] [(false,txI)] x=Zaq x:=by kernel_rfl
def Yds:=eS Tryz.func126 (by kernel_rfl) Yir
theorem Yiw x:fX [.see Ydu,.see Yds] [] .d Tryz.f53 [(true,E3)] [(true,E3)] x=V2 x:=by kernel_rfl
def Ydw:=eS Tryz.func53 (by kernel_rfl) Yiw
theorem Yiv x:fX [.see Ydq,.see Ydw] [] .d Tryz.f12 [(true,Ef)] [(true,Ef)] x=Qd x:=by kernel_rfl
def Ydv:=eS Tryz.func12 (by kernel_rfl) Yiv
theorem Yis x:fX [.see Zqs] [] .d Tryz.f13 [(true,Cd)] [(true,Cd)] x=Qb x:=by kernel_rfl
def Ydt:=eS Tryz.func13 (by kernel_rfl) Yis
theorem Yjp x:fX [] [(20,.el .Y),(26,.el .Y),(27,.el (.L .Y)),(28,.el (.L .Y)),(45,.el .Y),(52,.el .Y),(54,.el txC),(55,.el txC)] (.sq none .d (.sq none .d
 (.sq (some [.kt 1,.kt 2,.bx 3 [.O (.L .Y),.K,.K,.K]]) (.sq none .d (.bl (.lp [.kt 1,.kt 2,.bx 3 [.O (.L .Y),.K,.K,.K],.lt 4 (.I .i64)] .d))) (.sq (some [.kt 2,.bx 3
 [.K,.O txC,.K,.K]]) (.sq none .d (.bl (.lp [.kt 1,.kt 2,.bx 3 [.K,.O txC,.K,.K],.lt 5 (.I .i64)] .d))) .d)))) Tryz.f67 [(true,txP)] [(true,txP)] x=Za2 x :=
 by kernel_rfl
def Yed:=eS Tryz.func67 (by kernel_rfl) Yjp
theorem Ykc x:fX [] [(5,.el .Y),(8,.el .Y)] .d Tryz.f217 [(true,txC)] [(true,txC)] x=Wd x:=by kernel_rfl
def Yet:=eS Tryz.func217 (by kernel_rfl) Ykc
theorem Ykd x:fX [.see Yet] [] .d Tryz.f182 [(true,txT)] [(true,txT)] x=N5 x:=by kernel_rfl
def Zim:=eS Tryz.func182 (by kernel_rfl) Ykd
end
end Go.Vs
