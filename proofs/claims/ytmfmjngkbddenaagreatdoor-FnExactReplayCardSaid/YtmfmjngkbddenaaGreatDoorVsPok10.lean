import Derived.Test.YtmfmjngkbddenaaGreatDoorProg
import Derived.Test.YtmfmjngkbddenaaGreatDoorVsPok9
set_option linter.all false
namespace Go.Vs
open Go.Proofs
set_option maxRecDepth 100000
noncomputable section
theorem Yed x:fX [.see Yah,.see Yaq] [] .d Tryz.f24 [(true,txP),(true,txP)] [(false,.B)] x=Ze x:=by kernel_rfl
def Yaj:=eS Tryz.func24 (by kernel_rfl) Yed
theorem Yec x:fX [.see Zg2] [] .d Tryz.f134 [(true,txC),(true,txC)] [(false,.B)] x=U5 x:=by kernel_rfl
def Yai:=eS Tryz.func134 (by kernel_rfl) Yec
theorem Yeg x:fX [.see Yai] [] .d Tryz.f60 [(true,txT),(true,txT)] [(false,.B)] x=U6 x:=by kernel_rfl
def Yam:=eS Tryz.func60 (by kernel_rfl) Yeg
theorem Yeh x:fX [.see Yam] [] (.sq none .d (.sq none .d (.sq none (.sq none .d (.bl (.lp [.kt 0,.kt 1,.lt 5 (.I .i64)] .d))) .d))) Tryz.f105 [(false,txW),
 (false,txW)] [(false,.B)] x=Zh x:=by kernel_rfl
def Yan:=eS Tryz.func105 (by kernel_rfl) Yeh
theorem Yee x:fX [] [] .d Tryz.f176 [(true,txH),(true,txH)] [(false,.B)] x=Zf x:=by kernel_rfl
def Yak:=eS Tryz.func176 (by kernel_rfl) Yee
theorem Yef x:fX [.see Yak] [] (.sq none .d (.sq none .d (.sq none (.sq none .d (.bl (.lp [.kt 0,.kt 1,.lt 5 (.I .i64)] .d))) .d))) Tryz.f106 [(false,txI),
 (false,txI)] [(false,.B)] x=Zg x:=by kernel_rfl
def Yal:=eS Tryz.func106 (by kernel_rfl) Yef
theorem Yei x:fX [.see Yan,.see Yal] [] .d Tryz.f42 [(true,F2),(true,F2)] [(false,.B)] x=Rq x:=by kernel_rfl
def Yao:=eS Tryz.func42 (by kernel_rfl) Yei
theorem Yep x:fG [] [] (.sq none .d (.sq (some [.sr 0 .Y,.lt 1 (.I .i64)]) (.sq none .d (.bl (.lp [.sr 0 .Y,.lt 1 (.I .i64),.lt 5 (.I .i64)] .d))) .d)) Tryz.f148
 [⟨false,false,.L .Y,[.io],none⟩,⟨false,false,.I .i64,[.rd],none⟩] [(false,.I .i64)] x=Ng x:=by kernel_rfl
def Zg3:=eG Tryz.func148 (by kernel_rfl) Yep
theorem Yeq x:fG [.gen Zg3] [] (.sq none .d (.sq (some [.sr 0 (.L .Y),.lt 1 (.I .i64)]) (.sq none .d (.bl (.lp [.sr 0 (.L .Y),.lt 1 (.I .i64),.lt 5 (.I
 .i64)] .d))) .d)) Tryz.f75 [⟨false,false,txA,[.io],none⟩,⟨false,false,.I .i64,[.rd],none⟩] [(false,.I .i64)] x=Zm x:=by kernel_rfl
def Yav:=eG Tryz.func75 (by kernel_rfl) Yeq
theorem Yew x:fG [.gen Zg3] [] (.sq none .d (.sq (some [.sr 0 txC,.lt 1 (.I .i64)]) (.sq none .d (.bl (.lp [.sr 0 txC,.lt 1 (.I .i64),.lt 5 (.I .i64)] .d)))
 .d)) Tryz.f76 [⟨false,false,txF,[.io],none⟩,⟨false,false,.I .i64,[.rd],none⟩] [(false,.I .i64)] x=Zr x:=by kernel_rfl
def Ya0:=eG Tryz.func76 (by kernel_rfl) Yew
theorem Yer x:fG [.gen Yav,.gen Ya0] [] .d Tryz.f25 [⟨false,true,txP,[.io,.io,.rd,.rd],none⟩,⟨false,false,.I .i64,[.rd],none⟩] [(false,.I
 .i64)] x=Zn x:=by kernel_rfl
def Yaw:=eG Tryz.func25 (by kernel_rfl) Yer
theorem Yev x:fX [] [(12,.el .Y)] (.sq none .d (.sq none .d (.sq none .d (.sq (some [.lt 3 .S]) (.bl (.lp [.lt 0 (.I .i64),.lt 3 .S] .d)) .d)))) Tryz.f177 [(false,.I
 .i64)] [(false,.S)] x=U8 x:=by kernel_rfl
def Zon:=eS Tryz.func177 (by kernel_rfl) Yev
end
end Go.Vs
