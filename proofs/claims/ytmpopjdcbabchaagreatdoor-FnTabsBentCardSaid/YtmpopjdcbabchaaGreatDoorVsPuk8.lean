import Derived.Test.YtmpopjdcbabchaaGreatDoorProg
import Derived.Test.YtmpopjdcbabchaaGreatDoorVsPuk7
set_option linter.all false
namespace Go.Vs
open Go.Proofs
set_option maxRecDepth 100000
noncomputable section
theorem h_s_l1Text x:fG [.gen e_s_l1Str] [(4,.el .S)] .d Tryz.f108 [⟨true,false,txE,[.rx,.rd,.rd],(some txD)⟩] [(false,.S)] x=Zcu x:=by kernel_rfl
def e_s_l1Text:=eG Tryz.func108 (by kernel_rfl) h_s_l1Text
theorem h_s_l8Draw x:fG [.gen e_s_l1Below,.gen e_s_l5Text,.see e_s_CellOf] [] .d Tryz.f137 [⟨true,false,txE,[.rx,.rd,.rd],(some txD)⟩] [(true,txB)] x=Zep x :=
 by kernel_rfl
def e_s_l8Draw:=eG Tryz.func137 (by kernel_rfl) h_s_l8Draw
theorem h_s_l3Any x:fG [.gen e_s_l1Int] [(4,.el (.I .i64))] .d Tryz.f138 [⟨true,false,txE,[.rx,.rd,.rd],(some txD)⟩] [(false,.I .i64)] x=Zeq x:=by kernel_rfl
def e_s_l3Any:=eG Tryz.func138 (by kernel_rfl) h_s_l3Any
theorem h_s_l1Bend x:fG [.gen e_s_l1Below] [(6,.el .Y),(8,.el .Y)] (.sq none .d (.sq none .d (.sq (some [.bx 0 [.K,.L (.I .i64),.L (.I .i64)],.sr 5 .Y]) .d .d))) Tryz.f150
 [⟨true,false,txE,[.rx,.rd,.rd],(some txD)⟩,⟨false,false,.L .Y,[.rd],none⟩] [(false,.L .Y)] x=Zer x:=by kernel_rfl
def e_s_l1Bend:=eG Tryz.func150 (by kernel_rfl) h_s_l1Bend
theorem h_s_l5Bytes x:fG [.gen e_s_l5Text,.see e_s_Encode,.gen e_s_l1Below,.gen e_s_l1Bend,.gen e_s_l1Int] [(26,.el (.I .i64)),(29,.el .Y),(30,.el .Y)] .d Tryz.f139
 [⟨true,false,txE,[.rx,.rd,.rd],(some txD)⟩,⟨false,false,.I .i64,[.rd],none⟩] [(false,.L .Y)] x=Zes x:=by kernel_rfl
def e_s_l5Bytes:=eG Tryz.func139 (by kernel_rfl) h_s_l5Bytes
theorem h_s_l8Any x:fG [.gen e_s_l8Draw,.gen e_s_l1Below,.gen e_s_l3Any,.gen e_s_l5Bytes] [(25,.el .Y)] (.sq none .d (.sq none .d (.sq (some [.bx 0 [.K,.L (.I .i64),.L (.I
 .i64)],.kt 2,.bx 3 [.L (.I .i64),.O .Y]]) .d .d))) Tryz.f128 [⟨true,false,txE,[.rx,.rd,.rd],(some txD)⟩] [(true,txB)] x=Zcv x:=by kernel_rfl
def e_s_l8Any:=eG Tryz.func128 (by kernel_rfl) h_s_l8Any
theorem h_s_l9Any x:fG [.gen e_s_l9Draw,.gen e_s_l1Below,.gen e_s_l1Text,.gen e_s_l1Int,.gen e_s_l8Any] [(16,.el (.I .i64)),(37,.el .Y)] (.sq none .d (.sq none .d (.sq
 (some [.bx 0 [.K,.L (.I .i64),.L (.I .i64)],.kt 2,.bx 3 [.L .S,.L (.I .i64),.O .Y,.L (.I .i64),.O .Y,.L (.I .i64),.L .B]]) .d .d))) Tryz.f104 [⟨true,false,txE,[.rx,
 .rd,.rd],(some txD)⟩] [(true,txP)] x=Zcw x:=by kernel_rfl
def e_s_l9Any:=eG Tryz.func104 (by kernel_rfl) h_s_l9Any
theorem h_s_l1Num x:fG [.gen e_s_l1Int] [(4,.el (.I .i64))] .d Tryz.f105 [⟨true,false,txE,[.rx,.rd,.rd],(some txD)⟩] [(false,.I .i64)] x=Zy x:=by kernel_rfl
def e_s_l1Num:=eG Tryz.func105 (by kernel_rfl) h_s_l1Num
theorem h_s_l12Any x:fG [.gen e_s_l12Draw,.gen e_s_l1Below,.gen e_s_l9Any,.gen e_s_l1Int,.gen e_s_l1Num] [(18,.el txP),(19,.el txP),(24,.el (.I .i64)),(32,.el (.I
 .i64)),(37,.el (.I .i64)),(40,.el txF),(41,.el txF),(54,.el .Y),(57,.el .Y),(60,.el txP),(61,.el txP)] (.sq none .d (.sq none .d (.sq (some [.bx 0 [.K,.L (.I
 .i64),.L (.I .i64)],.kt 4,.bx 5 [.O txP,.L (.I .i64),.O txF]]) (.sq none .d (.bl (.sq none .d (.cd .d (.sq none .d (.cd .d (.sq none .d (.cd .d (.sq none .d (.cd (.sq none
 .d (.bl (.lp [.kt 0,.kt 4,.bx 5 [.O txP,.K,.K],.lt 6 (.I .i64)] .d))) .d)))))))))) .d))) Tryz.f76 [⟨true,false,txE,[.rx,.rd,.rd],(some txD)⟩,⟨false,false,.I .i64,
 [.rd],none⟩] [(true,txZ)] x=Zn x:=by kernel_rfl
def e_s_l12Any:=eG Tryz.func76 (by kernel_rfl) h_s_l12Any
theorem h_s_DrawTabOk x:fX [.cur e_s_l1New,.gen e_s_l12Any] [] .d Tryz.f28 [(false,.L .Y)] [(true,txZ)] x=Zeu x:=by kernel_rfl
def e_s_DrawTabOk:=eS Tryz.func28 (by kernel_rfl) h_s_DrawTabOk
theorem h_s_DrawRowAt x:fX [.cur e_s_l1New,.gen e_s_l12Any,.gen e_s_l1Name] [] .d Tryz.f29 [(false,.L .Y)] [(true,txZ),(false,.S)] x=Zev x:=by kernel_rfl
def e_s_DrawRowAt:=eS Tryz.func29 (by kernel_rfl) h_s_DrawRowAt
theorem h_s_DrawMarkAt x:fX [.cur e_s_l1New,.gen e_s_l12Any,.gen e_s_l1Below] [] .d Tryz.f30 [(false,.L .Y)] [(true,txZ),(false,.I .i64)] x=Zew x:=by
 kernel_rfl
def e_s_DrawMarkAt:=eS Tryz.func30 (by kernel_rfl) h_s_DrawMarkAt
theorem h_s_MarkAt x:fX [] [] (.sq none .d (.sq (some [.bx 4 [.L (.I .i64),.L (.I .i64),.L (.I .i64)]]) (.sq none .d (.bl (.lp [.kt 1,.kt 2,.bx 4 [.L (.I .i64),.L (.I .i64),
 .L (.I .i64)],.lt 6 (.I .i64)] .d))) .d)) Tryz.f31 [(true,txZ),(false,.I .i64)] [(true,txF),(false,.B)] x=Zex x:=by kernel_rfl
def e_s_MarkAt:=eS Tryz.func31 (by kernel_rfl) h_s_MarkAt
theorem h_s_l11Any x:fG [.gen e_s_l11Draw,.gen e_s_l1Below,.gen e_s_l9Any,.gen e_s_l1Text,.gen e_s_l1Int,.gen e_s_l1Num] [(26,.el (.I .i64)),(32,.el (.I .i64)),(43,.el
 (.I .i64))] (.sq none .d (.sq none .d (.sq (some [.bx 0 [.K,.L (.I .i64),.L (.I .i64)],.kt 2,.bx 3 [.L (.I .i64),.L .S,.L (.I .i64),.O .Y,.L (.I .i64),.O .Y,.L (.I
 .i64),.L .B,.L .S,.L (.I .i64),.L (.I .i64),.L (.I .i64),.L (.I .i64)]]) .d .d))) Tryz.f80 [⟨true,false,txE,[.rx,.rd,.rd],(some txD)⟩] [(true,txAa)] x=Zey x
 := by kernel_rfl
def e_s_l11Any:=eG Tryz.func80 (by kernel_rfl) h_s_l11Any
end
end Go.Vs
