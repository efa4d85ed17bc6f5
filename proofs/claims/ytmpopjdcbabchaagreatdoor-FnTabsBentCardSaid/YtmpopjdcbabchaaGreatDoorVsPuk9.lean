import Derived.Test.YtmpopjdcbabchaaGreatDoorProg
import Derived.Test.YtmpopjdcbabchaaGreatDoorVsPuk8
set_option linter.all false
namespace Go.Vs
open Go.Proofs
set_option maxRecDepth 100000
noncomputable section
theorem h_s_DrawApply x:fX [.cur e_s_l1New,.gen e_s_l12Any,.gen e_s_l1Once,.gen e_s_l11Any,.gen e_s_l11Draw] [] .d Tryz.f32 [(false,.L .Y)] [(true,txZ),(true,txAa)] x =
 Zez x:=by kernel_rfl
def e_s_DrawApply:=eS Tryz.func32 (by kernel_rfl) h_s_DrawApply
theorem h_s_DrawSameTab x:fX [.cur e_s_l1New,.gen e_s_l12Any,.see e_s_l12Copy,.gen e_s_l1Below] [] (.sq none .d (.sq none .d (.sq none .d (.sq none .d (.sq (some [.bx 2 [.O
 txP,.L (.I .i64),.O txF],.bx 3 [.O txP,.L (.I .i64),.O txF],.kt 5,.bx 6 [.O txP,.L (.I .i64),.O txF]]) .d .d))))) Tryz.f33 [(false,.L .Y)] [(true,txZ),(true,txZ)] x
 = Zfa x:=by kernel_rfl
def e_s_DrawSameTab:=eS Tryz.func33 (by kernel_rfl) h_s_DrawSameTab
theorem h_s_DrawRecsOf x:fX [.cur e_s_l1New,.gen e_s_l12Any] [] .d Tryz.f34 [(false,.L .Y)] [(true,txZ)] x=Zfb x:=by kernel_rfl
def e_s_DrawRecsOf:=eS Tryz.func34 (by kernel_rfl) h_s_DrawRecsOf
theorem h_s_RecsOf x:fX [.see e_s_l9Copy] [(9,.el txAa),(25,.el txAa),(26,.el txAa),(54,.el txAa),(55,.el txAa)] (.sq none .d (.sq none .d (.sq (some [.kt 1,.ot 3
 txAa]) (.sq none .d (.bl (.lp [.kt 1,.ot 3 txAa,.lt 4 (.I .i64)] .d))) (.sq (some [.ot 3 txAa]) (.sq none .d (.bl (.lp [.kt 1,.ot 3 txAa,.lt 5 (.I .i64)] .d))) .d))))
 Tryz.f35 [(true,txZ)] [(false,.L txAa)] x=Zfc x:=by kernel_rfl
def e_s_RecsOf:=eS Tryz.func35 (by kernel_rfl) h_s_RecsOf
theorem h_l_sameRec x:fX [.see e_l_sameRow] [] .d Tryz.f36 [(true,txAa),(true,txAa)] [(false,.B)] x=Zfd x:=by kernel_rfl
def e_l_sameRec:=eS Tryz.func36 (by kernel_rfl) h_l_sameRec
theorem h_l_FnTabsBent x:fX [.see e_l_big,.see e_s_DrawTabOk,.see e_s_DrawRowAt,.see e_s_DrawMarkAt,.see e_i_MarkAt,.see e_s_MarkAt,.see e_s_DrawApply,.see e_i_Apply,.see
 e_s_Apply,.see e_s_DrawSameTab,.see e_s_DrawRecsOf,.see e_i_RecsOf,.see e_s_RecsOf,.see e_l_sameRec,.see e_i_TabOk,.see e_s_TabOk,.see e_i_RowAt,.see e_s_RowAt,.see
 e_l_sameTab,.see e_i_SameTab] [] (.sq none .d (.sq none .d (.sq none .d (.sq none .d (.sq none .d (.sq none .d (.sq none .d (.sq none .d (.sq none .d (.sq none .d (.sq none .d
 (.sq none .d (.sq none .d (.sq none .d (.sq none .d (.sq (some [.kt 3,.kt 4,.kt 5,.kt 8,.kt 9,.kt 10,.kt 11,.kt 14,.kt 15,.kt 16,.kt 17,.kt 18,.kt 19]) (.sq none .d
 (.bl (.lp [.kt 3,.kt 4,.kt 5,.kt 8,.kt 9,.kt 10,.kt 11,.kt 14,.kt 15,.kt 16,.kt 17,.kt 18,.kt 19,.kt 21,.kt 22,.lt 23 (.I .i64)] .d))) .d)))))))))))))))) Tryz.f6
 [(false,.L .Y)] [(false,.B)] x=Zgb x:=by kernel_rfl
def e_l_FnTabsBent:=eS Tryz.func6 (by kernel_rfl) h_l_FnTabsBent
end
end Go.Vs
