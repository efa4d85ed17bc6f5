import Derived.Test.YtmfmjngkbddenaaGreatDoorVsPtk3
set_option linter.all false
namespace Go.Vs
open Go.Proofs
set_option maxRecDepth 100000
noncomputable section
theorem Ynb x:fX [.see Fn] [] .d Tryz.f261 [(false,.I .i64)] [(false,.I .i64),(false,.I .i64),(false,.B)] x=Zja x:=by kernel_rfl
def Yib:=eS Tryz.func261 (by kernel_rfl) Ynb
theorem Ymx x:fX [.see Fn,.see Yib] [(10,.el .Y),(12,.el .Y),(18,.el .Y),(19,.el .Y),(34,.el .Y),(35,.el .Y)] .d Tryz.f251 [(false,.L .Y),
 (false,.I .i64)] [(false,.L .Y),(false,.B)] x=Yk x:=by kernel_rfl
def Yh4:=eS Tryz.func251 (by kernel_rfl) Ymx
theorem Ym9 x:fX [.see Zlt] [] (.sq none .d (.sq (some []) (.sq none .d (.bl (.lp [.kt 0,.kt 1,.lt 6 (.I .i64)] .d))) .d)) Tryz.f252 [(false,.I .i64),
 (false,.I .i64)] [(false,.I .i64),(false,.B)] x=Zc8 x:=by kernel_rfl
def Yia:=eS Tryz.func252 (by kernel_rfl) Ym9
theorem Yoc x:fX [.see Zfg,.see Zly,.see Yh4,.see Yia] [(33,.el .Y),(35,.el .Y),(36,.el .Y),(38,.el .Y),(41,.el .Y),(42,.el
 .Y)] .d Tryz.f240 [(false,.I .i64),(false,.L .Y),(false,.I .i64)] [(false,.L .Y),(false,.B)] x=Yx x:=by kernel_rfl
def Yi0:=eS Tryz.func240 (by kernel_rfl) Yoc
theorem Ymp x:fX [.see Yic,.see Zl0,.see Yi0] [(12,.el .Y),(44,.el .Y)] (.sq none .d (.sq none .d (.sq none .d (.sq none .d (.sq (some [.ot 6 .Y])
 (.sq none .d (.bl (.lp [.kt 0,.ot 6 .Y,.kt 7,.lt 9 (.I .i64)] .d))) .d))))) Tryz.f231 [(false,.I .i64),(false,.S)] [(false,.L .Y),(false,.B)] x=Zc3 x:=by
 kernel_rfl
def Yhy:=eS Tryz.func231 (by kernel_rfl) Ymp
theorem Ymj x:fX [.see Yhy] [] .d Tryz.f223 [(false,.I .i64),(false,.S)] [(true,txC),(false,.B)] x=Uy x:=by kernel_rfl
def Zui:=eS Tryz.func223 (by kernel_rfl) Ymj
theorem Ym6 x:fX [.see Zui,.see Fn,.see Zlv] [] (.sq none .d (.sq none .d (.sq none .d (.sq none .d (.sq (some [.kt 1,.bx 8 [.L .S,.L (.I .i64),.O
 .Y,.L (.I .i64),.O .Y,.L (.I .i64),.L .B],.kt 10,.kt 12,.kt 13]) (.sq none .d (.bl (.sq (some [.kt 1,.kt 8,.kt 10,.kt 12,.kt 13,.kt 43,.lt 44 .B]) .d (.cd .d (.sq
 (some [.kt 1,.kt 8,.kt 10,.kt 12,.kt 13,.kt 43,.lt 53 .B]) .d .d))))) .d))))) Tryz.f195 [(false,.I .i64),(false,.S),(false,.I .i64),(false,.S)] [(true,txU),(false,
 .I .i64)] x=U1 x:=by kernel_rfl
def Yh8:=eS Tryz.func195 (by kernel_rfl) Ym6
theorem Ynf x:fX [.see Zlu,.see Zui,.see Zuv] [] .d Tryz.f226 [(true,txC),(false,.I .i64)] [(true,txC),(false,.B)] x=Yp x:=by
 kernel_rfl
def Yie:=eS Tryz.func226 (by kernel_rfl) Ynf
theorem Ymr x:fX [.see Zu,.see Zs,.see Zfh,.see Yie] [] .d Tryz.f197 [(true,txU)] [(true,txU)] x=Yi x:=by kernel_rfl
def Yh0:=eS Tryz.func197 (by kernel_rfl) Ymr
theorem Ymh x:fX [.see Zu,.see Zs,.see Zfh,.see Zl1] [] .d Tryz.f198 [(true,txU)] [(true,txU)] x=Yh x:=by kernel_rfl
def Yhu:=eS Tryz.func198 (by kernel_rfl) Ymh
theorem Yoh x:fG [.gen Yiv,.gen Zuu,.gen Od,.gen Yi2,.see Yh8,.gen Zt,.see Yh0,.see Yhu] [(18,.el .Y),
 (43,.el (.I .i64))] (.sq none .d (.sq none .d (.sq none .d (.sq none .d (.sq none .d (.sq (some [.kt 0,.kt 2,.bx 7 [.L .S,.L (.I .i64),.O .Y,.L (.I .i64),.O .Y,.L (.I
 .i64),.L .B]]) .d .d)))))) Tryz.f153 [⟨true,false,txH,[.rx,.rd,.rd],(some txE)⟩] [(true,txU)] x=Zdk x:=by kernel_rfl
def Yi3:=eG Tryz.func153 (by kernel_rfl) Yoh
theorem Yn1 x:fG [.gen Od] [] .d Tryz.f80 [⟨true,false,txH,[.rx,.rd,.rd],(some txE)⟩,⟨false,false,.I .i64,[.rd],none⟩] [(false,.B)] x=Yw x
 := by kernel_rfl
def Yir:=eG Tryz.func80 (by kernel_rfl) Yn1
theorem Ynk x:fG [.gen Od,.gen Yi3,.gen Zuu,.gen Yir,.gen Zt] [(37,.el (.I .i64))] (.sq none .d (.sq none .d (.sq (some [.bx 0
 [.K,.L (.I .i64),.L (.I .i64)],.kt 2,.bx 3 [.K,.L .S,.L (.I .i64),.O .Y,.L (.I .i64),.O .Y,.L (.I .i64),.L .B,.L .S,.L (.I .i64),.K,.K,.K]]) .d (.sq (some [.bx 0
 [.K,.L (.I .i64),.L (.I .i64)],.kt 2,.bx 3 [.K,.K,.K,.K,.K,.K,.K,.K,.K,.K,.L (.I .i64),.L (.I .i64),.L (.I .i64)]]) .d .d)))) Tryz.f82 [⟨true,false,txH,[.rx,
 .rd,.rd],(some txE)⟩] [(true,Db)] x=U5 x:=by kernel_rfl
def Zur:=eG Tryz.func82 (by kernel_rfl) Ynk
theorem Ynn x:fX [.see Zu] [(7,.el txI),(10,.el txI),(27,.el txU),(28,.el txU)] (.sq none .d (.sq none .d (.sq (some [.kt 2,.bx 3 [.O txU,.K,.K]]) (.sq
 none .d (.bl (.lp [.kt 1,.kt 2,.bx 3 [.O txU,.K,.K],.lt 4 (.I .i64)] .d))) .d))) Tryz.f121 [(true,Hb)] [(true,Hb)] x=Yq x:=by kernel_rfl
def Yij:=eS Tryz.func121 (by kernel_rfl) Ynn
end
end Go.Vs
