import Derived.Test.YtmfmjngkbddenaaGreatDoorVsW5
import Derived.Test.YtmfmjngkbddenaaGreatDoorVsW6
set_option linter.all false
namespace Go.Vs
noncomputable section
def N2:List UInt8:=[240,240,240,240,240,240,240,240,240,240,240,240,240,240,240,240,240,240,240,240,240,240,240,240,240,240,240,240,240,240,
 240,240,240,240,240,240,240,240,240,240,240,240,240,240,240,240,240,240,240,240,240,240,240,240,240,240,240,240,240,240,240,240,240,240,240,
 240,240,240,240,240,240,240,240,240,240,240,240,240,240,240,240,240,240,240,240,240,240,240,240,240,240,240,240,240,240,240,240,240,240,240,
 240,240,240,240,240,240,240,240,240,240,240,240,240,240,240,240,240,240,240,240,240,240,240,240,240,240,240,240,241,241,241,241,241,241,241,
 241,241,241,241,241,241,241,241,241,241,241,241,241,241,241,241,241,241,241,241,241,241,241,241,241,241,241,241,241,241,241,241,241,241,241,
 241,241,241,241,241,241,241,241,241,241,241,241,241,241,241,241,241,241,241,241,241,241,241,241,2,2,2,2,2,2,2,2,2,2,2,2,2,2,2,2,2,2,2,
 2,2,2,2,2,2,2,2,2,2,2,19,3,3,3,3,3,3,3,3,3,3,3,3,35,3,3,52,4,4,4,68,241,241,241,241,241,241,241,241,241,241,241]
def Sz:List UInt8:=[128,191,160,191,128,159,144,191,128,143,0,0,0,0,0,0,0,0,0,0,0,0,0,0,0,0,0,0,0,0,0,0]
instance glbI:Glb:=⟨[(0,N2),(1,Sz)]⟩
def al {β:Type}:Nat->Option β->Option β
 | 0,e=>e
 | n+1,e=>Px e (al n e)
theorem Vx {β:Type}(n:Nat) (e:Option β):al n e=e:=by induction n with
 | zero=>rfl
 | succ n ih=>rw[al,ih,Zmp]
abbrev B6:Type:=(Option Bool)
abbrev Uo:Type:=((Int) ⊕ Bool)
abbrev H4:Type:=(Int×(Int×Int))
abbrev G5:Type:=(List (List UInt8))
abbrev Zlr:Type:=(Int×(Int×Bool))
abbrev D4:Type:=(Int×(List UInt8))
abbrev C5:Type:=((List UInt8)×Int)
abbrev Ymx:Type:=(Bool×(Int×Bool))
abbrev Zwg:Type:=((List UInt8)×Bool)
abbrev Zen:Type:=(Option (Int×Bool))
abbrev Lv:Type:=(Option (List UInt8))
abbrev M6:Type:=((Int) ⊕ (Unit ⊕ Bool))
abbrev F1:Type:=(List H4)
abbrev Zwf:Type:=(Int×G5)
abbrev H3:Type:=(List D4)
abbrev Lu:Type:=((Int×Int) ⊕ (Int ⊕ Int))
abbrev Lt:Type:=(G5×Int)
abbrev Zlq:Type:=((List UInt8)×(Int×Int))
abbrev Ymw:Type:=(D4×Int)
abbrev I0:Type:=((List UInt8)×(Int×Bool))
abbrev Zwe:Type:=((List UInt8)×(List UInt8))
abbrev Iz:Type:=(Option Zlr)
abbrev Zem:Type:=(Option D4)
abbrev Ymv:Type:=(Option Ymx)
abbrev Zel:Type:=(Option Zwg)
abbrev Zlp:Type:=(Int×F1)
abbrev Un:Type:=(F1×Int)
abbrev Zwd:Type:=(Int×H3)
abbrev Zlo:Type:=(G5×(Int×Int))
abbrev Rg:Type:=(F1×Bool)
abbrev Zwc:Type:=(Option F1)
abbrev Ls:Type:=(H3×Int)
abbrev Zek:Type:=(Int×(Bool×D4))
abbrev Zwb:Type:=(D4×(Int×Bool))
abbrev Zej:Type:=(Option I0)
abbrev Zln:Type:=(F1×(Int×Int))
abbrev Zlm:Type:=(H3×(Int×Int))
abbrev Zwa:Type:=(G5×G5)
abbrev Yl:Type:=(F1×(Bool×Int))
abbrev Ymu:Type:=(H3×(Int×Bool))
abbrev Yk:Type:=(D4×D4)
abbrev Zv9:Type:=(Option Zwb)
abbrev Zei:Type:=(F1×H4)
abbrev Zv8:Type:=((Int×Int) ⊕ (Int ⊕ Lu))
abbrev Zv7:Type:=(C5 ⊕ ((List UInt8) ⊕ (List UInt8)))
abbrev Zv6:Type:=(F1×F1)
abbrev Ymt:Type:=(Int×(G5×H3))
abbrev Zv5:Type:=(H3×H3)
abbrev Zv4:Type:=(C5 ⊕ ((List UInt8) ⊕ Zwg))
abbrev J0:Type:=(G5×Ymu)
abbrev M5:Type:=(J0×Int)
abbrev Yms:Type:=(Option J0)
abbrev G4:Type:=((List UInt8)×(D4×Zwb))
abbrev Ef:Type:=(List G4)
abbrev Zv3:Type:=(Option G4)
abbrev Zv2:Type:=(Int×Ef)
abbrev Iy:Type:=(Ef×Int)
abbrev Um:Type:=(Ef×Bool)
abbrev Zv1:Type:=(Option Ef)
abbrev Ymr:Type:=(G4×(Int×Bool))
abbrev Ymq:Type:=((List UInt8)×((Int×Lv)×((Int×Lv)×(Int×Bool))))
abbrev Zll:Type:=(Ef×(Int×Int))
abbrev Pb:Type:=(List Ymq)
abbrev Zv0:Type:=(Option Ymr)
abbrev Zvz:Type:=(Int×(Int×((List UInt8)×(Int×(Int×(Int×(Bool×((List UInt8)×(Int×H4)))))))))
abbrev Zeh:Type:=(Int×((List UInt8)×(Int×(Int×(Int×(Bool×((List UInt8)×(Int×(Int×H4)))))))))
abbrev Ymp:Type:=(Bool×(Int×((List UInt8)×(Int×(Int×(Int×(Bool×((List UInt8)×(Int×H4)))))))))
abbrev Zvy:Type:=(Yl ⊕ (Rg ⊕ F1))
abbrev Zvx:Type:=((List UInt8)×(Int×((List UInt8)×(Int×((List UInt8)×(Int×(Bool×((List UInt8)×Zlr))))))))
abbrev Ymo:Type:=(Int×(Ef×F1))
abbrev Fd:Type:=(Ef×Zlp)
abbrev Zeg:Type:=(Fd×Int)
abbrev Ymn:Type:=(Fd×Bool)
abbrev Zvw:Type:=(Option Fd)
abbrev Pa:Type:=(Int×(G4×((List UInt8)×(Int×H4))))
abbrev Zvv:Type:=(Option Zeg)
abbrev Zvu:Type:=(Fd×(List UInt8))
abbrev Zvt:Type:=(Option Ymn)
abbrev Ymm:Type:=(Int×(Int×(Pa×Bool)))
abbrev Zvs:Type:=(G4×G4)
abbrev Zvr:Type:=(Option Ymm)
abbrev Zvq:Type:=(Ef×Ef)
abbrev tqZ:Type:=(Um ⊕ Ef)
abbrev tqY:Type:=(Pb×G4)
abbrev tqX:Type:=(Ef×(Int×((List UInt8)×(Int×(Int×(Int×(Bool×((List UInt8)×(Int×H4)))))))))
abbrev tqW:Type:=(Ef×(Bool×(Pb×Int)))
abbrev tqV:Type:=(Pb×(Ef×(Bool×Int)))
abbrev tqS:Type:=(Pb×Zeh)
abbrev tqL:Type:=(Pb×(Int×((List UInt8)×(Int×(Int×(Int×(Bool×((List UInt8)×(Int×(Int×(Int×H4)))))))))))
abbrev tqK:Type:=(Ef×Pa)
abbrev tqI:Type:=(Pb×Pa)
abbrev tqH:Type:=(Ef×(Int×(F1×Fd)))
abbrev tqG:Type:=(Ef×(Int×(F1×(Ef×(Int×Un)))))
abbrev tqF:Type:=(Fd×Pa)
abbrev tqE:Type:=(Iy ⊕ (Ef ⊕ Fd))
abbrev tqB:Type:=(tqG ⊕ (tqH ⊕ Zeg))
def U9 (x:C5):(Option Int):=(cnd (iLt (Ax .i64 x.2 (Af x.1)) 0) (some (-1)) (some (Ax .i64 x.2 (Af x.1))))
def Zxi (x:Lt):(Int×Int)->Option Lu:=fun (z1:(Int×Int))=>(cnd (iLt z1.2 (Af x.1)) (bnd (idx x.1 z1.2) (fun z2=>(bnd
 (U9 (z2,z1.1)) (fun z3=>(cnd (iLt z3 0) (some (.inr (.inr (-1)))) (some (.inl (z3,(Ai .i64 z1.2 1))))))))) (some (.inr (.inl z1.1))))
def Ze0 (x:Lt):(Option Int):=(cnd (iLt (Ax .i64 x.2 (Af x.1)) 0) (some (-1)) (Aq (Ar (Zxi x) ((Ax .i64 x.2 (Af x.1)),0))
 (fun (z1:Int)=>(some z1))))
def Zt (x:Ymw):(Option Int):=(bnd (U9 (x.1.2,x.2)) (fun z1=>(cnd (iLt z1 0) (some (-1)) (some z1))))
def Zxj (x:Ls):(Int×Int)->Option Lu:=fun (z1:(Int×Int))=>(cnd (iLt z1.2 (Af x.1)) (bnd (idx x.1 z1.2) (fun z2=>(bnd (Zt
 ((z2.1,z2.2),z1.1)) (fun z3=>(cnd (iLt z3 0) (some (.inr (.inr (-1)))) (some (.inl (z3,(Ai .i64 z1.2 1))))))))) (some (.inr (.inl z1.1))))
def Ze1 (x:Ls):(Option Int):=(cnd (iLt (Ax .i64 x.2 (Af x.1)) 0) (some (-1)) (Aq (Ar (Zxj x) ((Ax .i64 x.2 (Af x.1)),0)) (fun (z1
 : Int)=>(some z1))))
def Zs (x:M5):(Option Int):=(bnd (Ze0 (x.1.1,x.2)) (fun z1=>(cnd (iLt z1 0) (some (-1)) (bnd (Ze1 (x.1.2.1,z1)) (fun z2=>(cnd (iLt z2 0) (some (-1)) (some z2)))))))
def Zxl (x:(List UInt8)):C5->Option Zv7:=fun (z1:C5)=>(cnd (iLt z1.2 (Af x)) (bnd (idx x z1.2) (fun z2=>(bnd (idx z1.1 z1.2)
 (fun z3=>(some (.inl ((Am z1.1 (nOf z1.2) z2),(Ai .i64 z1.2 1)))))))) (some (.inr (.inl z1.1))))
def Rr (x:(List UInt8)):Lv:=(chk (iEq (Af x) (Af x)) (chk (Om (Af x) 1) (Aq (Ar (Zxl x) ((E7 (nOf (Af x)) 0),0)) (fun
 (z1:(List UInt8))=>(some z1)))))
def Zxk (x:G5):Lt->Option (Lt ⊕ (G5 ⊕ G5)):=fun (z1:Lt)=>(cnd (iLt z1.2 (Af x)) (bnd (idx x z1.2) (fun z2=>(bnd
 (Rr z2) (fun z3=>(bnd (idx z1.1 z1.2) (fun z4=>(some (.inl ((Am z1.1 (nOf z1.2) z3),(Ai .i64 z1.2 1)))))))))) (some (.inr
 (.inl z1.1))))
def Zu (x:G5):(Option G5):=(chk (iEq (Af x) (Af x)) (chk (Om (Af x) 24) (Aq (Ar (Zxk x) ((E7 (nOf (Af x)) []),0))
 (fun (z1:G5)=>(some z1)))))
def Zv (x:D4):Zem:=(bnd (Rr x.2) (fun z1=>(some (x.1,z1))))
def Zxm (x:H3):Ls->Option (Ls ⊕ (H3 ⊕ H3)):=fun (z1:Ls)=>(cnd (iLt z1.2 (Af x)) (bnd (idx x z1.2) (fun z2=>(bnd (Zv
 (z2.1,z2.2)) (fun z3=>(bnd (idx z1.1 z1.2) (fun z4=>(some (.inl ((Am z1.1 (nOf z1.2) (z3.1,z3.2)),(Ai .i64 z1.2 1)))))))))) (some (.inr (.inl
 z1.1))))
def Zw (x:H3):(Option H3):=(chk (iEq (Af x) (Af x)) (chk (Om (Af x) 32) (Aq (Ar (Zxm x) ((E7 (nOf (Af x)) (0,[])),0))
 (fun (z1:H3)=>(some z1)))))
def Pp (x:J0):Yms:=(bnd (Zu x.1) (fun z1=>(bnd (Zw x.2.1) (fun z2=>(some (z1,(z2,(x.2.2.1,x.2.2.2))))))))
def Vi (x:D4):Zem:=(chk (Bp (0+x.2.length) 1) (some (x.1,(A0 [] x.2))))
def Pu (x:G4):Zv3:=(bnd (Vi (x.2.1.1,x.2.1.2)) (fun z1=>(bnd (Vi (x.2.2.1.1,x.2.2.1.2)) (fun z2=>(some (x.1,
 ((z1.1,z1.2),((z2.1,z2.2),(x.2.2.2.1,x.2.2.2.2)))))))))
def Zxn (x:Fd):Iy->Option tqE:=fun (z1:Iy)=>(cnd (iLt z1.2 (Af x.1)) (bnd (idx x.1 z1.2) (fun z2=>(bnd (Pu (z2.1,
 ((z2.2.1.1,z2.2.1.2),((z2.2.2.1.1,z2.2.2.1.2),(z2.2.2.2.1,z2.2.2.2.2))))) (fun z3=>(chk (Bp (z1.1.length+1) 96) (some (.inl ((A0 z1.1 [(z3.1,((z3.2.1.1,
 z3.2.1.2),((z3.2.2.1.1,z3.2.2.1.2),(z3.2.2.2.1,z3.2.2.2.2))))]),(Ai .i64 z1.2 1))))))))) (some (.inr (.inl z1.1))))
def Vc (x:Fd):Zvw:=(al 2 (chk (Bp (0+x.2.2.length) 24) (Aq (Ar (Zxn x) ([],0)) (fun (z1:Ef)=>(some (z1,(x.2.1,(A0 []
 x.2.2))))))))
def B0 (x:H4):B6:=(cnd (iGe x.1 x.2.1) (some (iLe x.1 x.2.2)) (some false))
def Zao (x:J0):(Int)->Option M6:=fun (z1:Int)=>(cnd (iLt z1 (Af x.1)) (bnd (idx x.1 z1) (fun z2=>(cnd (iGt (Af z2) 120)
 (some (.inr (.inr false))) (some (.inl (Ai .i64 z1 1)))))) (some (.inr (.inl ()))))
def Zap (x:J0):(Int)->Option M6:=fun (z2:Int)=>(cnd (iLt z2 (Af x.2.1)) (bnd (idx x.2.1 z2) (fun z3=>(bnd (B0 (z3.1,(0,
 (Ax .i64 (Af x.1) 1)))) (fun z4=>(cnd (Ah z4) (some (.inr (.inr false))) (bnd (idx x.2.1 z2) (fun z5=>(cnd (iGt (Af z5.2) 120) (some (.inr (.inr
 false))) (some (.inl (Ai .i64 z2 1))))))))))) (some (.inr (.inl ()))))
def Zz (x:J0):B6:=(Aq (Ar (Zao x) 0) (fun (z1:Unit)=>(Aq (Ar (Zap x) 0) (fun (z2:Unit)=>(bnd (B0 ((Af
 x.1),(1,64))) (fun z3=>(cnd z3 (cnd (iLe (Af x.2.1) 40) (bnd (B0 (x.2.2.1,((-1),1000))) (fun z4=>(some z4))) (some false)) (some false))))))))
def Vr (x:(List UInt8)):(Int)->Option M6:=fun (z1:Int)=>(cnd (iLt z1 (Af x)) (bnd (idx x z1) (fun z2=>(bnd (B0 ((Ak .i64
 (y2i z2)),(97,122))) (fun z3=>(cnd (Ah z3) (bnd (idx x z1) (fun z4=>(bnd (B0 ((Ak .i64 (y2i z4)),(48,57))) (fun z5=>(cnd (Ah
 z5) (some (.inr (.inr false))) (some (.inl (Ai .i64 z1 1)))))))) (some (.inl (Ai .i64 z1 1)))))))) (some (.inr (.inl ()))))
def Ru (x:(List UInt8)):B6:=(Aq (Ar (Vr x) 0) (fun (z1:Unit)=>(bnd (B0 ((Af x),(1,6))) (fun z2=>(some z2)))))
def Di (x:G4):B6:=(some (iEq (Av .i64 x.2.2.2.1 1) 1))
def Nh (x:D4):B6:=(cnd (iEq x.1 0) (some (iEq (Af x.2) 0)) (some false))
def Cx (x:G4):B6:=(some (iEq (Av .i64 x.2.2.2.1 2) 2))
def Vh (x:Int):B6:=(bnd (B0 (x,(0,5))) (fun z1=>(some z1)))
def L2 (x:D4):B6:=(bnd (Vh x.1) (fun z1=>(cnd z1 (some (iLe (Af x.2) 20)) (some false))))
def Z7 (x:UInt8):(Option Int):=(cnd (iLt (y2i x) (y2i (u8 128))) (some 1) (bnd (B0 ((Ak .i64 (y2i x)),(194,223))) (fun z1=>(cnd z1
 (some 2) (bnd (B0 ((Ak .i64 (y2i x)),(224,239))) (fun z2=>(cnd z2 (some 3) (bnd (B0 ((Ak .i64 (y2i x)),(240,244))) (fun z3=>(cnd z3
 (some 4) (some 0)))))))))))
def Rx (x:Int):B6:=(bnd (B0 (x,(0,1114111))) (fun z1=>(cnd z1 (bnd (B0 (x,(55296,57343))) (fun z2=>(some (Ah
 z2)))) (some false))))
def Rv (x:C5):Lv:=(chk (Bp (0+x.1.length) 1) (bnd (Rx x.2) (fun z1=>(cnd (Ah z1) (some (A0 [] x.1)) (cnd (iLe x.2 127)
 (chk (Bp ((A0 [] x.1).length+1) 1) (some (A0 (A0 [] x.1) [(u8 (Ak .u8 x.2))]))) (cnd (iLe x.2 2047) (chk (Bp ((A0 [] x.1).length+2) 1) (some (A0 (A0 []
 x.1) [(u8 (Ak .u8 (iOr .i64 192 (B3 .i64 x.2 6)))),(u8 (Ak .u8 (iOr .i64 128 (Av .i64 x.2 63))))]))) (cnd (iLe x.2 65535) (chk (Bp ((A0 [] x.1).length+3) 1)
 (some (A0 (A0 [] x.1) [(u8 (Ak .u8 (iOr .i64 224 (B3 .i64 x.2 12)))),(u8 (Ak .u8 (iOr .i64 128 (Av .i64 (B3 .i64 x.2 6) 63)))),(u8 (Ak .u8 (iOr .i64 128
 (Av .i64 x.2 63))))]))) (chk (Bp ((A0 [] x.1).length+4) 1) (some (A0 (A0 [] x.1) [(u8 (Ak .u8 (iOr .i64 240 (B3 .i64 x.2 18)))),(u8 (Ak .u8 (iOr .i64 128
 (Av .i64 (B3 .i64 x.2 12) 63)))),(u8 (Ak .u8 (iOr .i64 128 (Av .i64 (B3 .i64 x.2 6) 63)))),(u8 (Ak .u8 (iOr .i64 128 (Av .i64 x.2 63))))]))))))))))
def L6 (x:C5) (z3:Int):(Int×Int)->Option ((Int×Int) ⊕ (Int ⊕ Zlr)):=fun (z6:(Int×Int))=>(cnd (iLt z6.2 z3) (bnd (idx x.1 (Ai .i64
 x.2 z6.2)) (fun z7=>(cnd (iNe (y2i (u8 (Av .u8 (y2i z7) (y2i (u8 192))))) (y2i (u8 128))) (some (.inr (.inr (0,(0,false))))) (bnd (idx x.1 (Ai .i64 x.2 z6.2))
 (fun z8=>(some (.inl ((iOr .i64 (Br .i64 z6.1 6) (Ak .i64 (y2i (u8 (Av .u8 (y2i z8) (y2i (u8 63))))))),(Ai .i64 z6.2 1))))))))) (some (.inr (.inl z6.1))))
def Z1 (x:C5):Iz:=(bnd (B0 (x.2,(0,(Ax .i64 (Af x.1) 1)))) (fun z1=>(cnd (Ah z1) (some (0,(0,false))) (bnd (idx x.1 x.2)
 (fun z2=>(bnd (Z7 z2) (fun z3=>(cnd (iEq z3 0) (some (0,(0,false))) (cnd (iGt z3 (Ax .i64 (Af x.1) x.2)) (some (0,(0,false))) (bnd (idx x.1
 x.2) (fun z4=>(Aq (cnd (iGt z3 1) (chk (iLe 0 (Ak .u64 z3)) (some (.inl (Av .i64 (Ak .i64 (y2i z4)) (B3 .i64 127 (Ak .u64 z3)))))) (some (.inl (Ak
 .i64 (y2i z4))))) (fun (z5:Int)=>(Aq (Ar (L6 x z3) (z5,1)) (fun (z6:Int)=>(bnd (Rx z6) (fun z7=>(cnd (Ah z7) (some (0,(0,false)))
 (bnd (Rv ([],z6)) (fun z8=>(chk (Co x.2 (Ai .i64 x.2 z3) (Af x.1)) (cnd (Ah (sEq z8 (A9 ((nOf (Ai .i64 x.2 z3))-(nOf x.2)) (C0
 (nOf x.2) x.1)))) (some (0,(0,false))) (some (z6,((Ai .i64 x.2 z3),true)))))))))))))))))))))))))
def Z3 (x:(Int×Int)):Zen:=(cnd (iEq x.1 164) (bnd (B0 (x.2,(161,243))) (fun z1=>(cnd z1 (some ((Ax .i64 (Ai .i64 12353 x.2)
 161),true)) (cnd (iEq x.1 165) (bnd (B0 (x.2,(161,246))) (fun z2=>(cnd z2 (some ((Ax .i64 (Ai .i64 12449 x.2) 161),true)) (some (0,false))))) (some (0,
 false)))))) (cnd (iEq x.1 165) (bnd (B0 (x.2,(161,246))) (fun z1=>(cnd z1 (some ((Ax .i64 (Ai .i64 12449 x.2) 161),true)) (some (0,false))))) (some (0,
 false))))
def Z0 (x:C5):Iz:=(bnd (B0 (x.2,(0,(Ax .i64 (Af x.1) 1)))) (fun z1=>(cnd (Ah z1) (some (0,(0,false))) (bnd (idx x.1 x.2)
 (fun z2=>(cnd (iLt (y2i z2) (y2i (u8 128))) (bnd (idx x.1 x.2) (fun z3=>(some ((Ak .i64 (y2i z3)),((Ai .i64 x.2 1),true))))) (cnd (iGe (Ai .i64
 x.2 1) (Af x.1)) (some (0,(0,false))) (bnd (idx x.1 x.2) (fun z3=>(bnd (idx x.1 (Ai .i64 x.2 1)) (fun z4=>(bnd (Z3 ((Ak .i64 (y2i z3)),
 (Ak .i64 (y2i z4)))) (fun z5=>(cnd (Ah z5.2) (some (0,(0,false))) (some (z5.1,((Ai .i64 x.2 2),true)))))))))))))))))
def Zme (x:Int):(Option Int):=(cnd (iEq x 164) (some 8364) (cnd (iEq x 166) (some 352) (cnd (iEq x 168) (some 353) (cnd (iEq x 180) (some 381) (cnd (iEq
 x 184) (some 382) (cnd (iEq x 188) (some 338) (cnd (iEq x 189) (some 339) (cnd (iEq x 190) (some 376) (some x)))))))))
def Zmd (x:Int):(Option Int):=(cnd (iGe x 224) (bnd (idx [1102,1072,1073,1094,1076,1077,1092,1075,1093,1080,1081,1082,1083,1084,1085,1086,
 1087,1103,1088,1089,1090,1091,1078,1074,1100,1099,1079,1096,1101,1097,1095,1098] (Ax .i64 x 224)) (fun z1=>(some (Ax .i64 z1 32)))) (cnd (iGe x 192)
 (bnd (idx [1102,1072,1073,1094,1076,1077,1092,1075,1093,1080,1081,1082,1083,1084,1085,1086,1087,1103,1088,1089,1090,1091,1078,1074,1100,1099,1079,1096,
 1101,1097,1095,1098] (Ax .i64 x 192)) (fun z1=>(some z1))) (cnd (iEq x 163) (some 1105) (cnd (iEq x 179) (some 1025) (some (-1))))))
def Zmf (x:Int):(Option Int):=(cnd (iGe x 160) (some x) (bnd (idx [8364,(-1),8218,402,8222,8230,8224,8225,710,8240,352,8249,338,(-1),381,
 (-1),(-1),8216,8217,8220,8221,8226,8211,8212,732,8482,353,8250,339,(-1),382,376] (Ax .i64 x 128)) (fun z1=>(some z1))))
def Pq (x:(Int×Int)):Zen:=(bnd (B0 (x.1,(1,4))) (fun z1=>(cnd (Ah z1) (some (0,false)) (bnd (B0 (x.2,(0,255))) (fun
 z2=>(cnd (Ah z2) (some (0,false)) (Aq (cnd (iGe x.2 128) (cnd (iEq x.1 2) (bnd (Zme x.2) (fun z3=>(some (.inl z3)))) (cnd (iEq x.1 3) (bnd
 (Zmd x.2) (fun z3=>(some (.inl z3)))) (cnd (iEq x.1 4) (bnd (Zmf x.2) (fun z3=>(some (.inl z3)))) (some (.inl x.2))))) (some (.inl x.2))) (fun (z3
 : Int)=>(cnd (iLt z3 0) (some (0,false)) (some (z3,true)))))))))))
def Z8 (x:(Int×C5)):Iz:=(cnd (iEq x.1 0) (bnd (Z1 (x.2.1,x.2.2)) (fun z1=>(some (z1.1,(z1.2.1,z1.2.2))))) (cnd (iEq x.1 5)
 (bnd (Z0 (x.2.1,x.2.2)) (fun z1=>(some (z1.1,(z1.2.1,z1.2.2))))) (bnd (idx x.2.1 x.2.2) (fun z1=>(bnd (Pq (x.1,(Ak .i64 (y2i
 z1)))) (fun z2=>(some (z2.1,((Ai .i64 x.2.2 1),z2.2)))))))))
def Zfh (x:D4):C5->Option Zv4:=fun (z2:C5)=>(cnd (iLt z2.2 (Af x.2)) (bnd (Z8 (x.1,(x.2,z2.2))) (fun z3=>(cnd (Ah
 z3.2.2) (some (.inr (.inr ([],false)))) (bnd (Rv (z2.1,z3.1)) (fun z4=>(some (.inl (z4,z3.2.1)))))))) (some (.inr (.inl z2.1))))
def Zy (x:D4):Zel:=(bnd (Vh x.1) (fun z1=>(cnd (Ah z1) (some ([],false)) (Aq (Ar (Zfh x) ([],0)) (fun (z2:(List
 UInt8))=>(some (z2,true)))))))
def Hs (x:D4):Zel:=(bnd (L2 (x.1,x.2)) (fun z1=>(cnd (Ah z1) (some ([],false)) (bnd (Zy (x.1,x.2)) (fun z2
 => (some (z2.1,z2.2)))))))
def Bo (x:Yk):B6:=(bnd (Hs (x.1.1,x.1.2)) (fun z1=>(bnd (Hs (x.2.1,x.2.2)) (fun z2=>(cnd z1.2 (cnd
 z2.2 (some (sEq z1.1 z2.1)) (some false)) (some false))))))
def Pr (x:G4):B6:=(bnd (Ru x.1) (fun z1=>(cnd (Ah z1) (some false) (bnd (B0 (x.2.2.2.1,(1,3))) (fun z2=>(cnd
 (Ah z2) (some false) (bnd (Di (x.1,((x.2.1.1,x.2.1.2),((x.2.2.1.1,x.2.2.1.2),(x.2.2.2.1,x.2.2.2.2))))) (fun z3=>(cnd (Ah z3) (bnd (Nh
 (x.2.1.1,x.2.1.2)) (fun z4=>(cnd (Ah z4) (some false) (bnd (Cx (x.1,((x.2.1.1,x.2.1.2),((x.2.2.1.1,x.2.2.1.2),(x.2.2.2.1,x.2.2.2.2))))) (fun z5=>(cnd (Ah z5) (bnd (Nh (x.2.2.1.1,x.2.2.1.2)) (fun z6=>(cnd (Ah z6) (some false) (bnd (Hs (x.2.1.1,x.2.1.2)) (fun z7=>(bnd
 (Hs (x.2.2.1.1,x.2.2.1.2)) (fun z8=>(bnd (Di (x.1,((x.2.1.1,x.2.1.2),((x.2.2.1.1,x.2.2.1.2),(x.2.2.2.1,x.2.2.2.2))))) (fun z9=>(cnd
 z9 (bnd (B0 (x.2.1.1,(1,5))) (fun z10=>(cnd (Ah z10) (some false) (bnd (L2 (x.2.1.1,x.2.1.2)) (fun z11=>(cnd (Ah z11) (some false) (bnd
 (Cx (x.1,((x.2.1.1,x.2.1.2),((x.2.2.1.1,x.2.2.1.2),(x.2.2.2.1,x.2.2.2.2))))) (fun z12=>(cnd z12 (cnd (iNe x.2.2.1.1 0) (some false) (cnd (Ah z8.2) (some
 false) (bnd (Di (x.1,((x.2.1.1,x.2.1.2),((x.2.2.1.1,x.2.2.1.2),(x.2.2.2.1,x.2.2.2.2))))) (fun z13=>(cnd z13 (cnd (Ah z7.2) (cnd (Ah x.2.2.2.2) (some
 false) (bnd (Cx (x.1,((x.2.1.1,x.2.1.2),((x.2.2.1.1,x.2.2.1.2),(x.2.2.2.1,x.2.2.2.2))))) (fun z14=>(cnd z14 (some false) (cnd (iNe x.2.2.2.1 3) (some
 true) (bnd (Bo ((x.2.1.1,x.2.1.2),(x.2.2.1.1,x.2.2.1.2))) (fun z15=>(some z15)))))))) (cnd (iNe x.2.2.2.1 3) (some true) (bnd (Bo ((x.2.1.1,
 x.2.1.2),(x.2.2.1.1,x.2.2.1.2))) (fun z14=>(some z14))))) (cnd (iNe x.2.2.2.1 3) (some true) (bnd (Bo ((x.2.1.1,x.2.1.2),(x.2.2.1.1,x.2.2.1.2))) (fun
 z14=>(some z14))))))))) (bnd (Di (x.1,((x.2.1.1,x.2.1.2),((x.2.2.1.1,x.2.2.1.2),(x.2.2.2.1,x.2.2.2.2))))) (fun z13=>(cnd z13 (cnd (Ah z7.2)
 (cnd (Ah x.2.2.2.2) (some false) (bnd (Cx (x.1,((x.2.1.1,x.2.1.2),((x.2.2.1.1,x.2.2.1.2),(x.2.2.2.1,x.2.2.2.2))))) (fun z14=>(cnd z14 (some false) (cnd
 (iNe x.2.2.2.1 3) (some true) (bnd (Bo ((x.2.1.1,x.2.1.2),(x.2.2.1.1,x.2.2.1.2))) (fun z15=>(some z15)))))))) (cnd (iNe x.2.2.2.1 3) (some true) (bnd
 (Bo ((x.2.1.1,x.2.1.2),(x.2.2.1.1,x.2.2.1.2))) (fun z14=>(some z14))))) (cnd (iNe x.2.2.2.1 3) (some true) (bnd (Bo ((x.2.1.1,x.2.1.2),
 (x.2.2.1.1,x.2.2.1.2))) (fun z14=>(some z14)))))))))))))))) (bnd (Cx (x.1,((x.2.1.1,x.2.1.2),((x.2.2.1.1,x.2.2.1.2),(x.2.2.2.1,x.2.2.2.2))))) (fun z10=>(cnd z10 (cnd (iNe x.2.2.1.1 0) (some false) (cnd (Ah z8.2) (some false) (bnd (Di (x.1,((x.2.1.1,x.2.1.2),((x.2.2.1.1,x.2.2.1.2),(x.2.2.2.1,x.2.2.2.2)))))
 (fun z11=>(cnd z11 (cnd (Ah z7.2) (cnd (Ah x.2.2.2.2) (some false) (bnd (Cx (x.1,((x.2.1.1,x.2.1.2),((x.2.2.1.1,x.2.2.1.2),(x.2.2.2.1,x.2.2.2.2)))))
 (fun z12=>(cnd z12 (some false) (cnd (iNe x.2.2.2.1 3) (some true) (bnd (Bo ((x.2.1.1,x.2.1.2),(x.2.2.1.1,x.2.2.1.2))) (fun z13=>(some
 z13)))))))) (cnd (iNe x.2.2.2.1 3) (some true) (bnd (Bo ((x.2.1.1,x.2.1.2),(x.2.2.1.1,x.2.2.1.2))) (fun z12=>(some z12))))) (cnd (iNe x.2.2.2.1 3) (some
 true) (bnd (Bo ((x.2.1.1,x.2.1.2),(x.2.2.1.1,x.2.2.1.2))) (fun z12=>(some z12))))))))) (bnd (Di (x.1,((x.2.1.1,x.2.1.2),((x.2.2.1.1,x.2.2.1.2),
 (x.2.2.2.1,x.2.2.2.2))))) (fun z11=>(cnd z11 (cnd (Ah z7.2) (cnd (Ah x.2.2.2.2) (some false) (bnd (Cx (x.1,((x.2.1.1,x.2.1.2),((x.2.2.1.1,x.2.2.1.2),
 (x.2.2.2.1,x.2.2.2.2))))) (fun z12=>(cnd z12 (some false) (cnd (iNe x.2.2.2.1 3) (some true) (bnd (Bo ((x.2.1.1,x.2.1.2),(x.2.2.1.1,x.2.2.1.2))) (fun
 z13=>(some z13)))))))) (cnd (iNe x.2.2.2.1 3) (some true) (bnd (Bo ((x.2.1.1,x.2.1.2),(x.2.2.1.1,x.2.2.1.2))) (fun z12=>(some z12))))) (cnd
 (iNe x.2.2.2.1 3) (some true) (bnd (Bo ((x.2.1.1,x.2.1.2),(x.2.2.1.1,x.2.2.1.2))) (fun z12=>(some z12)))))))))))))))))))) (bnd (Hs (x.2.1.1,
 x.2.1.2)) (fun z6=>(bnd (Hs (x.2.2.1.1,x.2.2.1.2)) (fun z7=>(bnd (Di (x.1,((x.2.1.1,x.2.1.2),((x.2.2.1.1,x.2.2.1.2),(x.2.2.2.1,
 x.2.2.2.2))))) (fun z8=>(cnd z8 (bnd (B0 (x.2.1.1,(1,5))) (fun z9=>(cnd (Ah z9) (some false) (bnd (L2 (x.2.1.1,x.2.1.2)) (fun z10=>(cnd (Ah z10) (some false) (bnd (Cx (x.1,((x.2.1.1,x.2.1.2),((x.2.2.1.1,x.2.2.1.2),(x.2.2.2.1,x.2.2.2.2))))) (fun z11=>(cnd z11 (cnd (iNe
 x.2.2.1.1 0) (some false) (cnd (Ah z7.2) (some false) (bnd (Di (x.1,((x.2.1.1,x.2.1.2),((x.2.2.1.1,x.2.2.1.2),(x.2.2.2.1,x.2.2.2.2))))) (fun z12=>(cnd
 z12 (cnd (Ah z6.2) (cnd (Ah x.2.2.2.2) (some false) (bnd (Cx (x.1,((x.2.1.1,x.2.1.2),((x.2.2.1.1,x.2.2.1.2),(x.2.2.2.1,x.2.2.2.2))))) (fun z13=>(cnd
 z13 (some false) (cnd (iNe x.2.2.2.1 3) (some true) (bnd (Bo ((x.2.1.1,x.2.1.2),(x.2.2.1.1,x.2.2.1.2))) (fun z14=>(some z14)))))))) (cnd (iNe x.2.2.2.1 3)
 (some true) (bnd (Bo ((x.2.1.1,x.2.1.2),(x.2.2.1.1,x.2.2.1.2))) (fun z13=>(some z13))))) (cnd (iNe x.2.2.2.1 3) (some true) (bnd (Bo ((x.2.1.1,
 x.2.1.2),(x.2.2.1.1,x.2.2.1.2))) (fun z13=>(some z13))))))))) (bnd (Di (x.1,((x.2.1.1,x.2.1.2),((x.2.2.1.1,x.2.2.1.2),(x.2.2.2.1,x.2.2.2.2))))) (fun
 z12=>(cnd z12 (cnd (Ah z6.2) (cnd (Ah x.2.2.2.2) (some false) (bnd (Cx (x.1,((x.2.1.1,x.2.1.2),((x.2.2.1.1,x.2.2.1.2),(x.2.2.2.1,x.2.2.2.2))))) (fun
 z13=>(cnd z13 (some false) (cnd (iNe x.2.2.2.1 3) (some true) (bnd (Bo ((x.2.1.1,x.2.1.2),(x.2.2.1.1,x.2.2.1.2))) (fun z14=>(some z14))))))))
 (cnd (iNe x.2.2.2.1 3) (some true) (bnd (Bo ((x.2.1.1,x.2.1.2),(x.2.2.1.1,x.2.2.1.2))) (fun z13=>(some z13))))) (cnd (iNe x.2.2.2.1 3) (some true) (bnd
 (Bo ((x.2.1.1,x.2.1.2),(x.2.2.1.1,x.2.2.1.2))) (fun z13=>(some z13)))))))))))))))) (bnd (Cx (x.1,((x.2.1.1,x.2.1.2),((x.2.2.1.1,x.2.2.1.2),
 (x.2.2.2.1,x.2.2.2.2))))) (fun z9=>(cnd z9 (cnd (iNe x.2.2.1.1 0) (some false) (cnd (Ah z7.2) (some false) (bnd (Di (x.1,((x.2.1.1,x.2.1.2),((x.2.2.1.1,
 x.2.2.1.2),(x.2.2.2.1,x.2.2.2.2))))) (fun z10=>(cnd z10 (cnd (Ah z6.2) (cnd (Ah x.2.2.2.2) (some false) (bnd (Cx (x.1,((x.2.1.1,x.2.1.2),((x.2.2.1.1,
 x.2.2.1.2),(x.2.2.2.1,x.2.2.2.2))))) (fun z11=>(cnd z11 (some false) (cnd (iNe x.2.2.2.1 3) (some true) (bnd (Bo ((x.2.1.1,x.2.1.2),(x.2.2.1.1,
 x.2.2.1.2))) (fun z12=>(some z12)))))))) (cnd (iNe x.2.2.2.1 3) (some true) (bnd (Bo ((x.2.1.1,x.2.1.2),(x.2.2.1.1,x.2.2.1.2))) (fun z11=>(some
 z11))))) (cnd (iNe x.2.2.2.1 3) (some true) (bnd (Bo ((x.2.1.1,x.2.1.2),(x.2.2.1.1,x.2.2.1.2))) (fun z11=>(some z11))))))))) (bnd (Di (x.1,
 ((x.2.1.1,x.2.1.2),((x.2.2.1.1,x.2.2.1.2),(x.2.2.2.1,x.2.2.2.2))))) (fun z10=>(cnd z10 (cnd (Ah z6.2) (cnd (Ah x.2.2.2.2) (some false) (bnd (Cx (x.1,
 ((x.2.1.1,x.2.1.2),((x.2.2.1.1,x.2.2.1.2),(x.2.2.2.1,x.2.2.2.2))))) (fun z11=>(cnd z11 (some false) (cnd (iNe x.2.2.2.1 3) (some true) (bnd (Bo
 ((x.2.1.1,x.2.1.2),(x.2.2.1.1,x.2.2.1.2))) (fun z12=>(some z12)))))))) (cnd (iNe x.2.2.2.1 3) (some true) (bnd (Bo ((x.2.1.1,x.2.1.2),(x.2.2.1.1,
 x.2.2.1.2))) (fun z11=>(some z11))))) (cnd (iNe x.2.2.2.1 3) (some true) (bnd (Bo ((x.2.1.1,x.2.1.2),(x.2.2.1.1,x.2.2.1.2))) (fun z11=>(some
 z11))))))))))))))))))))))) (bnd (Cx (x.1,((x.2.1.1,x.2.1.2),((x.2.2.1.1,x.2.2.1.2),(x.2.2.2.1,x.2.2.2.2))))) (fun z4=>(cnd (Ah z4) (bnd (Nh
 (x.2.2.1.1,x.2.2.1.2)) (fun z5=>(cnd (Ah z5) (some false) (bnd (Hs (x.2.1.1,x.2.1.2)) (fun z6=>(bnd (Hs (x.2.2.1.1,x.2.2.1.2)) (fun
 z7=>(bnd (Di (x.1,((x.2.1.1,x.2.1.2),((x.2.2.1.1,x.2.2.1.2),(x.2.2.2.1,x.2.2.2.2))))) (fun z8=>(cnd z8 (bnd (B0 (x.2.1.1,(1,5))) (fun
 z9=>(cnd (Ah z9) (some false) (bnd (L2 (x.2.1.1,x.2.1.2)) (fun z10=>(cnd (Ah z10) (some false) (bnd (Cx (x.1,((x.2.1.1,x.2.1.2),
 ((x.2.2.1.1,x.2.2.1.2),(x.2.2.2.1,x.2.2.2.2))))) (fun z11=>(cnd z11 (cnd (iNe x.2.2.1.1 0) (some false) (cnd (Ah z7.2) (some false) (bnd (Di (x.1,
 ((x.2.1.1,x.2.1.2),((x.2.2.1.1,x.2.2.1.2),(x.2.2.2.1,x.2.2.2.2))))) (fun z12=>(cnd z12 (cnd (Ah z6.2) (cnd (Ah x.2.2.2.2) (some false) (bnd (Cx (x.1,
 ((x.2.1.1,x.2.1.2),((x.2.2.1.1,x.2.2.1.2),(x.2.2.2.1,x.2.2.2.2))))) (fun z13=>(cnd z13 (some false) (cnd (iNe x.2.2.2.1 3) (some true) (bnd (Bo
 ((x.2.1.1,x.2.1.2),(x.2.2.1.1,x.2.2.1.2))) (fun z14=>(some z14)))))))) (cnd (iNe x.2.2.2.1 3) (some true) (bnd (Bo ((x.2.1.1,x.2.1.2),(x.2.2.1.1,
 x.2.2.1.2))) (fun z13=>(some z13))))) (cnd (iNe x.2.2.2.1 3) (some true) (bnd (Bo ((x.2.1.1,x.2.1.2),(x.2.2.1.1,x.2.2.1.2))) (fun z13=>(some
 z13))))))))) (bnd (Di (x.1,((x.2.1.1,x.2.1.2),((x.2.2.1.1,x.2.2.1.2),(x.2.2.2.1,x.2.2.2.2))))) (fun z12=>(cnd z12 (cnd (Ah z6.2) (cnd (Ah x.2.2.2.2)
 (some false) (bnd (Cx (x.1,((x.2.1.1,x.2.1.2),((x.2.2.1.1,x.2.2.1.2),(x.2.2.2.1,x.2.2.2.2))))) (fun z13=>(cnd z13 (some false) (cnd (iNe x.2.2.2.1 3)
 (some true) (bnd (Bo ((x.2.1.1,x.2.1.2),(x.2.2.1.1,x.2.2.1.2))) (fun z14=>(some z14)))))))) (cnd (iNe x.2.2.2.1 3) (some true) (bnd (Bo
 ((x.2.1.1,x.2.1.2),(x.2.2.1.1,x.2.2.1.2))) (fun z13=>(some z13))))) (cnd (iNe x.2.2.2.1 3) (some true) (bnd (Bo ((x.2.1.1,x.2.1.2),(x.2.2.1.1,
 x.2.2.1.2))) (fun z13=>(some z13)))))))))))))))) (bnd (Cx (x.1,((x.2.1.1,x.2.1.2),((x.2.2.1.1,x.2.2.1.2),(x.2.2.2.1,x.2.2.2.2))))) (fun z9 =>
 (cnd z9 (cnd (iNe x.2.2.1.1 0) (some false) (cnd (Ah z7.2) (some false) (bnd (Di (x.1,((x.2.1.1,x.2.1.2),((x.2.2.1.1,x.2.2.1.2),(x.2.2.2.1,x.2.2.2.2))))) (fun z10=>(cnd z10 (cnd (Ah z6.2) (cnd (Ah x.2.2.2.2) (some false) (bnd (Cx (x.1,((x.2.1.1,x.2.1.2),((x.2.2.1.1,x.2.2.1.2),(x.2.2.2.1,x.2.2.2.2))))) (fun z11=>(cnd z11 (some false) (cnd (iNe x.2.2.2.1 3) (some true) (bnd (Bo ((x.2.1.1,x.2.1.2),(x.2.2.1.1,x.2.2.1.2))) (fun z12=>(some z12)))))))) (cnd
 (iNe x.2.2.2.1 3) (some true) (bnd (Bo ((x.2.1.1,x.2.1.2),(x.2.2.1.1,x.2.2.1.2))) (fun z11=>(some z11))))) (cnd (iNe x.2.2.2.1 3) (some true) (bnd
 (Bo ((x.2.1.1,x.2.1.2),(x.2.2.1.1,x.2.2.1.2))) (fun z11=>(some z11))))))))) (bnd (Di (x.1,((x.2.1.1,x.2.1.2),((x.2.2.1.1,x.2.2.1.2),
 (x.2.2.2.1,x.2.2.2.2))))) (fun z10=>(cnd z10 (cnd (Ah z6.2) (cnd (Ah x.2.2.2.2) (some false) (bnd (Cx (x.1,((x.2.1.1,x.2.1.2),((x.2.2.1.1,x.2.2.1.2),
 (x.2.2.2.1,x.2.2.2.2))))) (fun z11=>(cnd z11 (some false) (cnd (iNe x.2.2.2.1 3) (some true) (bnd (Bo ((x.2.1.1,x.2.1.2),(x.2.2.1.1,x.2.2.1.2))) (fun
 z12=>(some z12)))))))) (cnd (iNe x.2.2.2.1 3) (some true) (bnd (Bo ((x.2.1.1,x.2.1.2),(x.2.2.1.1,x.2.2.1.2))) (fun z11=>(some z11))))) (cnd
 (iNe x.2.2.2.1 3) (some true) (bnd (Bo ((x.2.1.1,x.2.1.2),(x.2.2.1.1,x.2.2.1.2))) (fun z11=>(some z11)))))))))))))))))))) (bnd (Hs (x.2.1.1,
 x.2.1.2)) (fun z5=>(bnd (Hs (x.2.2.1.1,x.2.2.1.2)) (fun z6=>(bnd (Di (x.1,((x.2.1.1,x.2.1.2),((x.2.2.1.1,x.2.2.1.2),(x.2.2.2.1,
 x.2.2.2.2))))) (fun z7=>(cnd z7 (bnd (B0 (x.2.1.1,(1,5))) (fun z8=>(cnd (Ah z8) (some false) (bnd (L2 (x.2.1.1,x.2.1.2)) (fun z9
 => (cnd (Ah z9) (some false) (bnd (Cx (x.1,((x.2.1.1,x.2.1.2),((x.2.2.1.1,x.2.2.1.2),(x.2.2.2.1,x.2.2.2.2))))) (fun z10=>(cnd z10 (cnd (iNe x.2.2.1.1 0)
 (some false) (cnd (Ah z6.2) (some false) (bnd (Di (x.1,((x.2.1.1,x.2.1.2),((x.2.2.1.1,x.2.2.1.2),(x.2.2.2.1,x.2.2.2.2))))) (fun z11=>(cnd z11 (cnd (Ah
 z5.2) (cnd (Ah x.2.2.2.2) (some false) (bnd (Cx (x.1,((x.2.1.1,x.2.1.2),((x.2.2.1.1,x.2.2.1.2),(x.2.2.2.1,x.2.2.2.2))))) (fun z12=>(cnd z12 (some false)
 (cnd (iNe x.2.2.2.1 3) (some true) (bnd (Bo ((x.2.1.1,x.2.1.2),(x.2.2.1.1,x.2.2.1.2))) (fun z13=>(some z13)))))))) (cnd (iNe x.2.2.2.1 3) (some true) (bnd
 (Bo ((x.2.1.1,x.2.1.2),(x.2.2.1.1,x.2.2.1.2))) (fun z12=>(some z12))))) (cnd (iNe x.2.2.2.1 3) (some true) (bnd (Bo ((x.2.1.1,x.2.1.2),
 (x.2.2.1.1,x.2.2.1.2))) (fun z12=>(some z12))))))))) (bnd (Di (x.1,((x.2.1.1,x.2.1.2),((x.2.2.1.1,x.2.2.1.2),(x.2.2.2.1,x.2.2.2.2))))) (fun z11
 => (cnd z11 (cnd (Ah z5.2) (cnd (Ah x.2.2.2.2) (some false) (bnd (Cx (x.1,((x.2.1.1,x.2.1.2),((x.2.2.1.1,x.2.2.1.2),(x.2.2.2.1,x.2.2.2.2))))) (fun z12
 => (cnd z12 (some false) (cnd (iNe x.2.2.2.1 3) (some true) (bnd (Bo ((x.2.1.1,x.2.1.2),(x.2.2.1.1,x.2.2.1.2))) (fun z13=>(some z13)))))))) (cnd (iNe
 x.2.2.2.1 3) (some true) (bnd (Bo ((x.2.1.1,x.2.1.2),(x.2.2.1.1,x.2.2.1.2))) (fun z12=>(some z12))))) (cnd (iNe x.2.2.2.1 3) (some true) (bnd
 (Bo ((x.2.1.1,x.2.1.2),(x.2.2.1.1,x.2.2.1.2))) (fun z12=>(some z12)))))))))))))))) (bnd (Cx (x.1,((x.2.1.1,x.2.1.2),((x.2.2.1.1,x.2.2.1.2),
 (x.2.2.2.1,x.2.2.2.2))))) (fun z8=>(cnd z8 (cnd (iNe x.2.2.1.1 0) (some false) (cnd (Ah z6.2) (some false) (bnd (Di (x.1,((x.2.1.1,x.2.1.2),((x.2.2.1.1,
 x.2.2.1.2),(x.2.2.2.1,x.2.2.2.2))))) (fun z9=>(cnd z9 (cnd (Ah z5.2) (cnd (Ah x.2.2.2.2) (some false) (bnd (Cx (x.1,((x.2.1.1,x.2.1.2),((x.2.2.1.1,
 x.2.2.1.2),(x.2.2.2.1,x.2.2.2.2))))) (fun z10=>(cnd z10 (some false) (cnd (iNe x.2.2.2.1 3) (some true) (bnd (Bo ((x.2.1.1,x.2.1.2),(x.2.2.1.1,
 x.2.2.1.2))) (fun z11=>(some z11)))))))) (cnd (iNe x.2.2.2.1 3) (some true) (bnd (Bo ((x.2.1.1,x.2.1.2),(x.2.2.1.1,x.2.2.1.2))) (fun z10=>(some
 z10))))) (cnd (iNe x.2.2.2.1 3) (some true) (bnd (Bo ((x.2.1.1,x.2.1.2),(x.2.2.1.1,x.2.2.1.2))) (fun z10=>(some z10))))))))) (bnd (Di (x.1,
 ((x.2.1.1,x.2.1.2),((x.2.2.1.1,x.2.2.1.2),(x.2.2.2.1,x.2.2.2.2))))) (fun z9=>(cnd z9 (cnd (Ah z5.2) (cnd (Ah x.2.2.2.2) (some false) (bnd (Cx (x.1,
 ((x.2.1.1,x.2.1.2),((x.2.2.1.1,x.2.2.1.2),(x.2.2.2.1,x.2.2.2.2))))) (fun z10=>(cnd z10 (some false) (cnd (iNe x.2.2.2.1 3) (some true) (bnd (Bo
 ((x.2.1.1,x.2.1.2),(x.2.2.1.1,x.2.2.1.2))) (fun z11=>(some z11)))))))) (cnd (iNe x.2.2.2.1 3) (some true) (bnd (Bo ((x.2.1.1,x.2.1.2),(x.2.2.1.1,
 x.2.2.1.2))) (fun z10=>(some z10))))) (cnd (iNe x.2.2.2.1 3) (some true) (bnd (Bo ((x.2.1.1,x.2.1.2),(x.2.2.1.1,x.2.2.1.2))) (fun z10=>(some
 z10)))))))))))))))))))))))))))))
def Vg (x:Int):B6:=(bnd (B0 (x,(0,65535))) (fun z1=>(some z1)))
def Vd (x:H4):B6:=(bnd (B0 (x.1,(1,9))) (fun z1=>(cnd z1 (bnd (Vg x.2.1) (fun z2=>(cnd z2 (bnd (B0
 (x.2.2,(0,6))) (fun z3=>(some z3))) (some false)))) (some false))))
def Zaq (x:Fd):(Int)->Option M6:=fun (z1:Int)=>(cnd (iLt z1 (Af x.1)) (bnd (idx x.1 z1) (fun z2=>(bnd (Pr (z2.1,
 ((z2.2.1.1,z2.2.1.2),((z2.2.2.1.1,z2.2.2.1.2),(z2.2.2.2.1,z2.2.2.2.2))))) (fun z3=>(cnd (Ah z3) (some (.inr (.inr false))) (cnd (iGt z1 0) (bnd (idx x.1 (Ax
 .i64 z1 1)) (fun z4=>(bnd (idx x.1 z1) (fun z5=>(cnd (Ah (sLt z4.1 z5.1)) (some (.inr (.inr false))) (some (.inl (Ai .i64 z1 1)))))))) (some (.inl (Ai
 .i64 z1 1))))))))) (some (.inr (.inl ()))))
def Zar (x:Fd):(Int)->Option M6:=fun (z2:Int)=>(cnd (iLt z2 (Af x.2.2)) (bnd (idx x.2.2 z2) (fun z3=>(bnd (Vd (z3.1,
 (z3.2.1,z3.2.2))) (fun z4=>(cnd (Ah z4) (some (.inr (.inr false))) (cnd (iGt z2 0) (bnd (idx x.2.2 (Ax .i64 z2 1)) (fun z5=>(bnd (idx x.2.2 z2) (fun
 z6=>(cnd (iGe z5.1 z6.1) (some (.inr (.inr false))) (some (.inl (Ai .i64 z2 1)))))))) (some (.inl (Ai .i64 z2 1))))))))) (some (.inr (.inl ()))))
def Ry (x:Fd):B6:=(Aq (Ar (Zaq x) 0) (fun (z1:Unit)=>(Aq (Ar (Zar x) 0) (fun (z2:Unit)=>(cnd (iLe (Af x.1) 8)
 (bnd (B0 (x.2.1,(0,7))) (fun z3=>(some z3))) (some false))))))
def Z6 (x:G4):B6:=(cnd (sEq x.1 []) (bnd (Nh (x.2.1.1,x.2.1.2)) (fun z1=>(cnd z1 (bnd (Nh (x.2.2.1.1,x.2.2.1.2)) (fun
 z2=>(cnd z2 (cnd (iEq x.2.2.2.1 0) (some (Ah x.2.2.2.2)) (some false)) (some false)))) (some false)))) (some false))
def Ze2 (x:Pa):B6:=(cnd (iEq x.2.2.2.2.1 0) (cnd (iEq x.2.2.2.2.2.1 0) (cnd (iEq x.2.2.2.2.2.2 0) (some (iNe x.1 4)) (some false)) (some false)) (bnd
 (B0 (x.2.2.2.2.1,(1,9))) (fun z1=>(cnd z1 (bnd (Vg x.2.2.2.2.2.1) (fun z2=>(cnd z2 (bnd (B0 (x.2.2.2.2.2.2,(0,6))) (fun z3
 => (some z3))) (some false)))) (some false)))))
def Rw (x:Pa):B6:=(bnd (Z6 (x.2.1.1,((x.2.1.2.1.1,x.2.1.2.1.2),((x.2.1.2.2.1.1,x.2.1.2.2.1.2),(x.2.1.2.2.2.1,x.2.1.2.2.2.2))))) (fun
 z1=>(Aq (cnd (iEq x.1 1) (bnd (Pr (x.2.1.1,((x.2.1.2.1.1,x.2.1.2.1.2),((x.2.1.2.2.1.1,x.2.1.2.2.1.2),(x.2.1.2.2.2.1,x.2.1.2.2.2.2))))) (fun z2
 => (some (.inl (z2,((sEq x.2.2.1 []),(iEq x.2.2.2.1 0))))))) (cnd (iEq x.1 2) (bnd (Ru x.2.2.1) (fun z2=>(some (.inl (z1,(z2,(iEq x.2.2.2.1 0))))))) (cnd
 (iEq x.1 3) (bnd (B0 (x.2.2.2.1,(0,7))) (fun z2=>(some (.inl (z1,((sEq x.2.2.1 []),z2)))))) (some (.inl (z1,((sEq x.2.2.1 []),(iEq x.2.2.2.1 0)))))))) (fun
 (z2:(Bool×(Bool×Bool)))=>(bnd (B0 (x.1,(1,4))) (fun z3=>(cnd z3 (cnd z2.1 (cnd z2.2.1 (cnd z2.2.2 (bnd (Ze2 (x.1,((x.2.1.1,((x.2.1.2.1.1,
 x.2.1.2.1.2),((x.2.1.2.2.1.1,x.2.1.2.2.1.2),(x.2.1.2.2.2.1,x.2.1.2.2.2.2)))),(x.2.2.1,(x.2.2.2.1,(x.2.2.2.2.1,(x.2.2.2.2.2.1,x.2.2.2.2.2.2))))))) (fun z4 =>
 (some z4))) (some false)) (some false)) (some false)) (some false))))))))
def Zas (x:tqY):tqV->Option (tqV ⊕ tqZ):=fun (z1:tqV)=>(cnd (iLt z1.2.2.2 (Af z1.1)) (Aq (Aq (cnd (Ah z1.2.2.1) (bnd (idx z1.1 z1.2.2.2)
 (fun z2=>(cnd (Ah (sLt z2.1 x.2.1)) (bnd (Pu x.2) (fun z3=>(chk (Bp (z1.2.1.length+1) 96) (some (.inl ((A0 z1.2.1 [z3]),true)))))) (some
 (.inl (z1.2.1,z1.2.2.1)))))) (some (.inl (z1.2.1,z1.2.2.1)))) (fun (z2:Um)=>(bnd (idx z1.1 z1.2.2.2) (fun z3=>(cnd (Ah (sEq z3.1 x.2.1)) (bnd (idx z1.1
 z1.2.2.2) (fun z4=>(chk (Gc z4.2.1.2) (chk (Gc z4.2.2.1.2) (bnd (idx z1.1 (Int.ofNat (nOf z1.2.2.2))) (fun z5=>(bnd (idx (Am z1.1 (nOf z1.2.2.2)
 (z5.1,((z5.2.1.1,none),z5.2.2))) (Int.ofNat (nOf z1.2.2.2))) (fun z6=>(chk (Bp (z2.1.length+1) 96) (some (.inl ((Am (Am z1.1 (nOf z1.2.2.2) (z5.1,
 ((z5.2.1.1,none),z5.2.2))) (nOf z1.2.2.2) (z6.1,(z6.2.1,((z6.2.2.1.1,none),z6.2.2.2)))),((A0 z2.1 [(z4.1,((z4.2.1.1,(Hu z4.2.1.2)),((z4.2.2.1.1,(Hu z4.2.2.1.2)),
 z4.2.2.2)))]),z2.2))))))))))))) (some (.inl (z1.1,z2)))))))) (fun (z2:(Pb×Um))=>(some (.inl (z2.1,(z2.2.1,(z2.2.2,(Ai .i64 z1.2.2.2 1)))))))) (some (.inr (.inl
 (z1.2.1,z1.2.2.1)))))
def Vf (x:tqY):Zv1:=(Aq (Ar (Zas x) (x.1,([],(false,0)))) (fun (z1:Um)=>(Aq (cnd (Ah z1.2) (bnd (Pu x.2) (fun z2=>(chk (Bp (z1.1.length+1) 96) (some (.inl (A0 z1.1 [z2])))))) (some (.inl z1.1))) (fun (z2:Ef)=>(some z2)))))
def Zfi (x:Zvu):(Int)->Option ((Int) ⊕ Int):=fun (z1:Int)=>(cnd (iLt z1 (Af x.1.1)) (bnd (idx x.1.1 z1) (fun z2=>(cnd (sEq z2.1 x.2)
 (some (.inr z1)) (some (.inl (Ai .i64 z1 1)))))) (some (.inr (-1))))
def Vb (x:Zvu):(Option Int):=(Ar (Zfi x) 0)
def Zfl (x:Zei):Yl->Option Zvy:=fun (z1:Yl)=>(cnd (iLt z1.2.2 (Af x.1)) (Aq (Aq (cnd (Ah z1.2.1) (bnd (idx x.1 z1.2.2) (fun z2=>(cnd (iGe z2.1 x.2.1) (chk (Bp (z1.1.length+1) 24) (some (.inl ((A0 z1.1 [x.2]),true)))) (some (.inl (z1.1,z1.2.1)))))) (some (.inl (z1.1,z1.2.1)))) (fun (z2 :
 Rg)=>(bnd (idx x.1 z1.2.2) (fun z3=>(cnd (iNe z3.1 x.2.1) (bnd (idx x.1 z1.2.2) (fun z4=>(chk (Bp (z2.1.length+1) 24) (some (.inl ((A0 z2.1 [z4]),
 z2.2)))))) (some (.inl z2))))))) (fun (z2:Rg)=>(some (.inl (z2.1,(z2.2,(Ai .i64 z1.2.2 1))))))) (some (.inr (.inl (z1.1,z1.2.1)))))
def Ve (x:Zei):Zwc:=(Aq (Ar (Zfl x) ([],(false,0))) (fun (z1:Rg)=>(Aq (cnd (Ah z1.2) (chk (Bp (z1.1.length+1) 24)
 (some (.inl (A0 z1.1 [x.2])))) (some (.inl z1.1))) (fun (z2:F1)=>(some z2)))))
def Zx (x:tqF):Zvt:=(bnd (Vc x.1) (fun z1=>(bnd (Ry x.1) (fun z2=>(cnd (Ah z2) (some (z1,false)) (bnd
 (Rw x.2) (fun z3=>(cnd (Ah z3) (some (z1,false)) (Aq (cnd (iEq x.2.1 1) (bnd (cvL (.P .S (.P (.P (.I .i64) (.L .Y)) (.P (.P (.I .i64) (.L .Y)) (.P (.I
 .i64) .B)))) (.P .S (.P (.P (.I .i64) (.H .Y)) (.P (.P (.I .i64) (.H .Y)) (.P (.I .i64) .B)))) z1.1) (fun z4=>(bnd (Vf (z4,x.2.2.1)) (fun z5=>(some
 (.inl (z5,z1.2.1))))))) (cnd (iEq x.2.1 2) (bnd (Vb (z1,x.2.2.2.1)) (fun z4=>(cnd (iGe z4 0) (chk (Co 0 z4 (Af z1.1)) (chk (Ht 0 ((nOf z4)-0)
 z1.1.length) (chk (Bp (0+(A9 ((nOf z4)-0) z1.1).length) 96) (chk (Co (Ai .i64 z4 1) (Af (mvW (.P .S (.P (.P (.I .i64) (.L .Y)) (.P (.P (.I .i64) (.L .Y)) (.P (.I
 .i64) .B)))) 0 ((nOf z4)-0) z1.1)) (Af (mvW (.P .S (.P (.P (.I .i64) (.L .Y)) (.P (.P (.I .i64) (.L .Y)) (.P (.I .i64) .B)))) 0 ((nOf z4)-0) z1.1))) (chk (Ht (nOf (Ai
 .i64 z4 1)) ((nOf (Af (mvW (.P .S (.P (.P (.I .i64) (.L .Y)) (.P (.P (.I .i64) (.L .Y)) (.P (.I .i64) .B)))) 0 ((nOf z4)-0) z1.1)))-(nOf (Ai .i64 z4 1))) (mvW (.P .S (.P
 (.P (.I .i64) (.L .Y)) (.P (.P (.I .i64) (.L .Y)) (.P (.I .i64) .B)))) 0 ((nOf z4)-0) z1.1).length) (bnd (cvL (.P .S (.P (.P (.I .i64) (.H .Y)) (.P (.P (.I .i64) (.H .Y)) (.P
 (.I .i64) .B)))) (.P .S (.P (.P (.I .i64) (.L .Y)) (.P (.P (.I .i64) (.L .Y)) (.P (.I .i64) .B)))) (A9 ((nOf (Af (mvW (.P .S (.P (.P (.I .i64) (.L .Y)) (.P (.P (.I .i64) (.L
 .Y)) (.P (.I .i64) .B)))) 0 ((nOf z4)-0) z1.1)))-(nOf (Ai .i64 z4 1))) (C0 (nOf (Ai .i64 z4 1)) (mvW (.P .S (.P (.P (.I .i64) (.L .Y)) (.P (.P (.I .i64) (.L .Y)) (.P
 (.I .i64) .B)))) 0 ((nOf z4)-0) z1.1)))) (fun z5=>(chk (Bp ((A0 [] (A9 ((nOf z4)-0) z1.1)).length+z5.length) 96) (some (.inl ((A0 (A0 [] (A9 ((nOf
 z4)-0) z1.1)) z5),z1.2.1))))))))))) (some (.inl (z1.1,z1.2.1)))))) (cnd (iEq x.2.1 3) (some (.inl (z1.1,x.2.2.2.2.1))) (some (.inl (z1.1,z1.2.1)))))) (fun (z4:Iy) =>
 (Aq (cnd (iNe x.2.2.2.2.2.1 0) (bnd (Ve (z1.2.2,x.2.2.2.2.2)) (fun z5=>(some (.inl z5)))) (some (.inl z1.2.2))) (fun (z5:F1)=>(bnd (Ry (z4.1,
 (z4.2,z5))) (fun z6=>(cnd (Ah z6) (bnd (Vc x.1) (fun z7=>(some (z7,false)))) (some ((z4.1,(z4.2,z5)),true)))))))))))))))))
def Ze3 (x:(Int×Int)):(Option Int):=(some (Ai .i64 (Ai .i64 2 (K5 .i64 30 (Ob x.1 2))) x.2))
def Zfj:(Int×Int)->Option Zv8:=fun (z3:(Int×Int))=>(cnd (iLt z3.2 8) (Aq (cnd (iGt (Br .i64 z3.1 1) 65535) (some (.inl (Oc .i64 (Br .i64
 z3.1 1) 69665))) (some (.inl (Br .i64 z3.1 1)))) (fun (z4:Int)=>(some (.inl (z4,(Ai .i64 z3.2 1)))))) (some (.inr (.inl z3.1))))
def Zfk (x:(List UInt8)):(Int×Int)->Option Lu:=fun (z1:(Int×Int))=>(cnd (iLt z1.2 (Af x)) (Aq (bnd (idx x z1.2) (fun z2 =>
 (Ar (Zfj) ((Oc .i64 z1.1 (Br .i64 (Ak .i64 (y2i z2)) 8)),0)))) (fun (z2:Int)=>(some (.inl (z2,(Ai .i64 z1.2 1)))))) (some (.inr (.inl z1.1))))
def Z5 (x:(List UInt8)):(Option Int):=(Aq (Ar (Zfk x) (65535,0)) (fun (z1:Int)=>(some (Av .i64 z1 65535))))
def Vm (x:G5):C5->Option Zv7:=fun (z1:C5)=>(cnd (iLt z1.2 (Af x)) (bnd (idx x z1.2) (fun z2=>(chk (Bp (z1.1.length
 + z2.length) 1) (some (.inl ((A0 z1.1 z2),(Ai .i64 z1.2 1))))))) (some (.inr (.inl z1.1))))
def Pm (x:G5):Lv:=(Aq (Ar (Vm x) ([],0)) (fun (z1:(List UInt8))=>(some z1)))
def U1 (x:D4):Zem:=(bnd (Pm [x.2]) (fun z1=>(some (x.1,z1))))
def Pk (x:G4):Zv3:=(bnd (U1 x.2.1) (fun z1=>(bnd (U1 x.2.2.1) (fun z2=>(some (x.1,(z1,(z2,
 x.2.2.2))))))))
def Zxd (x:Fd):Iy->Option tqE:=fun (z1:Iy)=>(cnd (iLt z1.2 (Af x.1)) (bnd (idx x.1 z1.2) (fun z2=>(bnd (Pk (z2.1,
 ((z2.2.1.1,z2.2.1.2),((z2.2.2.1.1,z2.2.2.1.2),(z2.2.2.2.1,z2.2.2.2.2))))) (fun z3=>(chk (Bp (z1.1.length+1) 96) (some (.inl ((A0 z1.1 [(z3.1,((z3.2.1.1,
 z3.2.1.2),((z3.2.2.1.1,z3.2.2.1.2),(z3.2.2.2.1,z3.2.2.2.2))))]),(Ai .i64 z1.2 1))))))))) (some (.inr (.inl z1.1))))
def U2 (x:Fd):Zvw:=(al 2 (chk (Bp (0+x.2.2.length) 24) (Aq (Ar (Zxd x) ([],0)) (fun (z1:Ef)=>(some (z1,(x.2.1,(A0 []
 x.2.2))))))))
def I6 (x:Yk):B6:=(cnd (iEq x.1.1 x.2.1) (some (sEq x.1.2 x.2.2)) (some false))
def Za (x:Zvs):B6:=(cnd (sEq x.1.1 x.2.1) (bnd (I6 ((x.1.2.1.1,x.1.2.1.2),(x.2.2.1.1,x.2.2.1.2))) (fun z1=>(cnd z1 (bnd
 (I6 ((x.1.2.2.1.1,x.1.2.2.1.2),(x.2.2.2.1.1,x.2.2.2.1.2))) (fun z2=>(cnd z2 (cnd (iEq x.1.2.2.2.1 x.2.2.2.2.1) (some (bEq x.1.2.2.2.2 x.2.2.2.2.2)) (some
 false)) (some false)))) (some false)))) (some false))
def De (x:H4):B6:=(cnd (iGe x.1 x.2.1) (some (iLe x.1 x.2.2)) (some false))
def Zxc (x:(List UInt8)):(Int)->Option M6:=fun (z1:Int)=>(cnd (iLt z1 (Af x)) (bnd (idx x z1) (fun z2=>(bnd (De ((Ak
 .i64 (y2i z2)),(97,122))) (fun z3=>(cnd (Ah z3) (bnd (idx x z1) (fun z4=>(bnd (De ((Ak .i64 (y2i z4)),(48,57))) (fun z5=>(cnd
 (Ah z5) (some (.inr (.inr false))) (some (.inl (Ai .i64 z1 1)))))))) (some (.inl (Ai .i64 z1 1)))))))) (some (.inr (.inl ()))))
def Uz (x:(List UInt8)):B6:=(Aq (Ar (Zxc x) 0) (fun (z1:Unit)=>(bnd (De ((Af x),(1,6))) (fun z2=>(some
 z2)))))
def Y9 (x:Int):B6:=(bnd (De (x,(0,5))) (fun z1=>(some z1)))
def Uv (x:D4):B6:=(bnd (Y9 x.1) (fun z1=>(cnd z1 (some (iLe (Af x.2) 20)) (some false))))
def L3 (x:(List UInt8)):(Option (Int×Int)):=(cnd (iLt (Af x) 1) (some (65533,0)) (bnd (idx x 0) (fun z1=>(chk (iLe 0 (y2i
 z1)) (chk (iLt (y2i z1) 256) (bnd (idx N2 (Int.ofNat (0+((nOf (y2i z1))*1)))) (fun z2=>(cnd (iGe (y2i z2) (y2i (u8 240))) (bnd (idx x 0) (fun z3 =>
 (some ((iOr .i32 (Zhz .i32 (Ak .i32 (y2i z3)) (B3 .i32 (Br .i32 (Ak .i32 (y2i z2)) 31) 31)) (Av .i32 65533 (B3 .i32 (Br .i32 (Ak .i32 (y2i z2)) 31) 31))),
 1)))) (chk (iLe 0 (y2i (u8 (B3 .u8 (y2i z2) 4)))) (chk (iLt (y2i (u8 (B3 .u8 (y2i z2) 4))) 16) (bnd (idx Sz (Int.ofNat (0+((nOf (y2i (u8 (B3 .u8 (y2i z2) 4))))*2))))
 (fun z3=>(bnd (idx Sz (Int.ofNat ((0+((nOf (y2i (u8 (B3 .u8 (y2i z2) 4))))*2))+1))) (fun z4=>(cnd (iLt (Af x) (Ak .i64 (y2i (u8 (Av .u8
 (y2i z2) (y2i (u8 7))))))) (some (65533,1)) (bnd (idx x 1) (fun z5=>(cnd (iLt (y2i z5) (y2i z3)) (some (65533,1)) (cnd (iLt (y2i z4) (y2i z5)) (some (65533,1))
 (cnd (iLe (Ak .i64 (y2i (u8 (Av .u8 (y2i z2) (y2i (u8 7)))))) 2) (some ((iOr .i32 (Br .i32 (Ak .i32 (y2i (u8 (Av .u8 (y2i z1) (y2i (u8 31)))))) 6) (Ak .i32 (y2i
 (u8 (Av .u8 (y2i z5) (y2i (u8 63))))))),2)) (bnd (idx x 2) (fun z6=>(cnd (iLt (y2i z6) (y2i (u8 128))) (some (65533,1)) (cnd (iLt (y2i (u8 191)) (y2i z6)) (some
 (65533,1)) (cnd (iLe (Ak .i64 (y2i (u8 (Av .u8 (y2i z2) (y2i (u8 7)))))) 3) (some ((iOr .i32 (iOr .i32 (Br .i32 (Ak .i32 (y2i (u8 (Av .u8 (y2i z1) (y2i (u8 15))))))
 12) (Br .i32 (Ak .i32 (y2i (u8 (Av .u8 (y2i z5) (y2i (u8 63)))))) 6)) (Ak .i32 (y2i (u8 (Av .u8 (y2i z6) (y2i (u8 63))))))),3)) (bnd (idx x 3) (fun z7 =>
 (cnd (iLt (y2i z7) (y2i (u8 128))) (some (65533,1)) (cnd (iLt (y2i (u8 191)) (y2i z7)) (some (65533,1)) (some ((iOr .i32 (iOr .i32 (iOr .i32 (Br .i32 (Ak .i32 (y2i (u8
 (Av .u8 (y2i z1) (y2i (u8 7)))))) 18) (Br .i32 (Ak .i32 (y2i (u8 (Av .u8 (y2i z5) (y2i (u8 63)))))) 12)) (Br .i32 (Ak .i32 (y2i (u8 (Av .u8 (y2i z6) (y2i (u8
 63)))))) 6)) (Ak .i32 (y2i (u8 (Av .u8 (y2i z7) (y2i (u8 63))))))),4)))))))))))))))))))))))))))))))
def Vu (x:(List UInt8)):(Int)->Option ((Int) ⊕ (Unit ⊕ (Int×Int))):=fun (z1:Int)=>(cnd (iLt z1 (Af x)) (bnd (idx x z1) (fun z2=>(cnd (iLt (y2i z2) (y2i (u8 128))) (some (.inr (.inr ((Ak .i32 (y2i z2)),1)))) (some (.inr (.inl ())))))) (some (.inr (.inl ()))))
def Zaa (x:(List UInt8)):(Option (Int×Int)):=(Aq (Ar (Vu x) 0) (fun (z1:Unit)=>(bnd (L3 x) (fun
 z2=>(some (z2.1,z2.2))))))
def Y5 (x:C5):Iz:=(cnd (iLt x.2 0) (some (0,(0,false))) (cnd (iGe x.2 (Af x.1)) (some (0,(0,false))) (chk (Co x.2 (Af x.1) (Af x.1))
 (chk (Q2 (nOf x.2) (A9 ((nOf (Af x.1))-(nOf x.2)) (C0 (nOf x.2) x.1)).length) (bnd (Zaa (A9 ((nOf (Af x.1))-(nOf x.2)) (C0 (nOf x.2) x.1)))
 (fun z1=>(cnd (iEq z1.1 65533) (cnd (iLt z1.2 2) (some (0,(0,false))) (some ((Ak .i64 z1.1),((Ai .i64 x.2 z1.2),true)))) (some ((Ak .i64 z1.1),
 ((Ai .i64 x.2 z1.2),true))))))))))
def Zeu (x:(Int×Int)):Zen:=(cnd (iEq x.1 164) (bnd (De (x.2,(161,243))) (fun z1=>(cnd z1 (some ((Ax .i64 (Ai .i64 12353
 x.2) 161),true)) (cnd (iEq x.1 165) (bnd (De (x.2,(161,246))) (fun z2=>(cnd z2 (some ((Ax .i64 (Ai .i64 12449 x.2) 161),true)) (some (0,false)))))
 (some (0,false)))))) (cnd (iEq x.1 165) (bnd (De (x.2,(161,246))) (fun z1=>(cnd z1 (some ((Ax .i64 (Ai .i64 12449 x.2) 161),true)) (some (0,false)))))
 (some (0,false))))
def Y4 (x:C5):Iz:=(cnd (iLt x.2 0) (some (0,(0,false))) (cnd (iGe x.2 (Af x.1)) (some (0,(0,false))) (bnd (idx x.1 x.2) (fun z1 =>
 (cnd (iLe (y2i z1) (y2i (u8 127))) (bnd (idx x.1 x.2) (fun z2=>(some ((Ak .i64 (y2i z2)),((Ai .i64 x.2 1),true))))) (cnd (iEq (Ai .i64 x.2 1) (Af x.1))
 (some (0,(0,false))) (bnd (idx x.1 x.2) (fun z2=>(bnd (idx x.1 (Ai .i64 x.2 1)) (fun z3=>(bnd (Zeu ((Ak .i64 (y2i z2)),(Ak .i64 (y2i
 z3)))) (fun z4=>(cnd (Ah z4.2) (some (0,(0,false))) (some (z4.1,((Ai .i64 x.2 2),true))))))))))))))))
def Zl9 (x:Int):(Option Int):=(cnd (iEq x 164) (some 8364) (cnd (iEq x 166) (some 352) (cnd (iEq x 168) (some 353) (cnd (iEq x 180) (some 381) (cnd
 (iEq x 184) (some 382) (cnd (iEq x 188) (some 338) (cnd (iEq x 189) (some 339) (cnd (iEq x 190) (some 376) (some x)))))))))
def Zl8 (x:Int):(Option Int):=(cnd (iGe x 224) (chk (iLe 0 (Ax .i64 x 224)) (chk (iLt (Ax .i64 x 224) 32) (bnd (idx [1102,1072,1073,1094,1076,
 1077,1092,1075,1093,1080,1081,1082,1083,1084,1085,1086,1087,1103,1088,1089,1090,1091,1078,1074,1100,1099,1079,1096,1101,1097,1095,1098] (Int.ofNat (0 +
 ((nOf (Ax .i64 x 224))*1)))) (fun z1=>(some (Ax .i64 z1 32)))))) (cnd (iGe x 192) (chk (iLe 0 (Ax .i64 x 192)) (chk (iLt (Ax .i64 x 192) 32) (bnd (idx [1102,
 1072,1073,1094,1076,1077,1092,1075,1093,1080,1081,1082,1083,1084,1085,1086,1087,1103,1088,1089,1090,1091,1078,1074,1100,1099,1079,1096,1101,1097,
 1095,1098] (Int.ofNat (0+((nOf (Ax .i64 x 192))*1)))) (fun z1=>(some z1))))) (cnd (iEq x 163) (some 1105) (cnd (iEq x 179) (some 1025) (some 0)))))
def Zma (x:Int):(Option Int):=(cnd (iGe x 160) (some x) (chk (iLe 0 (Ax .i64 x 128)) (chk (iLt (Ax .i64 x 128) 32) (bnd (idx [8364,0,8218,402,
 8222,8230,8224,8225,710,8240,352,8249,338,0,381,0,0,8216,8217,8220,8221,8226,8211,8212,732,8482,353,8250,339,0,382,376] (Int.ofNat (0+((nOf (Ax
 .i64 x 128))*1)))) (fun z1=>(some z1))))))
def Ph (x:(Int×Int)):Zen:=(bnd (De (x.1,(1,4))) (fun z1=>(cnd (Ah z1) (some (0,false)) (bnd (De (x.2,(0,255)))
 (fun z2=>(cnd (Ah z2) (some (0,false)) (cnd (iLe x.2 127) (some (x.2,true)) (Aq (cnd (iEq x.1 2) (bnd (Zl9 x.2) (fun z3=>(some (.inl z3))))
 (cnd (iEq x.1 3) (bnd (Zl8 x.2) (fun z3=>(some (.inl z3)))) (cnd (iEq x.1 4) (bnd (Zma x.2) (fun z3=>(some (.inl z3)))) (some (.inl x.2)))))
 (fun (z3:Int)=>(some (z3,(iNe z3 0))))))))))))
def Zc (x:(Int×C5)):Iz:=(cnd (iEq x.1 0) (bnd (Y5 (x.2.1,x.2.2)) (fun z1=>(some (z1.1,(z1.2.1,z1.2.2))))) (cnd (iEq x.1 5)
 (bnd (Y4 (x.2.1,x.2.2)) (fun z1=>(some (z1.1,(z1.2.1,z1.2.2))))) (bnd (idx x.2.1 x.2.2) (fun z1=>(bnd (Ph (x.1,(Ak .i64 (y2i
 z1)))) (fun z2=>(some (z2.1,((Ai .i64 x.2.2 1),z2.2)))))))))
def Zew (x:Int):B6:=(bnd (De (x,(0,1114111))) (fun z1=>(cnd z1 (bnd (De (x,(55296,57343))) (fun z2=>(some
 (Ah z2)))) (some false))))
def Ze5 (x:C5):Lv:=(cnd (iLe (Ak .u32 x.2) 2047) (chk (Bp (x.1.length+2) 1) (some (A0 x.1 [(u8 (iOr .u8 (y2i (u8 192)) (y2i
 (u8 (Ak .u8 (B3 .i32 x.2 6)))))),(u8 (iOr .u8 (y2i (u8 128)) (y2i (u8 (Av .u8 (y2i (u8 (Ak .u8 x.2))) (y2i (u8 63)))))))]))) (Aq (cnd (iLt (Ak .u32 x.2) 55296)
 (some (.inl true)) (cnd (iLt 57343 (Ak .u32 x.2)) (some (.inl (iLe (Ak .u32 x.2) 65535))) (some (.inl false)))) (fun (z1:Bool)=>(cnd z1 (chk (Bp (x.1.length+3) 1)
 (some (A0 x.1 [(u8 (iOr .u8 (y2i (u8 224)) (y2i (u8 (Ak .u8 (B3 .i32 x.2 12)))))),(u8 (iOr .u8 (y2i (u8 128)) (y2i (u8 (Av .u8 (y2i (u8 (Ak .u8 (B3 .i32 x.2 6))))
 (y2i (u8 63))))))),(u8 (iOr .u8 (y2i (u8 128)) (y2i (u8 (Av .u8 (y2i (u8 (Ak .u8 x.2))) (y2i (u8 63)))))))]))) (cnd (iGt (Ak .u32 x.2) 65535) (cnd (iLe (Ak .u32 x.2)
 1114111) (chk (Bp (x.1.length+4) 1) (some (A0 x.1 [(u8 (iOr .u8 (y2i (u8 240)) (y2i (u8 (Ak .u8 (B3 .i32 x.2 18)))))),(u8 (iOr .u8 (y2i (u8 128)) (y2i (u8 (Av .u8
 (y2i (u8 (Ak .u8 (B3 .i32 x.2 12)))) (y2i (u8 63))))))),(u8 (iOr .u8 (y2i (u8 128)) (y2i (u8 (Av .u8 (y2i (u8 (Ak .u8 (B3 .i32 x.2 6)))) (y2i (u8 63))))))),(u8 (iOr
 .u8 (y2i (u8 128)) (y2i (u8 (Av .u8 (y2i (u8 (Ak .u8 x.2))) (y2i (u8 63)))))))]))) (chk (Bp (x.1.length+3) 1) (some (A0 x.1 [(u8 239),(u8 191),(u8 189)])))) (chk
 (Bp (x.1.length+3) 1) (some (A0 x.1 [(u8 239),(u8 191),(u8 189)]))))))))
def Ze4 (x:C5):Lv:=(cnd (iLe (Ak .u32 x.2) 127) (chk (Bp (x.1.length+1) 1) (some (A0 x.1 [(u8 (Ak .u8 x.2))]))) (bnd
 (Ze5 (x.1,x.2)) (fun z1=>(some z1))))
def Y7 (x:C5):Lv:=(bnd (Pm [x.1]) (fun z1=>(bnd (Zew x.2) (fun z2=>(cnd (Ah z2) (some z1) (bnd
 (Ze4 (z1,(Ak .i32 x.2))) (fun z3=>(some z3))))))))
def Zfa (x:D4):C5->Option Zv4:=fun (z2:C5)=>(cnd (iLt z2.2 (Af x.2)) (bnd (Zc (x.1,(x.2,z2.2))) (fun z3=>(cnd (Ah
 z3.2.2) (some (.inr (.inr ([],false)))) (bnd (Y7 (z2.1,z3.1)) (fun z4=>(some (.inl (z4,z3.2.1)))))))) (some (.inr (.inl z2.1))))
def Y3 (x:D4):Zel:=(bnd (Y9 x.1) (fun z1=>(cnd (Ah z1) (some ([],false)) (Aq (Ar (Zfa x) ([],0)) (fun (z2 :
 (List UInt8))=>(some (z2,true)))))))
def Pj (x:D4):Zel:=(bnd (Uv (x.1,x.2)) (fun z1=>(cnd (Ah z1) (some ([],false)) (bnd (Y3 (x.1,x.2)) (fun z2
 => (some (z2.1,z2.2)))))))
def Zev (x:Yk):B6:=(bnd (Pj (x.1.1,x.1.2)) (fun z1=>(bnd (Pj (x.2.1,x.2.2)) (fun z2=>(cnd z1.2 (cnd
 z2.2 (some (sEq z1.1 z2.1)) (some false)) (some false))))))
def L0 (x:G4):B6:=(bnd (Uz x.1) (fun z1=>(cnd (Ah z1) (some false) (bnd (De (x.2.2.2.1,(1,3))) (fun z2 =>
 (cnd (Ah z2) (some false) (bnd (Pj (x.2.1.1,x.2.1.2)) (fun z3=>(bnd (Pj (x.2.2.1.1,x.2.2.1.2)) (fun z4=>(bnd (I6
 ((x.2.1.1,x.2.1.2),(0,[]))) (fun z5=>(Aq (cnd (iNe x.2.2.2.1 2) (bnd (Uv (x.2.1.1,x.2.1.2)) (fun z6=>(cnd z6 (cnd (iNe x.2.1.1 0) (cnd z3.2
 (some (.inl true)) (cnd x.2.2.2.2 (some (.inl (iEq x.2.2.2.1 1))) (some (.inl false)))) (some (.inl false))) (some (.inl false))))) (some (.inl z5))) (fun (z6:Bool)=>(bnd
 (I6 ((x.2.2.1.1,x.2.2.1.2),(0,[]))) (fun z7=>(Aq (cnd (iNe x.2.2.2.1 1) (cnd (iEq x.2.2.1.1 0) (some (.inl z4.2)) (some (.inl false))) (some (.inl
 z7))) (fun (z8:Bool)=>(cnd z6 (cnd z8 (cnd (iNe x.2.2.2.1 3) (some true) (bnd (Zev ((x.2.1.1,x.2.1.2),(x.2.2.1.1,x.2.2.1.2))) (fun z9=>(some z9))))
 (some false)) (some false))))))))))))))))))))
def U3 (x:Int):B6:=(bnd (De (x,(0,65535))) (fun z1=>(some z1)))
def Rn (x:Pa):B6:=(bnd (Za ((x.2.1.1,((x.2.1.2.1.1,x.2.1.2.1.2),((x.2.1.2.2.1.1,x.2.1.2.2.1.2),(x.2.1.2.2.2.1,x.2.1.2.2.2.2)))),([],
 ((0,[]),((0,[]),(0,false)))))) (fun z1=>(Aq (cnd (iEq x.1 1) (bnd (L0 (x.2.1.1,((x.2.1.2.1.1,x.2.1.2.1.2),((x.2.1.2.2.1.1,x.2.1.2.2.1.2),
 (x.2.1.2.2.2.1,x.2.1.2.2.2.2))))) (fun z2=>(cnd z2 (cnd (sEq x.2.2.1 []) (some (.inl (iEq x.2.2.2.1 0))) (some (.inl false))) (some (.inl false))))) (cnd (iEq x.1 2)
 (cnd z1 (bnd (Uz x.2.2.1) (fun z2=>(cnd z2 (some (.inl (iEq x.2.2.2.1 0))) (some (.inl false))))) (some (.inl false))) (cnd (iEq x.1 3) (cnd z1 (cnd (sEq
 x.2.2.1 []) (bnd (De (x.2.2.2.1,(0,7))) (fun z2=>(some (.inl z2)))) (some (.inl false))) (some (.inl false))) (cnd (iEq x.1 4) (cnd z1 (cnd (sEq x.2.2.1 [])
 (cnd (iEq x.2.2.2.1 0) (some (.inl (iNe x.2.2.2.2.1 0))) (some (.inl false))) (some (.inl false))) (some (.inl false))) (some (.inl false)))))) (fun (z2:Bool)=>(cnd (iEq
 x.2.2.2.2.1 0) (cnd z2 (cnd (iEq x.2.2.2.2.2.1 0) (some (iEq x.2.2.2.2.2.2 0)) (some false)) (some false)) (cnd z2 (bnd (De (x.2.2.2.2.1,(1,9))) (fun z3 =>
 (cnd z3 (bnd (U3 x.2.2.2.2.2.1) (fun z4=>(cnd z4 (bnd (De (x.2.2.2.2.2.2,(0,6))) (fun z5=>(some z5))) (some false)))) (some false))))
 (some false)))))))
def Zag (x:Fd):(Int)->Option M6:=fun (z1:Int)=>(cnd (iLt z1 (Af x.1)) (bnd (idx x.1 z1) (fun z2=>(bnd (L0 (z2.1,
 ((z2.2.1.1,z2.2.1.2),((z2.2.2.1.1,z2.2.2.1.2),(z2.2.2.2.1,z2.2.2.2.2))))) (fun z3=>(cnd (Ah z3) (some (.inr (.inr false))) (cnd (iGt z1 0) (bnd (idx x.1 (Ax
 .i64 z1 1)) (fun z4=>(cnd (Ah (sLt z4.1 z2.1)) (some (.inr (.inr false))) (some (.inl (Ai .i64 z1 1)))))) (some (.inl (Ai .i64 z1 1))))))))) (some (.inr (.inl
 ()))))
def Zah (x:Fd):(Int)->Option M6:=fun (z2:Int)=>(cnd (iLt z2 (Af x.2.2)) (bnd (idx x.2.2 z2) (fun z3=>(bnd (De (z3.1,(1,
 9))) (fun z4=>(cnd (Ah z4) (some (.inr (.inr false))) (bnd (U3 z3.2.1) (fun z5=>(cnd (Ah z5) (some (.inr (.inr false))) (bnd (De
 (z3.2.2,(0,6))) (fun z6=>(cnd (Ah z6) (some (.inr (.inr false))) (cnd (iGt z2 0) (bnd (idx x.2.2 (Ax .i64 z2 1)) (fun z7=>(cnd (iGe z7.1 z3.1) (some
 (.inr (.inr false))) (some (.inl (Ai .i64 z2 1)))))) (some (.inl (Ai .i64 z2 1))))))))))))))) (some (.inr (.inl ()))))
def Ro (x:Fd):B6:=(Aq (Ar (Zag x) 0) (fun (z1:Unit)=>(Aq (Ar (Zah x) 0) (fun (z2:Unit)=>(cnd (iLe (Af x.1) 8)
 (bnd (De (x.2.1,(0,7))) (fun z3=>(some z3))) (some false))))))
def Zai (x:tqY):tqW->Option (tqW ⊕ tqZ):=fun (z1:tqW)=>(cnd (iLt z1.2.2.2 (Af x.1)) (Aq (bnd (idx z1.2.2.1 z1.2.2.2) (fun z2 =>
 (chk (Gc z2.2.1.2) (chk (Gc z2.2.2.1.2) (Aq (cnd (Ah z1.2.1) (cnd (Ah (sLt z2.1 x.2.1)) (bnd (Pk x.2) (fun z3=>(chk (Bp (z1.1.length+1) 96)
 (some (.inl ((A0 z1.1 [z3]),true)))))) (some (.inl (z1.1,z1.2.1)))) (some (.inl (z1.1,z1.2.1)))) (fun (z3:Um)=>(cnd (Ah (sEq z2.1 x.2.1)) (bnd (idx z1.2.2.1
 (Int.ofNat (nOf z1.2.2.2))) (fun z4=>(bnd (idx (Am z1.2.2.1 (nOf z1.2.2.2) (z4.1,((z4.2.1.1,none),z4.2.2))) (Int.ofNat (nOf z1.2.2.2))) (fun z5=>(chk
 (Bp (z3.1.length+1) 96) (some (.inl ((A0 z3.1 [(z2.1,((z2.2.1.1,(Hu z2.2.1.2)),((z2.2.2.1.1,(Hu z2.2.2.1.2)),z2.2.2.2)))]),(z3.2,(Am (Am z1.2.2.1 (nOf
 z1.2.2.2) (z4.1,((z4.2.1.1,none),z4.2.2))) (nOf z1.2.2.2) (z5.1,(z5.2.1,((z5.2.2.1.1,none),z5.2.2.2))))))))))))) (some (.inl (z3.1,(z3.2,z1.2.2.1))))))))))) (fun (z2 :
 (Ef×(Bool×Pb)))=>(some (.inl (z2.1,(z2.2.1,(z2.2.2,(Ai .i64 z1.2.2.2 1)))))))) (some (.inr (.inl (z1.1,z1.2.1)))))
def U4 (x:tqY):Zv1:=(Aq (Ar (Zai x) ([],(false,(x.1,0)))) (fun (z1:Um)=>(Aq (cnd (Ah z1.2) (bnd (Pk x.2) (fun
 z2=>(chk (Bp (z1.1.length+1) 96) (some (.inl (A0 z1.1 [z2])))))) (some (.inl z1.1))) (fun (z2:Ef)=>(some z2)))))
def Uu (x:(G4×Pa)):(Option Ymp):=(some ((sEq x.1.1 x.2.2.2.1),(x.2.1,(x.2.2.1.1,(x.2.2.1.2.1.1,(x.2.2.1.2.2.1.1,(x.2.2.1.2.2.2.1,
 (x.2.2.1.2.2.2.2,x.2.2.2))))))))
def Zfm (x:tqK):Zeh->Option (Zeh ⊕ Zvz):=fun (z1:Zeh)=>(cnd (iLt z1.2.2.2.2.2.2.2.2.2.2.2 (Af x.1)) (bnd (idx x.1
 z1.2.2.2.2.2.2.2.2.2.2.2) (fun z2=>(bnd (Uu (z2,(z1.1,((z1.2.1,((z1.2.2.1,x.2.2.1.2.1.2),((z1.2.2.2.1,x.2.2.1.2.2.1.2),(z1.2.2.2.2.1,
 z1.2.2.2.2.2.1)))),(z1.2.2.2.2.2.2.1,(z1.2.2.2.2.2.2.2.1,(z1.2.2.2.2.2.2.2.2.1,(z1.2.2.2.2.2.2.2.2.2.1,z1.2.2.2.2.2.2.2.2.2.2.1)))))))) (fun z3=>(cnd z3.1 (some
 (.inr (z1.2.2.2.2.2.2.2.2.2.2.2,z3.2))) (some (.inl (z3.2.1,(z3.2.2.1,(z3.2.2.2.1,(z3.2.2.2.2.1,(z3.2.2.2.2.2.1,(z3.2.2.2.2.2.2.1,(z3.2.2.2.2.2.2.2.1,
 (z3.2.2.2.2.2.2.2.2.1,(z3.2.2.2.2.2.2.2.2.2.1,(z3.2.2.2.2.2.2.2.2.2.2.1,(z3.2.2.2.2.2.2.2.2.2.2.2,(Ai .i64 z1.2.2.2.2.2.2.2.2.2.2.2 1))))))))))))))))))) (some (.inr ((-1),
 (z1.1,(z1.2.1,(z1.2.2.1,(z1.2.2.2.1,(z1.2.2.2.2.1,(z1.2.2.2.2.2.1,(z1.2.2.2.2.2.2.1,(z1.2.2.2.2.2.2.2.1,(z1.2.2.2.2.2.2.2.2.1,(z1.2.2.2.2.2.2.2.2.2.1,
 z1.2.2.2.2.2.2.2.2.2.2.1))))))))))))))
def Z9 (x:tqK):(Option Zvz):=(Ar (Zfm x) (x.2.1,(x.2.2.1.1,(x.2.2.1.2.1.1,(x.2.2.1.2.2.1.1,
 (x.2.2.1.2.2.2.1,(x.2.2.1.2.2.2.2,(x.2.2.2.1,(x.2.2.2.2.1,(x.2.2.2.2.2.1,(x.2.2.2.2.2.2.1,(x.2.2.2.2.2.2.2,0))))))))))))
def Vt (x:tqI):tqL->Option (tqL ⊕ (tqS ⊕ tqX)):=fun (z3:tqL)=>(cnd (iLt z3.2.2.2.2.2.2.2.2.2.2.2.2.2 (Af z3.1)) (Aq (bnd
 (idx z3.1 z3.2.2.2.2.2.2.2.2.2.2.2.2.2) (fun z4=>(chk (Gc z4.2.1.2) (chk (Gc z4.2.2.1.2) (bnd (Uu ((z4.1,((z4.2.1.1,(Hu z4.2.1.2)),((z4.2.2.1.1,
 (Hu z4.2.2.1.2)),z4.2.2.2))),(z3.2.1,((z3.2.2.1,((z3.2.2.2.1,x.2.2.1.2.1.2),((z3.2.2.2.2.1,x.2.2.1.2.2.1.2),(z3.2.2.2.2.2.1,z3.2.2.2.2.2.2.1)))),(z3.2.2.2.2.2.2.2.1,
 (z3.2.2.2.2.2.2.2.2.1,(z3.2.2.2.2.2.2.2.2.2.1,(z3.2.2.2.2.2.2.2.2.2.2.1,z3.2.2.2.2.2.2.2.2.2.2.2.1)))))))) (fun z5=>(cnd (Ah z5.1) (bnd (idx z3.1
 z3.2.2.2.2.2.2.2.2.2.2.2.2.1) (fun z6=>(chk (nNe (nOf z3.2.2.2.2.2.2.2.2.2.2.2.2.1) (nOf z3.2.2.2.2.2.2.2.2.2.2.2.2.2)) (bnd (idx z3.1 (Int.ofNat (nOf
 z3.2.2.2.2.2.2.2.2.2.2.2.2.2))) (fun z7=>(chk (nEq (nOf z3.2.2.2.2.2.2.2.2.2.2.2.2.2) (nOf z3.2.2.2.2.2.2.2.2.2.2.2.2.2)) (chk (nEq (nOf z3.2.2.2.2.2.2.2.2.2.2.2.2.2)
 (nOf z3.2.2.2.2.2.2.2.2.2.2.2.2.2)) (some (.inl ((Am (Am z3.1 (nOf z3.2.2.2.2.2.2.2.2.2.2.2.2.1) (z4.1,((z4.2.1.1,(some (Hu z4.2.1.2))),((z4.2.2.1.1,(some (Hu
 z4.2.2.1.2))),z4.2.2.2)))) (nOf z3.2.2.2.2.2.2.2.2.2.2.2.2.2) (z7.1,((z7.2.1.1,none),((z7.2.2.1.1,none),z7.2.2.2)))),(z5.2.1,(z5.2.2.1,(z5.2.2.2.1,(z5.2.2.2.2.1,
 (z5.2.2.2.2.2.1,(z5.2.2.2.2.2.2.1,(z5.2.2.2.2.2.2.2.1,(z5.2.2.2.2.2.2.2.2.1,(z5.2.2.2.2.2.2.2.2.2.1,(z5.2.2.2.2.2.2.2.2.2.2.1,(z5.2.2.2.2.2.2.2.2.2.2.2,(Ai .i64
 z3.2.2.2.2.2.2.2.2.2.2.2.2.1 1)))))))))))))))))))))) (some (.inl (z3.1,(z5.2.1,(z5.2.2.1,(z5.2.2.2.1,(z5.2.2.2.2.1,(z5.2.2.2.2.2.1,(z5.2.2.2.2.2.2.1,(z5.2.2.2.2.2.2.2.1,
 (z5.2.2.2.2.2.2.2.2.1,(z5.2.2.2.2.2.2.2.2.2.1,(z5.2.2.2.2.2.2.2.2.2.2.1,(z5.2.2.2.2.2.2.2.2.2.2.2,z3.2.2.2.2.2.2.2.2.2.2.2.2.1))))))))))))))))))))) (fun (z4:tqS)=>(some
 (.inl (z4.1,(z4.2.1,(z4.2.2.1,(z4.2.2.2.1,(z4.2.2.2.2.1,(z4.2.2.2.2.2.1,(z4.2.2.2.2.2.2.1,(z4.2.2.2.2.2.2.2.1,(z4.2.2.2.2.2.2.2.2.1,(z4.2.2.2.2.2.2.2.2.2.1,
 (z4.2.2.2.2.2.2.2.2.2.2.1,(z4.2.2.2.2.2.2.2.2.2.2.2.1,(z4.2.2.2.2.2.2.2.2.2.2.2.2,(Ai .i64 z3.2.2.2.2.2.2.2.2.2.2.2.2.2 1)))))))))))))))))) (some (.inr (.inl (z3.1,(z3.2.1,
 (z3.2.2.1,(z3.2.2.2.1,(z3.2.2.2.2.1,(z3.2.2.2.2.2.1,(z3.2.2.2.2.2.2.1,(z3.2.2.2.2.2.2.2.1,(z3.2.2.2.2.2.2.2.2.1,(z3.2.2.2.2.2.2.2.2.2.1,(z3.2.2.2.2.2.2.2.2.2.2.1,
 (z3.2.2.2.2.2.2.2.2.2.2.2.1,z3.2.2.2.2.2.2.2.2.2.2.2.2.1))))))))))))))))
def Vj (x:tqI):(Option tqX):=(bnd (cvL (.P .S (.P (.P (.I .i64) (.H .Y)) (.P (.P (.I .i64) (.H .Y)) (.P (.I .i64) .B)))) (.P .S (.P
 (.P (.I .i64) (.L .Y)) (.P (.P (.I .i64) (.L .Y)) (.P (.I .i64) .B)))) x.1) (fun z1=>(bnd (Z9 (z1,x.2)) (fun z2=>(cnd (iEq z2.1
 (-1)) (bnd (cvL (.P .S (.P (.P (.I .i64) (.H .Y)) (.P (.P (.I .i64) (.H .Y)) (.P (.I .i64) .B)))) (.P .S (.P (.P (.I .i64) (.L .Y)) (.P (.P (.I .i64) (.L .Y)) (.P (.I .i64)
 .B)))) x.1) (fun z3=>(some (z3,z2.2)))) (Aq (Ar (Vt x) (x.1,(z2.2.1,(z2.2.2.1,(z2.2.2.2.1,(z2.2.2.2.2.1,(z2.2.2.2.2.2.1,
 (z2.2.2.2.2.2.2.1,(z2.2.2.2.2.2.2.2.1,(z2.2.2.2.2.2.2.2.2.1,(z2.2.2.2.2.2.2.2.2.2.1,(z2.2.2.2.2.2.2.2.2.2.2.1,(z2.2.2.2.2.2.2.2.2.2.2.2,(z2.1,(Ai .i64 z2.1
 1))))))))))))))) (fun (z3:tqS)=>(chk (Co z3.2.2.2.2.2.2.2.2.2.2.2.2 (Af z3.1) (Af z3.1)) (chk (nEq ((nOf z3.2.2.2.2.2.2.2.2.2.2.2.2)+((nOf (Af z3.1))-(nOf
 z3.2.2.2.2.2.2.2.2.2.2.2.2))) z3.1.length) (chk (Co 0 z3.2.2.2.2.2.2.2.2.2.2.2.2 (Af (A0 (A9 (nOf z3.2.2.2.2.2.2.2.2.2.2.2.2) z3.1) (E7 ((nOf (Af z3.1))-(nOf
 z3.2.2.2.2.2.2.2.2.2.2.2.2)) ([],((0,none),((0,none),(0,false)))))))) (chk (Ht 0 ((nOf z3.2.2.2.2.2.2.2.2.2.2.2.2)-0) (A0 (A9 (nOf z3.2.2.2.2.2.2.2.2.2.2.2.2)
 z3.1) (E7 ((nOf (Af z3.1))-(nOf z3.2.2.2.2.2.2.2.2.2.2.2.2)) ([],((0,none),((0,none),(0,false)))))).length) (bnd (cvL (.P .S (.P (.P (.I .i64) (.H .Y)) (.P (.P (.I
 .i64) (.H .Y)) (.P (.I .i64) .B)))) (.P .S (.P (.P (.I .i64) (.L .Y)) (.P (.P (.I .i64) (.L .Y)) (.P (.I .i64) .B)))) (A9 ((nOf z3.2.2.2.2.2.2.2.2.2.2.2.2)-0) (A0 (A9
 (nOf z3.2.2.2.2.2.2.2.2.2.2.2.2) z3.1) (E7 ((nOf (Af z3.1))-(nOf z3.2.2.2.2.2.2.2.2.2.2.2.2)) ([],((0,none),((0,none),(0,false)))))))) (fun z4=>(some (z4,
 (z3.2.1,(z3.2.2.1,(z3.2.2.2.1,(z3.2.2.2.2.1,(z3.2.2.2.2.2.1,(z3.2.2.2.2.2.2.1,(z3.2.2.2.2.2.2.2.1,(z3.2.2.2.2.2.2.2.2.1,(z3.2.2.2.2.2.2.2.2.2.1,
 (z3.2.2.2.2.2.2.2.2.2.2.1,z3.2.2.2.2.2.2.2.2.2.2.2.1)))))))))))))))))))))))))
def Zfd (x:Zei):Yl->Option Zvy:=fun (z1:Yl)=>(cnd (iLt z1.2.2 (Af x.1)) (Aq (bnd (idx x.1 z1.2.2) (fun z2=>(Aq (cnd
 (Ah z1.2.1) (cnd (iGe z2.1 x.2.1) (chk (Bp (z1.1.length+1) 24) (some (.inl ((A0 z1.1 [x.2]),true)))) (some (.inl (z1.1,z1.2.1)))) (some (.inl (z1.1,z1.2.1)))) (fun (z3
 : Rg)=>(cnd (iNe z2.1 x.2.1) (chk (Bp (z3.1.length+1) 24) (some (.inl ((A0 z3.1 [z2]),z3.2)))) (some (.inl z3))))))) (fun (z2:Rg)=>(some (.inl (z2.1,(z2.2,
 (Ai .i64 z1.2.2 1))))))) (some (.inr (.inl (z1.1,z1.2.1)))))
def Rp (x:Zei):Zwc:=(Aq (Ar (Zfd x) ([],(false,0))) (fun (z1:Rg)=>(Aq (cnd (Ah z1.2) (chk (Bp (z1.1.length+1) 24)
 (some (.inl (A0 z1.1 [x.2])))) (some (.inl z1.1))) (fun (z2:F1)=>(some z2)))))
def Y2 (x:tqF):Zvt:=(bnd (U2 x.1) (fun z1=>(bnd (Rn x.2) (fun z2=>(cnd (Ah z2) (some (z1,false)) (bnd
 (Ro x.1) (fun z3=>(cnd (Ah z3) (some (z1,false)) (Aq (cnd (iEq x.2.1 1) (bnd (cvL (.P .S (.P (.P (.I .i64) (.L .Y)) (.P (.P (.I .i64) (.L .Y)) (.P (.I
 .i64) .B)))) (.P .S (.P (.P (.I .i64) (.H .Y)) (.P (.P (.I .i64) (.H .Y)) (.P (.I .i64) .B)))) z1.1) (fun z4=>(bnd (U4 (z4,x.2.2.1)) (fun z5 =>
 (some (.inl (x.2.1,(x.2.2.1.1,(x.2.2.1.2.1.1,(x.2.2.1.2.2.1.1,(x.2.2.1.2.2.2.1,(x.2.2.1.2.2.2.2,(x.2.2.2.1,(x.2.2.2.2.1,(x.2.2.2.2.2.1,(x.2.2.2.2.2.2.1,
 (x.2.2.2.2.2.2.2,(z5,z1.2.1)))))))))))))))))) (cnd (iEq x.2.1 2) (bnd (cvL (.P .S (.P (.P (.I .i64) (.L .Y)) (.P (.P (.I .i64) (.L .Y)) (.P (.I .i64) .B)))) (.P .S (.P (.P (.I
 .i64) (.H .Y)) (.P (.P (.I .i64) (.H .Y)) (.P (.I .i64) .B)))) z1.1) (fun z4=>(bnd (Vj (z4,x.2)) (fun z5=>(some (.inl (z5.2.1,
 (z5.2.2.1,(z5.2.2.2.1,(z5.2.2.2.2.1,(z5.2.2.2.2.2.1,(z5.2.2.2.2.2.2.1,(z5.2.2.2.2.2.2.2.1,(z5.2.2.2.2.2.2.2.2.1,(z5.2.2.2.2.2.2.2.2.2.1,(z5.2.2.2.2.2.2.2.2.2.2.1,
 (z5.2.2.2.2.2.2.2.2.2.2.2,(z5.1,z1.2.1)))))))))))))))))) (cnd (iEq x.2.1 3) (some (.inl (x.2.1,(x.2.2.1.1,(x.2.2.1.2.1.1,(x.2.2.1.2.2.1.1,(x.2.2.1.2.2.2.1,
 (x.2.2.1.2.2.2.2,(x.2.2.2.1,(x.2.2.2.2.1,(x.2.2.2.2.2.1,(x.2.2.2.2.2.2.1,(x.2.2.2.2.2.2.2,(z1.1,x.2.2.2.2.1)))))))))))))) (some (.inl (x.2.1,(x.2.2.1.1,(x.2.2.1.2.1.1,
 (x.2.2.1.2.2.1.1,(x.2.2.1.2.2.2.1,(x.2.2.1.2.2.2.2,(x.2.2.2.1,(x.2.2.2.2.1,(x.2.2.2.2.2.1,(x.2.2.2.2.2.2.1,(x.2.2.2.2.2.2.2,(z1.1,z1.2.1))))))))))))))))) (fun (z4:(Int
 × ((List UInt8)×(Int×(Int×(Int×(Bool×((List UInt8)×(Int×(Int×(Int×(Int×Iy))))))))))))=>(Aq (cnd (iGt z4.2.2.2.2.2.2.2.2.1 0) (bnd (Rp
 (z1.2.2,(z4.2.2.2.2.2.2.2.2.1,(z4.2.2.2.2.2.2.2.2.2.1,z4.2.2.2.2.2.2.2.2.2.2.1)))) (fun z5=>(some (.inl z5)))) (some (.inl z1.2.2))) (fun (z5:F1)=>(bnd
 (Ro (z4.2.2.2.2.2.2.2.2.2.2.2.1,(z4.2.2.2.2.2.2.2.2.2.2.2.2,z5))) (fun z6=>(cnd (Ah z6) (bnd (U2 x.1) (fun z7=>(some (z7,false))))
 (some ((z4.2.2.2.2.2.2.2.2.2.2.2.1,(z4.2.2.2.2.2.2.2.2.2.2.2.2,z5)),true)))))))))))))))))
def Zac (x:J0):(Int)->Option M6:=fun (z3:Int)=>(cnd (iLt z3 (Af x.1)) (bnd (idx x.1 z3) (fun z4=>(cnd (iGt (Af z4) 120)
 (some (.inr (.inr false))) (some (.inl (Ai .i64 z3 1)))))) (some (.inr (.inl ()))))
def Zad (x:J0):(Int)->Option Uo:=fun (z4:Int)=>(cnd (iLt z4 (Af x.2.1)) (bnd (idx x.2.1 z4) (fun z5=>(bnd (De (z5.1,(0,
 (Ax .i64 (Af x.1) 1)))) (fun z6=>(cnd (Ah z6) (some (.inr false)) (cnd (iGt (Af z5.2) 120) (some (.inr false)) (some (.inl (Ai .i64 z4 1))))))))) (some (.inr
 true)))
def Uw (x:J0):B6:=(bnd (De ((Af x.1),(1,64))) (fun z1=>(cnd (Ah z1) (some false) (cnd (iGt (Af x.2.1) 40) (some false)
 (bnd (De (x.2.2.1,((-1),1000))) (fun z2=>(cnd (Ah z2) (some false) (Aq (Ar (Zac x) 0) (fun (z3:Unit)=>(Ar (Zad x) 0))))))))))
def Zey (x:(Int×Int)):(Option Int):=(some (Ai .i64 (Ai .i64 2 (K5 .i64 30 (Ob x.1 2))) x.2))
def Zfb:(Int×Int)->Option Zv8:=fun (z3:(Int×Int))=>(cnd (iLt z3.2 8) (Aq (cnd (iGt (K5 .i64 z3.1 2) 65535) (some (.inl (Oc .i64 (K5 .i64
 z3.1 2) 69665))) (some (.inl (K5 .i64 z3.1 2)))) (fun (z4:Int)=>(some (.inl (z4,(Ai .i64 z3.2 1)))))) (some (.inr (.inl z3.1))))
def Zfc (x:(List UInt8)):(Int×Int)->Option Lu:=fun (z1:(Int×Int))=>(cnd (iLt z1.2 (Af x)) (Aq (bnd (idx x z1.2) (fun z2 =>
 (Ar (Zfb) ((Oc .i64 z1.1 (K5 .i64 256 (Ak .i64 (y2i z2)))),0)))) (fun (z2:Int)=>(some (.inl (z2,(Ai .i64 z1.2 1)))))) (some (.inr (.inl z1.1))))
def Zex (x:(List UInt8)):(Option Int):=(Aq (Ar (Zfc x) (65535,0)) (fun (z1:Int)=>(some (Av .i64 z1 65535))))
def Zfe (x:Zwe):(Int)->Option Uo:=fun (z1:Int)=>(cnd (iLt z1 (Af x.1)) (bnd (idx x.1 z1) (fun z2=>(bnd (idx x.2 z1) (fun z3=>(cnd (iNe (y2i z2) (y2i z3)) (some (.inr false)) (some (.inl (Ai .i64 z1 1)))))))) (some (.inr true)))
def Po (x:Zwe):B6:=(cnd (iNe (Af x.1) (Af x.2)) (some false) (Ar (Zfe x) 0))
def Zxe (x:Zwa):(Int)->Option Uo:=fun (z1:Int)=>(cnd (iLt z1 (Af x.1)) (bnd (idx x.1 z1) (fun z2=>(bnd (idx x.2 z1) (fun
 z3=>(bnd (Po (z2,z3)) (fun z4=>(cnd (Ah z4) (some (.inr false)) (some (.inl (Ai .i64 z1 1)))))))))) (some (.inr true)))
def Zd (x:Zwa):B6:=(cnd (iNe (Af x.1) (Af x.2)) (some false) (Ar (Zxe x) 0))
def Zi (x:Yk):B6:=(cnd (iNe x.1.1 x.2.1) (some false) (bnd (Po (x.1.2,x.2.2)) (fun z1=>(cnd (Ah z1) (some false) (some
 true)))))
def Zxh (x:Zv5):(Int)->Option Uo:=fun (z1:Int)=>(cnd (iLt z1 (Af x.1)) (bnd (idx x.1 z1) (fun z2=>(bnd (idx x.2 z1) (fun z3=>(bnd (Zi ((z2.1,z2.2),(z3.1,z3.2))) (fun z4=>(cnd (Ah z4) (some (.inr false)) (some (.inl (Ai .i64 z1 1)))))))))) (some (.inr true)))
def Zj (x:Zv5):B6:=(cnd (iNe (Af x.1) (Af x.2)) (some false) (Ar (Zxh x) 0))
def Ze (x:(J0×J0)):B6:=(bnd (Zd (x.1.1,x.2.1)) (fun z1=>(cnd (Ah z1) (some false) (bnd (Zj (x.1.2.1,x.2.2.1))
 (fun z2=>(cnd (Ah z2) (some false) (cnd (iNe x.1.2.2.1 x.2.2.2.1) (some false) (cnd (bNe x.1.2.2.2 x.2.2.2.2) (some false) (some true)))))))))
def U5 (x:Yk):B6:=(cnd (iNe x.1.1 x.2.1) (some false) (bnd (Po (x.1.2,x.2.2)) (fun z1=>(cnd (Ah z1) (some false) (some
 true)))))
def U6 (x:Zvs):B6:=(cnd (Ah (sEq x.1.1 x.2.1)) (some false) (bnd (U5 ((x.1.2.1.1,x.1.2.1.2),(x.2.2.1.1,x.2.2.1.2))) (fun z1 =>
 (cnd (Ah z1) (some false) (bnd (U5 ((x.1.2.2.1.1,x.1.2.2.1.2),(x.2.2.2.1.1,x.2.2.2.1.2))) (fun z2=>(cnd (Ah z2) (some false) (cnd (iNe x.1.2.2.2.1
 x.2.2.2.2.1) (some false) (cnd (bNe x.1.2.2.2.2 x.2.2.2.2.2) (some false) (some true))))))))))
def Zxg (x:Zvq):(Int)->Option Uo:=fun (z1:Int)=>(cnd (iLt z1 (Af x.1)) (bnd (idx x.1 z1) (fun z2=>(bnd (idx x.2 z1) (fun z3=>(bnd (U6 ((z2.1,((z2.2.1.1,z2.2.1.2),((z2.2.2.1.1,z2.2.2.1.2),(z2.2.2.2.1,z2.2.2.2.2)))),(z3.1,((z3.2.1.1,z3.2.1.2),((z3.2.2.1.1,z3.2.2.1.2),
 (z3.2.2.2.1,z3.2.2.2.2)))))) (fun z4=>(cnd (Ah z4) (some (.inr false)) (some (.inl (Ai .i64 z1 1)))))))))) (some (.inr true)))
def Zh (x:Zvq):B6:=(cnd (iNe (Af x.1) (Af x.2)) (some false) (Ar (Zxg x) 0))
def Zf (x:(H4×H4)):B6:=(cnd (iNe x.1.1 x.2.1) (some false) (cnd (iNe x.1.2.1 x.2.2.1) (some false) (cnd (iNe x.1.2.2 x.2.2.2) (some false) (some
 true))))
def Zxf (x:Zv6):(Int)->Option Uo:=fun (z1:Int)=>(cnd (iLt z1 (Af x.1)) (bnd (idx x.1 z1) (fun z2=>(bnd (idx x.2 z1) (fun z3=>(bnd (Zf ((z2.1,(z2.2.1,z2.2.2)),(z3.1,(z3.2.1,z3.2.2)))) (fun z4=>(cnd (Ah z4) (some (.inr false)) (some (.inl (Ai .i64 z1 1)))))))))) (some
 (.inr true)))
def Zg (x:Zv6):B6:=(cnd (iNe (Af x.1) (Af x.2)) (some false) (Ar (Zxf x) 0))
def Rq (x:(Fd×Fd)):B6:=(bnd (Zh (x.1.1,x.2.1)) (fun z1=>(cnd (Ah z1) (some false) (cnd (iNe x.1.2.1 x.2.2.1) (some false)
 (bnd (Zg (x.1.2.2,x.2.2.2)) (fun z2=>(cnd (Ah z2) (some false) (some true))))))))
def Zam:Zlq->Option (Zlq ⊕ (C5 ⊕ D4)):=fun (z1:Zlq)=>(cnd (iLt z1.2.2 (Af z1.1)) (bnd (idx z1.1 z1.2.2) (fun z2=>(some (.inl
 ((Am z1.1 (nOf z1.2.2) (u8 (Ak .u8 z1.2.1))),((Ai .i64 z1.2.1 1),(Ai .i64 z1.2.2 1))))))) (some (.inr (.inl (z1.1,z1.2.1)))))
def Ng (x:C5):Zem:=(Aq (Ar (Zam) (x.1,(x.2,0))) (fun (z1:C5)=>(chk (nEq z1.1.length x.1.length) (some (z1.2,z1.1)))))
def Vn:Zlo->Option (Zlo ⊕ (Lt ⊕ Zwf)):=fun (z1:Zlo)=>(cnd (iLt z1.2.2 (Af z1.1)) (bnd (idx z1.1 z1.2.2) (fun z2 =>
 (bnd (idx z1.1 (Int.ofNat (nOf z1.2.2))) (fun z3=>(chk (nEq z3.length z2.length) (bnd (Ng (z2,z1.2.1)) (fun z4=>(chk (nEq z4.2.length
 z2.length) (bnd (idx z1.1 (Int.ofNat (nOf z1.2.2))) (fun z5=>(some (.inl ((Am z1.1 (nOf z1.2.2) z4.2),(z4.1,(Ai .i64 z1.2.2 1))))))))))))))) (some (.inr
 (.inl (z1.1,z1.2.1)))))
def Zm (x:Lt):(Option Zwf):=(Aq (Ar (Vn) (x.1,(x.2,0))) (fun (z1:Lt)=>(chk (nEq z1.1.length x.1.length) (some (z1.2,
 z1.1)))))
def Vq:Zlm->Option (Zlm ⊕ (Ls ⊕ Zwd)):=fun (z1:Zlm)=>(cnd (iLt z1.2.2 (Af z1.1)) (bnd (idx z1.1 z1.2.2) (fun z2=>(bnd (idx
 (Am z1.1 (nOf z1.2.2) (z1.2.1,z2.2)) z1.2.2) (fun z3=>(bnd (idx (Am z1.1 (nOf z1.2.2) (z1.2.1,z2.2)) (Int.ofNat (nOf z1.2.2))) (fun z4=>(chk (nEq
 z4.2.length z3.2.length) (bnd (Ng (z3.2,(Ai .i64 z1.2.1 1))) (fun z5=>(chk (nEq z5.2.length z3.2.length) (bnd (idx (Am z1.1 (nOf z1.2.2) (z1.2.1,
 z2.2)) (Int.ofNat (nOf z1.2.2))) (fun z6=>(some (.inl ((Am (Am z1.1 (nOf z1.2.2) (z1.2.1,z2.2)) (nOf z1.2.2) (z6.1,z5.2)),(z5.1,(Ai .i64 z1.2.2
 1))))))))))))))))) (some (.inr (.inl (z1.1,z1.2.1)))))
def Zr (x:Ls):(Option Zwd):=(Aq (Ar (Vq) (x.1,(x.2,0))) (fun (z1:Ls)=>(chk (nEq z1.1.length x.1.length) (some (z1.2,
 z1.1)))))
def Zn (x:M5):(Option Ymt):=(bnd (Zm (x.1.1,x.2)) (fun z1=>(chk (nEq z1.2.length x.1.1.length) (bnd (Zr (x.1.2.1,
 z1.1)) (fun z2=>(chk (nEq z2.2.length x.1.2.1.length) (chk (nEq z1.2.length x.1.1.length) (chk (nEq z2.2.length x.1.2.1.length) (some (z2.1,(z1.2,z2.2)))))))))))
def Zan:D4->Option (D4 ⊕ ((List UInt8) ⊕ (List UInt8))):=fun (z1:D4)=>(cnd (iGt z1.1 0) (chk (Uh [(u8 (Ak .u8 (Ai .i64 48 (Ob z1.1
 10))))] z1.2) (some (.inl ((Zh0 .i64 z1.1 10),(A0 [(u8 (Ak .u8 (Ai .i64 48 (Ob z1.1 10))))] z1.2))))) (some (.inr (.inl z1.2))))
def U8 (x:Int):Lv:=(cnd (iLe x 0) (some [109,48]) (Aq (Ar (Zan) (x,[])) (fun (z1:(List UInt8))=>(chk (Uh [109] z1) (some
 (A0 [109] z1))))))
def Vp:Zll->Option (Zll ⊕ (Iy ⊕ Zv2)):=fun (z1:Zll)=>(cnd (iLt z1.2.2 (Af z1.1)) (bnd (U8 z1.2.1) (fun z2 =>
 (bnd (idx z1.1 z1.2.2) (fun z3=>(bnd (idx (Am z1.1 (nOf z1.2.2) (z2,((z3.2.1.1,z3.2.1.2),((z3.2.2.1.1,z3.2.2.1.2),(z3.2.2.2.1,z3.2.2.2.2))))) z1.2.2) (fun z4=>(bnd (idx (Am (Am z1.1 (nOf z1.2.2) (z2,((z3.2.1.1,z3.2.1.2),((z3.2.2.1.1,z3.2.2.1.2),(z3.2.2.2.1,z3.2.2.2.2))))) (nOf z1.2.2) (z4.1,(((Ai .i64 z1.2.1 1),
 z4.2.1.2),((z4.2.2.1.1,z4.2.2.1.2),(z4.2.2.2.1,z4.2.2.2.2))))) z1.2.2) (fun z5=>(bnd (idx (Am (Am z1.1 (nOf z1.2.2) (z2,((z3.2.1.1,z3.2.1.2),((z3.2.2.1.1,
 z3.2.2.1.2),(z3.2.2.2.1,z3.2.2.2.2))))) (nOf z1.2.2) (z4.1,(((Ai .i64 z1.2.1 1),z4.2.1.2),((z4.2.2.1.1,z4.2.2.1.2),(z4.2.2.2.1,z4.2.2.2.2))))) (Int.ofNat (nOf z1.2.2)))
 (fun z6=>(chk (nEq z6.2.1.2.length z5.2.1.2.length) (bnd (Ng (z5.2.1.2,(Ai .i64 (Ai .i64 z1.2.1 1) 1))) (fun z7=>(chk (nEq z7.2.length
 z5.2.1.2.length) (bnd (idx (Am (Am z1.1 (nOf z1.2.2) (z2,((z3.2.1.1,z3.2.1.2),((z3.2.2.1.1,z3.2.2.1.2),(z3.2.2.2.1,z3.2.2.2.2))))) (nOf z1.2.2) (z4.1,(((Ai .i64
 z1.2.1 1),z4.2.1.2),((z4.2.2.1.1,z4.2.2.1.2),(z4.2.2.2.1,z4.2.2.2.2))))) (Int.ofNat (nOf z1.2.2))) (fun z8=>(bnd (idx (Am (Am (Am z1.1 (nOf z1.2.2) (z2,
 ((z3.2.1.1,z3.2.1.2),((z3.2.2.1.1,z3.2.2.1.2),(z3.2.2.2.1,z3.2.2.2.2))))) (nOf z1.2.2) (z4.1,(((Ai .i64 z1.2.1 1),z4.2.1.2),((z4.2.2.1.1,z4.2.2.1.2),(z4.2.2.2.1,
 z4.2.2.2.2))))) (nOf z1.2.2) (z8.1,((z8.2.1.1,z7.2),z8.2.2))) z1.2.2) (fun z9=>(bnd (idx (Am (Am (Am (Am z1.1 (nOf z1.2.2) (z2,((z3.2.1.1,z3.2.1.2),
 ((z3.2.2.1.1,z3.2.2.1.2),(z3.2.2.2.1,z3.2.2.2.2))))) (nOf z1.2.2) (z4.1,(((Ai .i64 z1.2.1 1),z4.2.1.2),((z4.2.2.1.1,z4.2.2.1.2),(z4.2.2.2.1,z4.2.2.2.2))))) (nOf
 z1.2.2) (z8.1,((z8.2.1.1,z7.2),z8.2.2))) (nOf z1.2.2) (z9.1,((z9.2.1.1,z9.2.1.2),((z7.1,z9.2.2.1.2),(z9.2.2.2.1,z9.2.2.2.2))))) z1.2.2) (fun z10=>(bnd (idx
 (Am (Am (Am (Am z1.1 (nOf z1.2.2) (z2,((z3.2.1.1,z3.2.1.2),((z3.2.2.1.1,z3.2.2.1.2),(z3.2.2.2.1,z3.2.2.2.2))))) (nOf z1.2.2) (z4.1,(((Ai .i64 z1.2.1 1),
 z4.2.1.2),((z4.2.2.1.1,z4.2.2.1.2),(z4.2.2.2.1,z4.2.2.2.2))))) (nOf z1.2.2) (z8.1,((z8.2.1.1,z7.2),z8.2.2))) (nOf z1.2.2) (z9.1,((z9.2.1.1,z9.2.1.2),((z7.1,
 z9.2.2.1.2),(z9.2.2.2.1,z9.2.2.2.2))))) (Int.ofNat (nOf z1.2.2))) (fun z11=>(chk (nEq z11.2.2.1.2.length z10.2.2.1.2.length) (bnd (Ng (z10.2.2.1.2,(Ai
 .i64 z7.1 1))) (fun z12=>(chk (nEq z12.2.length z10.2.2.1.2.length) (bnd (idx (Am (Am (Am (Am z1.1 (nOf z1.2.2) (z2,((z3.2.1.1,z3.2.1.2),((z3.2.2.1.1,
 z3.2.2.1.2),(z3.2.2.2.1,z3.2.2.2.2))))) (nOf z1.2.2) (z4.1,(((Ai .i64 z1.2.1 1),z4.2.1.2),((z4.2.2.1.1,z4.2.2.1.2),(z4.2.2.2.1,z4.2.2.2.2))))) (nOf z1.2.2) (z8.1,
 ((z8.2.1.1,z7.2),z8.2.2))) (nOf z1.2.2) (z9.1,((z9.2.1.1,z9.2.1.2),((z7.1,z9.2.2.1.2),(z9.2.2.2.1,z9.2.2.2.2))))) (Int.ofNat (nOf z1.2.2))) (fun z13=>(bnd (idx
 (Am (Am (Am (Am (Am z1.1 (nOf z1.2.2) (z2,((z3.2.1.1,z3.2.1.2),((z3.2.2.1.1,z3.2.2.1.2),(z3.2.2.2.1,z3.2.2.2.2))))) (nOf z1.2.2) (z4.1,(((Ai .i64 z1.2.1 1),
 z4.2.1.2),((z4.2.2.1.1,z4.2.2.1.2),(z4.2.2.2.1,z4.2.2.2.2))))) (nOf z1.2.2) (z8.1,((z8.2.1.1,z7.2),z8.2.2))) (nOf z1.2.2) (z9.1,((z9.2.1.1,z9.2.1.2),((z7.1,
 z9.2.2.1.2),(z9.2.2.2.1,z9.2.2.2.2))))) (nOf z1.2.2) (z13.1,(z13.2.1,((z13.2.2.1.1,z12.2),z13.2.2.2)))) z1.2.2) (fun z14=>(bnd (idx (Am (Am (Am (Am (Am
 (Am z1.1 (nOf z1.2.2) (z2,((z3.2.1.1,z3.2.1.2),((z3.2.2.1.1,z3.2.2.1.2),(z3.2.2.2.1,z3.2.2.2.2))))) (nOf z1.2.2) (z4.1,(((Ai .i64 z1.2.1 1),z4.2.1.2),((z4.2.2.1.1,
 z4.2.2.1.2),(z4.2.2.2.1,z4.2.2.2.2))))) (nOf z1.2.2) (z8.1,((z8.2.1.1,z7.2),z8.2.2))) (nOf z1.2.2) (z9.1,((z9.2.1.1,z9.2.1.2),((z7.1,z9.2.2.1.2),(z9.2.2.2.1,
 z9.2.2.2.2))))) (nOf z1.2.2) (z13.1,(z13.2.1,((z13.2.2.1.1,z12.2),z13.2.2.2)))) (nOf z1.2.2) (z14.1,((z14.2.1.1,z14.2.1.2),((z14.2.2.1.1,z14.2.2.1.2),(z12.1,
 z14.2.2.2.2))))) z1.2.2) (fun z15=>(some (.inl ((Am (Am (Am (Am (Am (Am (Am z1.1 (nOf z1.2.2) (z2,((z3.2.1.1,z3.2.1.2),((z3.2.2.1.1,z3.2.2.1.2),
 (z3.2.2.2.1,z3.2.2.2.2))))) (nOf z1.2.2) (z4.1,(((Ai .i64 z1.2.1 1),z4.2.1.2),((z4.2.2.1.1,z4.2.2.1.2),(z4.2.2.2.1,z4.2.2.2.2))))) (nOf z1.2.2) (z8.1,((z8.2.1.1,z7.2),
 z8.2.2))) (nOf z1.2.2) (z9.1,((z9.2.1.1,z9.2.1.2),((z7.1,z9.2.2.1.2),(z9.2.2.2.1,z9.2.2.2.2))))) (nOf z1.2.2) (z13.1,(z13.2.1,((z13.2.2.1.1,z12.2),z13.2.2.2)))) (nOf
 z1.2.2) (z14.1,((z14.2.1.1,z14.2.1.2),((z14.2.2.1.1,z14.2.2.1.2),(z12.1,z14.2.2.2.2))))) (nOf z1.2.2) (z15.1,((z15.2.1.1,z15.2.1.2),((z15.2.2.1.1,z15.2.2.1.2),
 (z15.2.2.2.1,(iEq (Ob (Ai .i64 z12.1 1) 3) 0)))))),((Ai .i64 (Ai .i64 z12.1 1) 1),(Ai .i64 z1.2.2 1))))))))))))))))))))))))))))))))))))) (some (.inr (.inl (z1.1,
 z1.2.1)))))
def Zp (x:Iy):(Option Zv2):=(Aq (Ar (Vp) (x.1,(x.2,0))) (fun (z1:Iy)=>(chk (nEq z1.1.length x.1.length) (some (z1.2,
 z1.1)))))
def Vo:Zln->Option (Zln ⊕ (Un ⊕ Zlp)):=fun (z1:Zln)=>(cnd (iLt z1.2.2 (Af z1.1)) (bnd (idx z1.1 z1.2.2) (fun z2=>(bnd (idx
 (Am z1.1 (nOf z1.2.2) (z1.2.1,(z2.2.1,z2.2.2))) z1.2.2) (fun z3=>(bnd (idx (Am (Am z1.1 (nOf z1.2.2) (z1.2.1,(z2.2.1,z2.2.2))) (nOf z1.2.2) (z3.1,((Ai
 .i64 z1.2.1 1),z3.2.2))) z1.2.2) (fun z4=>(some (.inl ((Am (Am (Am z1.1 (nOf z1.2.2) (z1.2.1,(z2.2.1,z2.2.2))) (nOf z1.2.2) (z3.1,((Ai .i64 z1.2.1 1),
 z3.2.2))) (nOf z1.2.2) (z4.1,(z4.2.1,(Ai .i64 (Ai .i64 z1.2.1 1) 1)))),((Ai .i64 (Ai .i64 (Ai .i64 z1.2.1 1) 1) 1),(Ai .i64 z1.2.2 1))))))))))) (some (.inr (.inl
 (z1.1,z1.2.1)))))
def Zo (x:Un):(Option Zlp):=(Aq (Ar (Vo) (x.1,(x.2,0))) (fun (z1:Un)=>(chk (nEq z1.1.length x.1.length) (some (z1.2,
 z1.1)))))
def Zq (x:Zeg):(Option Ymo):=(bnd (Zp (x.1.1,x.2)) (fun z1=>(chk (nEq z1.2.length x.1.1.length) (bnd (Zo (x.1.2.2,
 z1.1)) (fun z2=>(chk (nEq z2.2.length x.1.2.2.length) (chk (nEq z1.2.length x.1.1.length) (chk (nEq z2.2.length x.1.2.2.length) (some (z2.1,(z1.2,z2.2)))))))))))
def Zfg (x:C5):(Int×Int)->Option Lu:=fun (z1:(Int×Int))=>(cnd (iLt z1.2 (Af x.1)) (bnd (idx x.1 z1.2) (fun z2=>(cnd (iNe
 (y2i z2) (y2i (u8 (Ak .u8 z1.1)))) (some (.inr (.inr (-1)))) (some (.inl ((Ai .i64 z1.1 1),(Ai .i64 z1.2 1))))))) (some (.inr (.inl z1.1))))
def L1 (x:C5):(Option Int):=(Aq (Ar (Zfg x) (x.2,0)) (fun (z1:Int)=>(some z1)))
def Zff (x:Lt):(Int×Int)->Option Lu:=fun (z1:(Int×Int))=>(cnd (iLt z1.2 (Af x.1)) (bnd (idx x.1 z1.2) (fun z2 =>
 (bnd (L1 (z2,z1.1)) (fun z3=>(cnd (iLt z3 0) (some (.inr (.inr (-1)))) (some (.inl (z3,(Ai .i64 z1.2 1))))))))) (some (.inr (.inl z1.1))))
def Zmb (x:Lt):(Option Int):=(Aq (Ar (Zff x) (x.2,0)) (fun (z1:Int)=>(some z1)))
def Zal (x:Ls):(Int×Int)->Option Lu:=fun (z1:(Int×Int))=>(cnd (iLt z1.2 (Af x.1)) (bnd (idx x.1 z1.2) (fun z2=>(cnd (iNe
 z2.1 z1.1) (some (.inr (.inr (-1)))) (bnd (idx x.1 z1.2) (fun z3=>(bnd (L1 (z3.2,(Ai .i64 z1.1 1))) (fun z4=>(cnd (iLt z4 0) (some (.inr (.inr
 (-1)))) (some (.inl (z4,(Ai .i64 z1.2 1)))))))))))) (some (.inr (.inl z1.1))))
def Zmc (x:Ls):(Option Int):=(Aq (Ar (Zal x) (x.2,0)) (fun (z1:Int)=>(some z1)))
def Zak (x:Iy):(Int×Int)->Option Lu:=fun (z1:(Int×Int))=>(cnd (iLt z1.2 (Af x.1)) (bnd (idx x.1 z1.2) (fun z2=>(bnd
 (U8 z1.1) (fun z3=>(cnd (Ah (sEq z2.1 z3)) (some (.inr (.inr (-1)))) (bnd (idx x.1 z1.2) (fun z4=>(cnd (iNe z4.2.1.1 (Ai .i64 z1.1 1))
 (some (.inr (.inr (-1)))) (bnd (idx x.1 z1.2) (fun z5=>(bnd (L1 (z5.2.1.2,(Ai .i64 (Ai .i64 z1.1 1) 1))) (fun z6=>(cnd (iLt z6 0) (some (.inr
 (.inr (-1)))) (bnd (idx x.1 z1.2) (fun z7=>(cnd (iNe z7.2.2.1.1 z6) (some (.inr (.inr (-1)))) (bnd (idx x.1 z1.2) (fun z8=>(bnd (L1 (z8.2.2.1.2,
 (Ai .i64 z6 1))) (fun z9=>(cnd (iLt z9 0) (some (.inr (.inr (-1)))) (bnd (idx x.1 z1.2) (fun z10=>(cnd (iNe z10.2.2.2.1 z9) (some (.inr (.inr (-1)))) (bnd
 (idx x.1 z1.2) (fun z11=>(cnd (bNe z11.2.2.2.2 (iEq (Ob (Ai .i64 z9 1) 3) 0)) (some (.inr (.inr (-1)))) (some (.inl ((Ai .i64 (Ai .i64 z9 1) 1),(Ai .i64
 z1.2 1))))))))))))))))))))))))))))))) (some (.inr (.inl z1.1))))
def Zl (x:Iy):(Option Int):=(Aq (Ar (Zak x) (x.2,0)) (fun (z1:Int)=>(some z1)))
def Zaj (x:Un):(Int×Int)->Option Lu:=fun (z1:(Int×Int))=>(cnd (iLt z1.2 (Af x.1)) (bnd (idx x.1 z1.2) (fun z2=>(cnd (iNe
 z2.1 z1.1) (some (.inr (.inr (-1)))) (bnd (idx x.1 z1.2) (fun z3=>(cnd (iNe z3.2.1 (Ai .i64 z1.1 1)) (some (.inr (.inr (-1)))) (bnd (idx x.1 z1.2) (fun z4
 => (cnd (iNe z4.2.2 (Ai .i64 (Ai .i64 z1.1 1) 1)) (some (.inr (.inr (-1)))) (some (.inl ((Ai .i64 (Ai .i64 (Ai .i64 z1.1 1) 1) 1),(Ai .i64 z1.2 1))))))))))))) (some
 (.inr (.inl z1.1))))
def Zk (x:Un):(Option Int):=(Aq (Ar (Zaj x) (x.2,0)) (fun (z1:Int)=>(some z1)))
def U7 (x:Zeg):(Option Int):=(bnd (Zl (x.1.1,x.2)) (fun z1=>(cnd (iLt z1 0) (some (-1)) (bnd (Zk (x.1.2.2,z1)) (fun
 z2=>(cnd (iLt z2 0) (some (-1)) (some z2)))))))
def Va (x:((List (List UInt8))×(List (Int×(List UInt8)))×Int×Bool)×Int):Option (List UInt8):=bnd (Px (Zz x.1) (some (Ig x.1.1 x.1.2.1 x.1.2.2.1))) fun _=>chk (decide (x.1.1.length<2^62/\x.1.2.1.length<2^62/\(∀b∈x.1.1,b.length<2^45)/\∀w∈x.1.2.1,w.2.length<2^45)) (some (Ox x.1.1 x.1.2.1 x.1.2.2.1 x.2))
def Rt (x:C5):Iz:=(bnd (B0 (x.2,(0,(Ax .i64 (Af x.1) 2)))) (fun z1=>(cnd (Ah z1) (some (0,(0,false))) (bnd (idx x.1 x.2)
 (fun z2=>(bnd (idx x.1 (Ai .i64 x.2 1)) (fun z3=>(some ((iOr .i64 (Br .i64 (Ak .i64 (y2i z2)) 8) (Ak .i64 (y2i z3))),((Ai .i64 x.2 2),
 true))))))))))
def En (x:I0):Iz:=(cnd x.2.2 (some (0,(x.2.1,true))) (cnd (iGe x.2.1 (Af x.1)) (some (0,(x.2.1,true))) (bnd (idx x.1 (Ax .i64 (Ai .i64
 x.2.1 1) 1)) (fun z1=>(some ((Ak .i64 (y2i z1)),((Ai .i64 x.2.1 1),x.2.2)))))))
def Pt (x:I0):Iz:=(bnd (En (x.1,(x.2.1,x.2.2))) (fun z1=>(bnd (En (x.1,(z1.2.1,z1.2.2))) (fun z2=>(some
 ((iOr .i64 (Br .i64 z1.1 8) z2.1),(z2.2.1,z2.2.2)))))))
def Z2 (x:C5):Zej:=(bnd (Rt (x.1,x.2)) (fun z1=>(cnd (Ah z1.2.2) (some ([],(0,false))) (cnd (iGt z1.1 60) (some ([],(0,
 false))) (cnd (iGt z1.1 (Ax .i64 (Af x.1) z1.2.1)) (some ([],(0,false))) (chk (Co z1.2.1 (Ai .i64 z1.2.1 z1.1) (Af x.1)) (some ((A9 ((nOf (Ai .i64 z1.2.1
 z1.1))-(nOf z1.2.1)) (C0 (nOf z1.2.1) x.1)),((Ai .i64 z1.2.1 z1.1),true)))))))))
def J4 (x:I0):Zej:=(bnd (Z2 (x.1,x.2.1)) (fun z1=>(cnd x.2.2 (some ([],(x.2.1,true))) (cnd (Ah z1.2.2) (some ([],(x.2.1,
 true))) (some (z1.1,(z1.2.1,x.2.2)))))))
def Rz (x:I0):Zv9:=(bnd (En (x.1,(x.2.1,x.2.2))) (fun z1=>(bnd (J4 (x.1,(z1.2.1,z1.2.2))) (fun z2 =>
 (some ((z1.1,z2.1),(z2.2.1,z2.2.2)))))))
def Ps (x:I0):Zv0:=(bnd (J4 (x.1,(x.2.1,x.2.2))) (fun z1=>(bnd (En (x.1,(z1.2.1,z1.2.2))) (fun z2 =>
 (bnd (En (x.1,(z2.2.1,z2.2.2))) (fun z3=>(cnd z3.2.2 (some ((z1.1,((0,[]),((0,[]),(z2.1,(iEq z3.1 1))))),(z3.2.1,true))) (Aq (cnd (Ah (iGt z3.1
 1)) (bnd (Di (z1.1,((0,[]),((0,[]),(z2.1,(iEq z3.1 1)))))) (fun z4=>(cnd z4 (bnd (Rz (x.1,(z3.2.1,(iGt z3.1 1)))) (fun z5=>(some
 (.inl (z5.2.1,(z5.2.2,(z5.1.1,z5.1.2))))))) (some (.inl (z3.2.1,((iGt z3.1 1),(0,[])))))))) (some (.inl (z3.2.1,((iGt z3.1 1),(0,[])))))) (fun (z4:Zek)=>(Aq (cnd
 (Ah z4.2.1) (bnd (Cx (z1.1,((z4.2.2.1,z4.2.2.2),((0,[]),(z2.1,(iEq z3.1 1)))))) (fun z5=>(cnd z5 (bnd (Rz (x.1,(z4.1,z4.2.1))) (fun z6=>(some (.inl (z6.2.1,(z6.2.2,(z6.1.1,z6.1.2))))))) (some (.inl (z4.1,(z4.2.1,(0,[])))))))) (some (.inl (z4.1,(z4.2.1,(0,[])))))) (fun (z5:Zek)=>(some
 ((z1.1,((z4.2.2.1,z4.2.2.2),((z5.2.2.1,z5.2.2.2),(z2.1,(iEq z3.1 1))))),(z5.1,z5.2.1))))))))))))))
def Rs (x:(List UInt8)):Zvr:=(cnd (iLt (Ax .i64 (Af x) 2) 0) (some (0,(0,((0,(([],((0,[]),((0,[]),(0,false)))),([],(0,(0,(0,0)))))),
 false)))) (chk (Co 0 (Ax .i64 (Af x) 2) (Af x)) (bnd (Pt ((A9 ((nOf (Ax .i64 (Af x) 2))-0) x),(0,false))) (fun z1=>(bnd (Pt
 ((A9 ((nOf (Ax .i64 (Af x) 2))-0) x),(z1.2.1,z1.2.2))) (fun z2=>(bnd (En ((A9 ((nOf (Ax .i64 (Af x) 2))-0) x),(z2.2.1,z2.2.2))) (fun z3=>(Aq (cnd (iEq z3.1 1) (bnd (Ps ((A9 ((nOf (Ax .i64 (Af x) 2))-0) x),(z3.2.1,z3.2.2))) (fun z4=>(some (.inl (z4.1.1,(z4.1.2.1.1,
 (z4.1.2.1.2,(z4.1.2.2.1.1,(z4.1.2.2.1.2,(z4.1.2.2.2.1,(z4.1.2.2.2.2,([],(0,(z4.2.1,z4.2.2)))))))))))))) (cnd (iEq z3.1 2) (bnd (J4 ((A9 ((nOf (Ax .i64 (Af
 x) 2))-0) x),(z3.2.1,z3.2.2))) (fun z4=>(some (.inl ([],(0,([],(0,([],(0,(false,(z4.1,(0,(z4.2.1,z4.2.2)))))))))))))) (cnd (iEq z3.1 3) (bnd (En
 ((A9 ((nOf (Ax .i64 (Af x) 2))-0) x),(z3.2.1,z3.2.2))) (fun z4=>(some (.inl ([],(0,([],(0,([],(0,(false,([],(z4.1,(z4.2.1,z4.2.2))))))))))))))
 (some (.inl ([],(0,([],(0,([],(0,(false,([],(0,(z3.2.1,z3.2.2))))))))))))))) (fun (z4:Zvx)=>(bnd (En ((A9 ((nOf (Ax .i64 (Af x) 2))-0) x),
 (z4.2.2.2.2.2.2.2.2.2.1,z4.2.2.2.2.2.2.2.2.2.2))) (fun z5=>(bnd (En ((A9 ((nOf (Ax .i64 (Af x) 2))-0) x),(z5.2.1,z5.2.2))) (fun z6 =>
 (bnd (Pt ((A9 ((nOf (Ax .i64 (Af x) 2))-0) x),(z6.2.1,z6.2.2))) (fun z7=>(bnd (Rt (x,(Ax .i64 (Af x) 2))) (fun z8=>(cnd
 z7.2.2 (some (0,(0,((0,(([],((0,[]),((0,[]),(0,false)))),([],(0,(0,(0,0)))))),false)))) (cnd (iNe z7.2.1 (Ax .i64 (Af x) 2)) (some (0,(0,((0,(([],((0,[]),
 ((0,[]),(0,false)))),([],(0,(0,(0,0)))))),false)))) (chk (Co 0 (Ax .i64 (Af x) 2) (Af x)) (bnd (Z5 (A9 ((nOf (Ax .i64 (Af x) 2))-0) x)) (fun z9=>(cnd (iNe z8.1 z9) (some (0,(0,((0,(([],((0,[]),((0,[]),(0,false)))),([],(0,(0,(0,0)))))),false)))) (bnd (Rw (z3.1,((z4.1,((z4.2.1,z4.2.2.1),
 ((z4.2.2.2.1,z4.2.2.2.2.1),(z4.2.2.2.2.2.1,z4.2.2.2.2.2.2.1)))),(z4.2.2.2.2.2.2.2.1,(z4.2.2.2.2.2.2.2.2.1,(z5.1,(z7.1,z6.1))))))) (fun z10=>(cnd (Ah z10)
 (some (0,(0,((0,(([],((0,[]),((0,[]),(0,false)))),([],(0,(0,(0,0)))))),false)))) (some (z1.1,(z2.1,((z3.1,((z4.1,((z4.2.1,z4.2.2.1),((z4.2.2.2.1,
 z4.2.2.2.2.1),(z4.2.2.2.2.2.1,z4.2.2.2.2.2.2.1)))),(z4.2.2.2.2.2.2.2.1,(z4.2.2.2.2.2.2.2.2.1,(z5.1,(z7.1,z6.1)))))),true)))))))))))))))))))))))))))))))
def R5 (x:M5):tqG->Option tqB:=fun (z1:tqG)=>(cnd (iLt z1.2.2.2.2.2.2 30) (bnd (B0 (x.2,(1,60000))) (fun z2=>(cnd z2 (al 3
 (bnd (Ze3 (x.2,z1.2.2.2.2.2.2)) (fun z3=>(bnd (Va (x.1,z3)) (fun z4=>(bnd (Rs z4) (fun z5=>(cnd (Ah z5.2.2.2)
 (some (.inr (.inr ((z1.2.2.2.1,(z1.2.2.2.2.1,z1.2.2.2.2.2.1)),z1.2.2.2.2.2.2)))) (cnd (iNe z5.1 x.2) (some (.inr (.inr ((z1.2.2.2.1,(z1.2.2.2.2.1,z1.2.2.2.2.2.1)),
 z1.2.2.2.2.2.2)))) (cnd (iNe z5.2.1 z1.2.2.2.2.2.2) (some (.inr (.inr ((z1.2.2.2.1,(z1.2.2.2.2.1,z1.2.2.2.2.2.1)),z1.2.2.2.2.2.2)))) (bnd (Zx ((z1.2.2.2.1,
 (z1.2.2.2.2.1,z1.2.2.2.2.2.1)),z5.2.2.1)) (fun z6=>(cnd (Ah z6.2) (some (.inr (.inr ((z1.2.2.2.1,(z1.2.2.2.2.1,z1.2.2.2.2.2.1)),z1.2.2.2.2.2.2)))) (some (.inl
 (z1.1,(z1.2.1,(z1.2.2.1,(z6.1.1,(z6.1.2.1,(z6.1.2.2,(Ai .i64 z1.2.2.2.2.2.2 1)))))))))))))))))))))) (some (.inr (.inl (z1.1,(z1.2.1,(z1.2.2.1,(z1.2.2.2.1,
 (z1.2.2.2.2.1,z1.2.2.2.2.2.1))))))))))) (some (.inr (.inl (z1.1,(z1.2.1,(z1.2.2.1,(z1.2.2.2.1,(z1.2.2.2.2.1,z1.2.2.2.2.2.1)))))))))
def Z4 (x:M5):Zvv:=(Aq (Ar (R5 x) ([],(0,([],([],(0,([],0))))))) (fun (z1:tqH)=>(bnd (B0 (x.2,(1,60000))) (fun z2=>(cnd (Ah z2) (some (z1.2.2.2,0)) (some (z1.2.2.2,30)))))))
def Zae (x:M5):(Int)->Option ((Int) ⊕ (Unit ⊕ (List UInt8))):=fun (z3:Int)=>(cnd (iGe z3 0) (bnd (idx x.1.2.1 z3) (fun z4=>(cnd (iEq
 z4.1 x.2) (bnd (idx x.1.2.1 z3) (fun z5=>(bnd (Pm [z5.2]) (fun z6=>(some (.inr (.inr z6))))))) (some (.inl (Ax .i64 z3 1)))))) (some (.inr
 (.inl ()))))
def Y8 (x:M5):Lv:=(bnd (Uw (x.1.1,(x.1.2.1,(x.1.2.2.1,x.1.2.2.2)))) (fun z1=>(cnd (Ah z1) (some []) (bnd (De (x.2,
 (0,(Ax .i64 (Af x.1.1) 1)))) (fun z2=>(cnd (Ah z2) (some []) (Aq (Ar (Zae x) (Ax .i64 (Af x.1.2.1) 1)) (fun (z3:Unit)=>(bnd (idx x.1.1
 x.2) (fun z4=>(bnd (Pm [z4]) (fun z5=>(some z5)))))))))))))
def Uy (x:C5):Iz:=(cnd (iLt x.2 0) (some (0,(0,false))) (cnd (iGt x.2 (Ax .i64 (Af x.1) 2)) (some (0,(0,false))) (bnd (idx x.1 x.2) (fun z1=>(bnd (idx x.1 (Ai .i64 x.2 1)) (fun z2=>(some ((iOr .i64 (Br .i64 (Ak .i64 (y2i z1)) 8) (Ak .i64 (y2i z2))),((Ai .i64 x.2 2),true)))))))))
def Nf (x:I0):Iz:=(bnd (Uy (x.1,x.2.1)) (fun z1=>(cnd x.2.2 (some (0,(x.2.1,true))) (cnd (Ah z1.2.2) (some (0,(x.2.1,
 true))) (some (z1.1,(z1.2.1,x.2.2)))))))
def Zb (x:I0):Ymv:=(bnd (Nf (x.1,(x.2.1,x.2.2))) (fun z1=>(cnd (Ah z1.2.2) (chk (Co 0 x.2.1 (Af x.1)) (bnd (Zex
 (A9 ((nOf x.2.1)-0) x.1)) (fun z2=>(cnd (iEq z1.1 z2) (some ((iEq z1.2.1 (Af x.1)),(z1.2.1,z1.2.2))) (some (false,(z1.2.1,z1.2.2))))))) (some (false,
 (z1.2.1,z1.2.2))))))
def F3 (x:I0):Iz:=(cnd x.2.2 (some (0,(x.2.1,true))) (cnd (iLt x.2.1 0) (some (0,(x.2.1,true))) (cnd (iGe x.2.1 (Af x.1)) (some (0,(x.2.1,
 true))) (bnd (idx x.1 (Ax .i64 (Ai .i64 x.2.1 1) 1)) (fun z1=>(some ((Ak .i64 (y2i z1)),((Ai .i64 x.2.1 1),x.2.2))))))))
def Y6 (x:C5):Zej:=(bnd (Uy (x.1,x.2)) (fun z1=>(cnd (Ah z1.2.2) (some ([],(0,false))) (cnd (iGt z1.1 60) (some ([],(0,
 false))) (cnd (iGt z1.1 (Ax .i64 (Af x.1) z1.2.1)) (some ([],(0,false))) (chk (Co z1.2.1 (Ai .i64 z1.2.1 z1.1) (Af x.1)) (some ((A9 ((nOf (Ai .i64 z1.2.1
 z1.1))-(nOf z1.2.1)) (C0 (nOf z1.2.1) x.1)),((Ai .i64 z1.2.1 z1.1),true)))))))))
def J3 (x:I0):Zej:=(bnd (Y6 (x.1,x.2.1)) (fun z1=>(cnd x.2.2 (some ([],(x.2.1,true))) (cnd (Ah z1.2.2) (some ([],(x.2.1,
 true))) (some (z1.1,(z1.2.1,x.2.2)))))))
def H7 (x:I0):Zv9:=(bnd (F3 (x.1,(x.2.1,x.2.2))) (fun z1=>(bnd (J3 (x.1,(z1.2.1,z1.2.2))) (fun z2 =>
 (some ((z1.1,z2.1),(z2.2.1,z2.2.2)))))))
def Pn (x:I0):Zv0:=(bnd (J3 (x.1,(x.2.1,x.2.2))) (fun z1=>(bnd (F3 (x.1,(z1.2.1,z1.2.2))) (fun z2 =>
 (bnd (F3 (x.1,(z2.2.1,z2.2.2))) (fun z3=>(Aq (cnd (iNe (Av .i64 z2.1 1) 0) (bnd (H7 (x.1,(z3.2.1,z3.2.2))) (fun z4=>(some
 (.inl (z4.2.1,(z4.2.2,(z4.1.1,z4.1.2))))))) (some (.inl (z3.2.1,(z3.2.2,(0,[])))))) (fun (z4:Zek)=>(Aq (cnd (iNe (Av .i64 z2.1 2) 0) (bnd (H7 (x.1,
 (z4.1,z4.2.1))) (fun z5=>(some (.inl (z5.2.1,(z5.2.2,(z5.1.1,z5.1.2))))))) (some (.inl (z4.1,(z4.2.1,(0,[])))))) (fun (z5:Zek)=>(cnd z5.2.1 (some (([],
 ((0,[]),((0,[]),(0,false)))),(z5.1,true))) (cnd (iGt z3.1 1) (some (([],((0,[]),((0,[]),(0,false)))),(z5.1,true))) (bnd (L0 (z1.1,((z4.2.2.1,z4.2.2.2),
 ((z5.2.2.1,z5.2.2.2),(z2.1,(iEq z3.1 1)))))) (fun z6=>(cnd (Ah z6) (some (([],((0,[]),((0,[]),(0,false)))),(z5.1,true))) (some ((z1.1,((z4.2.2.1,
 z4.2.2.2),((z5.2.2.1,z5.2.2.2),(z2.1,(iEq z3.1 1))))),(z5.1,z5.2.1))))))))))))))))))
def Ux (x:(List UInt8)):Zvr:=(bnd (Nf (x,(0,false))) (fun z1=>(bnd (Nf (x,(z1.2.1,z1.2.2))) (fun z2 =>
 (bnd (F3 (x,(z2.2.1,z2.2.2))) (fun z3=>(Aq (cnd (iEq z3.1 1) (bnd (Pn (x,(z3.2.1,z3.2.2))) (fun z4=>(some (.inl (z4.1.1,
 (z4.1.2.1.1,(z4.1.2.1.2,(z4.1.2.2.1.1,(z4.1.2.2.1.2,(z4.1.2.2.2.1,(z4.1.2.2.2.2,([],(0,(z4.2.1,z4.2.2)))))))))))))) (cnd (iEq z3.1 2) (bnd (J3 (x,(z3.2.1,
 z3.2.2))) (fun z4=>(some (.inl ([],(0,([],(0,([],(0,(false,(z4.1,(0,(z4.2.1,z4.2.2)))))))))))))) (cnd (iEq z3.1 3) (bnd (F3 (x,(z3.2.1,z3.2.2)))
 (fun z4=>(some (.inl ([],(0,([],(0,([],(0,(false,([],(z4.1,(z4.2.1,z4.2.2)))))))))))))) (some (.inl ([],(0,([],(0,([],(0,(false,([],(0,(z3.2.1,
 z3.2.2))))))))))))))) (fun (z4:Zvx)=>(bnd (F3 (x,(z4.2.2.2.2.2.2.2.2.2.1,z4.2.2.2.2.2.2.2.2.2.2))) (fun z5=>(bnd (F3 (x,(z5.2.1,z5.2.2)))
 (fun z6=>(bnd (Nf (x,(z6.2.1,z6.2.2))) (fun z7=>(bnd (Zb (x,(z7.2.1,z7.2.2))) (fun z8=>(cnd (Ah z8.1) (some (0,(0,
 ((0,(([],((0,[]),((0,[]),(0,false)))),([],(0,(0,(0,0)))))),false)))) (bnd (Rn (z3.1,((z4.1,((z4.2.1,z4.2.2.1),((z4.2.2.2.1,z4.2.2.2.2.1),
 (z4.2.2.2.2.2.1,z4.2.2.2.2.2.2.1)))),(z4.2.2.2.2.2.2.2.1,(z4.2.2.2.2.2.2.2.2.1,(z5.1,(z7.1,z6.1))))))) (fun z9=>(cnd (Ah z9) (some (0,(0,((0,(([],((0,[]),
 ((0,[]),(0,false)))),([],(0,(0,(0,0)))))),false)))) (some (z1.1,(z2.1,((z3.1,((z4.1,((z4.2.1,z4.2.2.1),((z4.2.2.2.1,z4.2.2.2.2.1),(z4.2.2.2.2.2.1,
 z4.2.2.2.2.2.2.1)))),(z4.2.2.2.2.2.2.2.1,(z4.2.2.2.2.2.2.2.2.1,(z5.1,(z7.1,z6.1)))))),true))))))))))))))))))))))))
def Zaf (x:M5):tqG->Option tqB:=fun (z2:tqG)=>(cnd (iLt z2.2.2.2.2.2.2 30) (al 3 (bnd (Zey (x.2,z2.2.2.2.2.2.2)) (fun z3 =>
 (bnd (Y8 (x.1,z3)) (fun z4=>(bnd (Ux z4) (fun z5=>(cnd (Ah z5.2.2.2) (some (.inr (.inr ((z2.2.2.2.1,(z2.2.2.2.2.1,
 z2.2.2.2.2.2.1)),z2.2.2.2.2.2.2)))) (cnd (iNe z5.1 x.2) (some (.inr (.inr ((z2.2.2.2.1,(z2.2.2.2.2.1,z2.2.2.2.2.2.1)),z2.2.2.2.2.2.2)))) (cnd (iNe z5.2.1 z2.2.2.2.2.2.2)
 (some (.inr (.inr ((z2.2.2.2.1,(z2.2.2.2.2.1,z2.2.2.2.2.2.1)),z2.2.2.2.2.2.2)))) (bnd (Y2 ((z2.2.2.2.1,(z2.2.2.2.2.1,z2.2.2.2.2.2.1)),z5.2.2.1)) (fun z6 =>
 (cnd (Ah z6.2) (some (.inr (.inr ((z2.2.2.2.1,(z2.2.2.2.2.1,z2.2.2.2.2.2.1)),z2.2.2.2.2.2.2)))) (some (.inl (z2.1,(z2.2.1,(z2.2.2.1,(z6.1.1,(z6.1.2.1,(z6.1.2.2,(Ai
 .i64 z2.2.2.2.2.2.2 1)))))))))))))))))))))) (some (.inr (.inl (z2.1,(z2.2.1,(z2.2.2.1,(z2.2.2.2.1,(z2.2.2.2.2.1,z2.2.2.2.2.2.1)))))))))
def U0 (x:M5):Zvv:=(bnd (De (x.2,(1,60000))) (fun z1=>(cnd (Ah z1) (some (([],(0,[])),0)) (Aq (Ar (Zaf x)
 ([],(0,([],([],(0,([],0))))))) (fun (z2:tqH)=>(some (z2.2.2.2,30)))))))
def Zez (x:M5):B6:=(bnd (Zs (x.1,1048576)) (fun z1=>(cnd (iLt z1 0) (some true) (bnd (Pp x.1) (fun z2 =>
 (bnd (Z4 (z2,x.2)) (fun z3=>(bnd (Pp x.1) (fun z4=>(bnd (U0 (z4,x.2)) (fun z5=>(bnd (Rq (z5.1,z3.1)) (fun z6=>(cnd (Ah z6) (some false) (cnd (iNe z5.2 z3.2) (some false) (bnd (Pp x.1) (fun z7=>(bnd (Ze (z4,z7)) (fun z8=>(cnd (Ah z8) (some
 false) (bnd (Zn (z4,1)) (fun z9=>(chk (nEq z9.2.1.length z4.1.length) (chk (nEq z9.2.2.length z4.2.1.length) (cnd (iLt z9.1 0) (some false) (bnd (Rq
 (z5.1,z3.1)) (fun z10=>(cnd (Ah z10) (some false) (cnd (iNe z5.2 z3.2) (some false) (bnd (Zq (z5.1,1)) (fun z11=>(chk (nEq z11.2.1.length
 z5.1.1.length) (chk (nEq z11.2.2.length z5.1.2.2.length) (bnd (U7 ((z11.2.1,(z5.1.2.1,z11.2.2)),1)) (fun z12=>(cnd (iLt z12 0) (some false) (cnd (iNe z12
 z11.1) (some false) (bnd (Pp x.1) (fun z13=>(bnd (U0 (z13,x.2)) (fun z14=>(bnd (Rq (z14.1,z3.1)) (fun z15=>(cnd (Ah
 z15) (some false) (cnd (iNe z14.2 z3.2) (some false) (bnd (U7 ((z11.2.1,(z5.1.2.1,z11.2.2)),1)) (fun z16=>(cnd (iLt z16 0) (some false) (cnd (iNe z16 z11.1)
 (some false) (some true))))))))))))))))))))))))))))))))))))))))))))))))))
end
end Go.Vs
