import Derived.Test.YtmfmjngkbddenaaGreatDoorVsW5
import Derived.Test.YtmfmjngkbddenaaGreatDoorVsW6
set_option linter.all false
namespace Go.Vs
noncomputable section
def Qm:List UInt8:=[240,240,240,240,240,240,240,240,240,240,240,240,240,240,240,240,240,240,240,240,240,240,240,240,240,240,240,240,240,240,
 240,240,240,240,240,240,240,240,240,240,240,240,240,240,240,240,240,240,240,240,240,240,240,240,240,240,240,240,240,240,240,240,240,240,240,
 240,240,240,240,240,240,240,240,240,240,240,240,240,240,240,240,240,240,240,240,240,240,240,240,240,240,240,240,240,240,240,240,240,240,240,
 240,240,240,240,240,240,240,240,240,240,240,240,240,240,240,240,240,240,240,240,240,240,240,240,240,240,240,240,241,241,241,241,241,241,241,
 241,241,241,241,241,241,241,241,241,241,241,241,241,241,241,241,241,241,241,241,241,241,241,241,241,241,241,241,241,241,241,241,241,241,241,
 241,241,241,241,241,241,241,241,241,241,241,241,241,241,241,241,241,241,241,241,241,241,241,241,2,2,2,2,2,2,2,2,2,2,2,2,2,2,2,2,2,2,2,
 2,2,2,2,2,2,2,2,2,2,2,19,3,3,3,3,3,3,3,3,3,3,3,3,35,3,3,52,4,4,4,68,241,241,241,241,241,241,241,241,241,241,241]
def Vp:List UInt8:=[128,191,160,191,128,159,144,191,128,143,0,0,0,0,0,0,0,0,0,0,0,0,0,0,0,0,0,0,0,0,0,0]
instance glbI:Glb:=⟨[(0,Qm),(1,Vp)]⟩
def al {β:Type}:Nat->Option β->Option β
 | 0,e=>e
 | n+1,e=>U2 e (al n e)
theorem U0 {β:Type}(n:Nat) (e:Option β):al n e=e:=by induction n with
 | zero=>rfl
 | succ n ih=>rw[al,ih,Yd3]
abbrev C3:Type:=(Option Bool)
abbrev Zqr:Type:=((List Int)×Int)
abbrev Zqq:Type:=((List Int)×Bool)
abbrev Ih:Type:=(List (List UInt8))
abbrev Jb:Type:=(Int×(Int×Int))
abbrev Ywg:Type:=(Bool×(Int×Int))
abbrev Zqp:Type:=(Int×(Int×Bool))
abbrev Ed:Type:=((List UInt8)×Int)
abbrev D4:Type:=(Int×(List UInt8))
abbrev Ywf:Type:=(Bool×(Int×Bool))
abbrev Yc1:Type:=((List UInt8)×Bool)
abbrev Zbz:Type:=(Option (Int×Bool))
abbrev F9:Type:=(Option (List UInt8))
abbrev Rh:Type:=((Int) ⊕ (Unit ⊕ Bool))
abbrev Ja:Type:=(List Jb)
abbrev Pp:Type:=(List D4)
abbrev Po:Type:=(Ih×Int)
abbrev Zil:Type:=((Int×Int) ⊕ (Int ⊕ Int))
abbrev Yc0:Type:=(Int×D4)
abbrev Xe:Type:=(Option Jb)
abbrev Lh:Type:=((List UInt8)×(Int×Int))
abbrev Zik:Type:=(Int×Ed)
abbrev Pn:Type:=((List UInt8)×(Int×Bool))
abbrev Ywe:Type:=(D4×Bool)
abbrev Lg:Type:=(Option Zqp)
abbrev Ycz:Type:=(Option Ywf)
abbrev T8:Type:=(Option Yc1)
abbrev Zqo:Type:=(Pp×Int)
abbrev Ycy:Type:=(Option Ja)
abbrev T7:Type:=(Ja×Bool)
abbrev Zqn:Type:=(Int×Zik)
abbrev Zby:Type:=(Lh×Int)
abbrev Ycx:Type:=(Int×(Bool×D4))
abbrev Zqm:Type:=(Option Lh)
abbrev Ycw:Type:=((List UInt8)×D4)
abbrev Ycv:Type:=(D4×(Int×Bool))
abbrev Ycu:Type:=(Option Pn)
abbrev Yct:Type:=(Option Ywe)
abbrev Zbx:Type:=(Ja×(Bool×Int))
abbrev Ycs:Type:=(Lh×(Int×Int))
abbrev Zij:Type:=(Pp×(Int×Bool))
abbrev Zii:Type:=(D4×D4)
abbrev Ywd:Type:=(Option Ycv)
abbrev Zbw:Type:=(Ja×Jb)
abbrev Ycr:Type:=((Int×Int) ⊕ (Int ⊕ Zil))
abbrev Zih:Type:=(Pp×(Int×(Bool×Int)))
abbrev Zql:Type:=(Ed ⊕ ((List UInt8) ⊕ Yc1))
abbrev Fk:Type:=(Ih×Zij)
abbrev Zbv:Type:=(Fk×Int)
abbrev Zqk:Type:=(Ih×Zih)
abbrev Ycq:Type:=(Fk×Bool)
abbrev Xd:Type:=(Option Fk)
abbrev Ycp:Type:=((List UInt8)×(Int×((List UInt8)×(Int×Pn))))
abbrev Ft:Type:=((List UInt8)×(D4×Ycv))
abbrev Fs:Type:=(List Ft)
abbrev Ywc:Type:=(Ft×Int)
abbrev Zig:Type:=(Option Ft)
abbrev Zqj:Type:=(Ih×(Pp×(Int×(Bool×Jb))))
abbrev Yco:Type:=(Fk×D4)
abbrev T6:Type:=(Fs×Int)
abbrev Ycn:Type:=(Option Fs)
abbrev Xc:Type:=(Fs×Bool)
abbrev Ywb:Type:=(Ft×(Int×Int))
abbrev Ywa:Type:=(Ft×(Int×Bool))
abbrev Ycm:Type:=((List UInt8)×Ft)
abbrev Yv9:Type:=((List UInt8)×((Int×F9)×((Int×F9)×(Int×Bool))))
abbrev Yv8:Type:=(Zqn ⊕ (Yc0 ⊕ Lh))
abbrev Rg:Type:=(List Yv9)
abbrev Yv7:Type:=(Option Ywb)
abbrev Yv6:Type:=(Option Ywa)
abbrev Ycl:Type:=(Int×(Int×((List UInt8)×(Int×(Int×(Int×(Bool×((List UInt8)×(Int×Jb)))))))))
abbrev Zif:Type:=(Int×((List UInt8)×(Int×(Int×(Int×(Bool×((List UInt8)×(Int×(Int×Jb)))))))))
abbrev Yv5:Type:=(Bool×(Int×((List UInt8)×(Int×(Int×(Int×(Bool×((List UInt8)×(Int×Jb)))))))))
abbrev Yck:Type:=(Zbx ⊕ (T7 ⊕ Ja))
abbrev Yv4:Type:=((List UInt8)×(Int×((List UInt8)×(Int×((List UInt8)×(Int×(Bool×((List UInt8)×Zqp))))))))
abbrev Zie:Type:=(Po ⊕ (Ih ⊕ Fk))
abbrev Ec:Type:=(Fs×(Int×Ja))
abbrev Ycj:Type:=(Ec×Int)
abbrev Yv3:Type:=(Ec×Bool)
abbrev Yci:Type:=(Option Ec)
abbrev Jv:Type:=(Int×(Ft×((List UInt8)×(Int×Jb))))
abbrev Yv2:Type:=(Zqo ⊕ (Pp ⊕ Fk))
abbrev Yv1:Type:=(Ec×(Int×Int))
abbrev Yv0:Type:=(Option Ycj)
abbrev Ych:Type:=(Ec×(List UInt8))
abbrev Ycg:Type:=(Option Yv3)
abbrev Nl:Type:=(List Jv)
abbrev Pm:Type:=(Nl×Int)
abbrev Yvz:Type:=(Jv×(Int×Int))
abbrev Ycf:Type:=(Int×(Int×Jv))
abbrev Yce:Type:=(Option Nl)
abbrev Yvy:Type:=(Int×(Int×(Jv×Bool)))
abbrev Yvx:Type:=(Option Yvz)
abbrev Ycd:Type:=(Ft×Ft)
abbrev Yvw:Type:=(Option Yvy)
abbrev Ycc:Type:=(Xc ⊕ Fs)
abbrev Zid:Type:=(Rg×Ft)
abbrev Ycb:Type:=(Fs×(Int×((List UInt8)×(Int×(Int×(Int×(Bool×((List UInt8)×(Int×Jb)))))))))
abbrev Zqi:Type:=(Fs×(Bool×(Rg×Int)))
abbrev Zqh:Type:=(Rg×(Fs×(Bool×Int)))
abbrev Zbu:Type:=(Ih×(Pp×(Int×(Bool×(Fs×(Int×(Ja×(Int×Int))))))))
abbrev Nk:Type:=(Fk×Yv1)
abbrev tqZ:Type:=(Rg×Zif)
abbrev tqY:Type:=(Ih×(Pp×(Int×(Bool×(Fs×(Int×Zbw))))))
abbrev tqX:Type:=(Nk×Int)
abbrev tqW:Type:=(Nk×Bool)
abbrev tqV:Type:=(Bool×Nk)
abbrev tqU:Type:=(Option Nk)
abbrev tqT:Type:=(Fk×(Int×Nl))
abbrev tqS:Type:=(Rg×(Int×((List UInt8)×(Int×(Int×(Int×(Bool×((List UInt8)×(Int×(Int×(Int×Jb)))))))))))
abbrev tqR:Type:=(Fs×Jv)
abbrev tqQ:Type:=(Nk×(Int×Int))
abbrev tqP:Type:=(Int×(Int×Zbu))
abbrev tqO:Type:=(Option tqW)
abbrev tqN:Type:=(Int×(Int×tqY))
abbrev tqM:Type:=(Option tqQ)
abbrev tqL:Type:=(Rg×Jv)
abbrev tqK:Type:=(Ec×Ec)
abbrev tqJ:Type:=(Fs×(Int×(Ja×Ec)))
abbrev tqI:Type:=(Fs×(Int×(Ja×(Fs×(Int×(Ja×Int))))))
abbrev tqH:Type:=(Ec×Jv)
abbrev tqF:Type:=(T6 ⊕ (Fs ⊕ Ec))
abbrev tqE:Type:=(Nk×Jv)
abbrev tqD:Type:=(Nk×(Jv×Int))
abbrev tqC:Type:=(Pm ⊕ (Nl ⊕ Nl))
abbrev tqB:Type:=(tqI ⊕ (tqJ ⊕ Ycj))
abbrev tqA:Type:=(tqY ⊕ (Zbu ⊕ tqW))
def Un (x:(List UInt8)):C3:=(some (iGt (Ah x) 1048576))
def Zdz (x:(List UInt8)):(Int×Int)->Option Zil:=fun (z1:(Int×Int))=>(cnd (iLt z1.2 (Ah x)) (cnd (iLt z1.2 4000) (bnd (idx x z1.2) (fun z2=>(some (.inl ((Aq .i64 (Aj .i64 (Aj .i64 (D8 .i64 z1.1 137) (Ai .i64 (y2i z2))) 11) 1073741823),(Aj .i64 z1.2 1)))))) (some (.inr (.inl z1.1)))) (some
 (.inr (.inl z1.1))))
def Zc4 (x:(List UInt8)):(Option Int):=(Ao (Aw (Zdz x) ((Aj .i64 953953 (Ah x)),0)) (fun (z1:Int)=>(some z1)))
def B6 (x:Jb):C3:=(cnd (iGe x.1 x.2.1) (some (iLe x.1 x.2.2)) (some false))
def Zdt (x:Int):Po->Option Zie:=fun (z2:Po)=>(cnd (iLt z2.2 x) (chk (A0 (z2.1.length+1) 24) (some (.inl ((Al z2.1 [[]]),(Aj .i64
 z2.2 1))))) (some (.inr (.inl z2.1))))
def Zcs (x:Int):Xd:=(bnd (B6 (x,(1,64))) (fun z1=>(cnd (Ag z1) (some ([],([],(0,false)))) (Ao (Aw (Zdt x) ([],
 0)) (fun (z2:Ih)=>(some (z2,([],((-1),false)))))))))
def Ny (x:D4):(Option D4):=(chk (A0 (0+x.2.length) 1) (some (x.1,(Al [] x.2))))
def J3 (x:Ft):Zig:=(bnd (Ny (x.2.1.1,x.2.1.2)) (fun z1=>(bnd (Ny (x.2.2.1.1,x.2.2.1.2)) (fun z2=>(some (x.1,
 ((z1.1,z1.2),((z2.1,z2.2),(x.2.2.2.1,x.2.2.2.2)))))))))
def Zjh (x:Ec):Pm->Option tqC:=fun (z1:Pm)=>(cnd (iLt z1.2 (Ah x.1)) (bnd (idx x.1 z1.2) (fun z2=>(bnd (J3 (z2.1,
 ((z2.2.1.1,z2.2.1.2),((z2.2.2.1.1,z2.2.2.1.2),(z2.2.2.2.1,z2.2.2.2.2))))) (fun z3=>(chk (A0 (z1.1.length+1) 152) (some (.inl ((Al z1.1 [(1,((z3.1,
 ((z3.2.1.1,z3.2.1.2),((z3.2.2.1.1,z3.2.2.1.2),(z3.2.2.2.1,z3.2.2.2.2)))),([],(0,(0,(0,0))))))]),(Aj .i64 z1.2 1))))))))) (some (.inr (.inl z1.1))))
def Zji (x:Ec):Pm->Option tqC:=fun (z2:Pm)=>(cnd (iLt z2.2 (Ah x.2.2)) (bnd (idx x.2.2 z2.2) (fun z3=>(bnd (idx x.2.2 z2.2)
 (fun z4=>(bnd (idx x.2.2 z2.2) (fun z5=>(chk (A0 (z2.1.length+1) 152) (some (.inl ((Al z2.1 [(4,(([],((0,[]),((0,[]),(0,false)))),([],(0,
 (z3.1,(z4.2.1,z5.2.2))))))]),(Aj .i64 z2.2 1))))))))))) (some (.inr (.inl z2.1))))
def Ya (x:Ec):Yce:=(Ao (Aw (Zjh x) ([(3,(([],((0,[]),((0,[]),(0,false)))),([],(x.2.1,(0,(0,0))))))],0)) (fun (z1:Nl)
 => (Ao (Aw (Zji x) (z1,0)) (fun (z2:Nl)=>(some z2)))))
def Uw (x:(Int×Int)):(Option Int):=(some (Aj .i64 (Aj .i64 2 (D8 .i64 30 (Dy x.1 2))) x.2))
def P1 (x:D4):C3:=(cnd (iEq x.1 0) (some (iEq (Ah x.2) 0)) (some false))
def Zc2 (x:Ft):C3:=(cnd (sEq x.1 []) (bnd (P1 (x.2.1.1,x.2.1.2)) (fun z1=>(cnd z1 (bnd (P1 (x.2.2.1.1,x.2.2.1.2)) (fun
 z2=>(cnd z2 (cnd (iEq x.2.2.2.1 0) (some (Ag x.2.2.2.2)) (some false)) (some false)))) (some false)))) (some false))
def Ys (x:(List UInt8)):(Int)->Option Rh:=fun (z1:Int)=>(cnd (iLt z1 (Ah x)) (bnd (idx x z1) (fun z2=>(bnd (B6 ((Ai .i64
 (y2i z2)),(97,122))) (fun z3=>(cnd (Ag z3) (bnd (idx x z1) (fun z4=>(bnd (B6 ((Ai .i64 (y2i z4)),(48,57))) (fun z5=>(cnd (Ag
 z5) (some (.inr (.inr false))) (some (.inl (Aj .i64 z1 1)))))))) (some (.inl (Aj .i64 z1 1)))))))) (some (.inr (.inl ()))))
def Rt (x:(List UInt8)):C3:=(Ao (Aw (Ys x) 0) (fun (z1:Unit)=>(bnd (B6 ((Ah x),(1,6))) (fun z2=>(some z2)))))
def Dh (x:Ft):C3:=(some (iEq (Aq .i64 x.2.2.2.1 1) 1))
def Cn (x:Ft):C3:=(some (iEq (Aq .i64 x.2.2.2.1 2) 2))
def Rx (x:Int):C3:=(bnd (B6 (x,(0,5))) (fun z1=>(some z1)))
def Nv (x:D4):C3:=(bnd (Rx x.1) (fun z1=>(cnd z1 (some (iLe (Ah x.2) 20)) (some false))))
def Zc6 (x:UInt8):(Option Int):=(cnd (iLt (y2i x) (y2i (u8 128))) (some 1) (bnd (B6 ((Ai .i64 (y2i x)),(194,223))) (fun z1=>(cnd z1
 (some 2) (bnd (B6 ((Ai .i64 (y2i x)),(224,239))) (fun z2=>(cnd z2 (some 3) (bnd (B6 ((Ai .i64 (y2i x)),(240,244))) (fun z3=>(cnd z3
 (some 4) (some 0)))))))))))
def Rv (x:Int):C3:=(bnd (B6 (x,(0,1114111))) (fun z1=>(cnd z1 (bnd (B6 (x,(55296,57343))) (fun z2=>(some (Ag
 z2)))) (some false))))
def Nw (x:Ed):F9:=(chk (A0 (0+x.1.length) 1) (bnd (Rv x.2) (fun z1=>(cnd (Ag z1) (some (Al [] x.1)) (cnd (iLe x.2 127)
 (chk (A0 ((Al [] x.1).length+1) 1) (some (Al (Al [] x.1) [(u8 (Ai .u8 x.2))]))) (cnd (iLe x.2 2047) (chk (A0 ((Al [] x.1).length+2) 1) (some (Al (Al []
 x.1) [(u8 (Ai .u8 (iOr .i64 192 (Bh .i64 x.2 6)))),(u8 (Ai .u8 (iOr .i64 128 (Aq .i64 x.2 63))))]))) (cnd (iLe x.2 65535) (chk (A0 ((Al [] x.1).length+3) 1)
 (some (Al (Al [] x.1) [(u8 (Ai .u8 (iOr .i64 224 (Bh .i64 x.2 12)))),(u8 (Ai .u8 (iOr .i64 128 (Aq .i64 (Bh .i64 x.2 6) 63)))),(u8 (Ai .u8 (iOr .i64 128
 (Aq .i64 x.2 63))))]))) (chk (A0 ((Al [] x.1).length+4) 1) (some (Al (Al [] x.1) [(u8 (Ai .u8 (iOr .i64 240 (Bh .i64 x.2 18)))),(u8 (Ai .u8 (iOr .i64 128
 (Aq .i64 (Bh .i64 x.2 12) 63)))),(u8 (Ai .u8 (iOr .i64 128 (Aq .i64 (Bh .i64 x.2 6) 63)))),(u8 (Ai .u8 (iOr .i64 128 (Aq .i64 x.2 63))))]))))))))))
def N2 (x:Ed) (z3:Int):(Int×Int)->Option ((Int×Int) ⊕ (Int ⊕ Zqp)):=fun (z6:(Int×Int))=>(cnd (iLt z6.2 z3) (bnd (idx x.1 (Aj .i64
 x.2 z6.2)) (fun z7=>(cnd (iNe (y2i (u8 (Aq .u8 (y2i z7) (y2i (u8 192))))) (y2i (u8 128))) (some (.inr (.inr (0,(0,false))))) (bnd (idx x.1 (Aj .i64 x.2 z6.2))
 (fun z8=>(some (.inl ((iOr .i64 (B7 .i64 z6.1 6) (Ai .i64 (y2i (u8 (Aq .u8 (y2i z8) (y2i (u8 63))))))),(Aj .i64 z6.2 1))))))))) (some (.inr (.inl z6.1))))
def X7 (x:Ed):Lg:=(bnd (B6 (x.2,(0,(A9 .i64 (Ah x.1) 1)))) (fun z1=>(cnd (Ag z1) (some (0,(0,false))) (bnd (idx x.1 x.2)
 (fun z2=>(bnd (Zc6 z2) (fun z3=>(cnd (iEq z3 0) (some (0,(0,false))) (cnd (iGt z3 (A9 .i64 (Ah x.1) x.2)) (some (0,(0,false))) (bnd (idx x.1
 x.2) (fun z4=>(Ao (cnd (iGt z3 1) (chk (iLe 0 (Ai .u64 z3)) (some (.inl (Aq .i64 (Ai .i64 (y2i z4)) (Bh .i64 127 (Ai .u64 z3)))))) (some (.inl (Ai
 .i64 (y2i z4))))) (fun (z5:Int)=>(Ao (Aw (N2 x z3) (z5,1)) (fun (z6:Int)=>(bnd (Rv z6) (fun z7=>(cnd (Ag z7) (some (0,(0,false)))
 (bnd (Nw ([],z6)) (fun z8=>(chk (De x.2 (Aj .i64 x.2 z3) (Ah x.1)) (cnd (Ag (sEq z8 (Bp ((nOf (Aj .i64 x.2 z3))-(nOf x.2)) (Dr
 (nOf x.2) x.1)))) (some (0,(0,false))) (some (z6,((Aj .i64 x.2 z3),true)))))))))))))))))))))))))
def Zcy (x:(Int×Int)):Zbz:=(cnd (iEq x.1 164) (bnd (B6 (x.2,(161,243))) (fun z1=>(cnd z1 (some ((A9 .i64 (Aj .i64 12353 x.2)
 161),true)) (cnd (iEq x.1 165) (bnd (B6 (x.2,(161,246))) (fun z2=>(cnd z2 (some ((A9 .i64 (Aj .i64 12449 x.2) 161),true)) (some (0,false))))) (some (0,
 false)))))) (cnd (iEq x.1 165) (bnd (B6 (x.2,(161,246))) (fun z1=>(cnd z1 (some ((A9 .i64 (Aj .i64 12449 x.2) 161),true)) (some (0,false))))) (some (0,
 false))))
def Zcv (x:Ed):Lg:=(bnd (B6 (x.2,(0,(A9 .i64 (Ah x.1) 1)))) (fun z1=>(cnd (Ag z1) (some (0,(0,false))) (bnd (idx x.1 x.2)
 (fun z2=>(cnd (iLt (y2i z2) (y2i (u8 128))) (bnd (idx x.1 x.2) (fun z3=>(some ((Ai .i64 (y2i z3)),((Aj .i64 x.2 1),true))))) (cnd (iGe (Aj .i64
 x.2 1) (Ah x.1)) (some (0,(0,false))) (bnd (idx x.1 x.2) (fun z3=>(bnd (idx x.1 (Aj .i64 x.2 1)) (fun z4=>(bnd (Zcy ((Ai .i64 (y2i z3)),
 (Ai .i64 (y2i z4)))) (fun z5=>(cnd (Ag z5.2) (some (0,(0,false))) (some (z5.1,((Aj .i64 x.2 2),true)))))))))))))))))
def Zrg (x:Int):(Option Int):=(cnd (iEq x 164) (some 8364) (cnd (iEq x 166) (some 352) (cnd (iEq x 168) (some 353) (cnd (iEq x 180) (some 381) (cnd (iEq
 x 184) (some 382) (cnd (iEq x 188) (some 338) (cnd (iEq x 189) (some 339) (cnd (iEq x 190) (some 376) (some x)))))))))
def Zrf (x:Int):(Option Int):=(cnd (iGe x 224) (bnd (idx [1102,1072,1073,1094,1076,1077,1092,1075,1093,1080,1081,1082,1083,1084,1085,1086,
 1087,1103,1088,1089,1090,1091,1078,1074,1100,1099,1079,1096,1101,1097,1095,1098] (A9 .i64 x 224)) (fun z1=>(some (A9 .i64 z1 32)))) (cnd (iGe x 192)
 (bnd (idx [1102,1072,1073,1094,1076,1077,1092,1075,1093,1080,1081,1082,1083,1084,1085,1086,1087,1103,1088,1089,1090,1091,1078,1074,1100,1099,1079,1096,
 1101,1097,1095,1098] (A9 .i64 x 192)) (fun z1=>(some z1))) (cnd (iEq x 163) (some 1105) (cnd (iEq x 179) (some 1025) (some (-1))))))
def Zrh (x:Int):(Option Int):=(cnd (iGe x 160) (some x) (bnd (idx [8364,(-1),8218,402,8222,8230,8224,8225,710,8240,352,8249,338,(-1),381,
 (-1),(-1),8216,8217,8220,8221,8226,8211,8212,732,8482,353,8250,339,(-1),382,376] (A9 .i64 x 128)) (fun z1=>(some z1))))
def Lp (x:(Int×Int)):Zbz:=(bnd (B6 (x.1,(1,4))) (fun z1=>(cnd (Ag z1) (some (0,false)) (bnd (B6 (x.2,(0,255))) (fun
 z2=>(cnd (Ag z2) (some (0,false)) (Ao (cnd (iGe x.2 128) (cnd (iEq x.1 2) (bnd (Zrg x.2) (fun z3=>(some (.inl z3)))) (cnd (iEq x.1 3) (bnd
 (Zrf x.2) (fun z3=>(some (.inl z3)))) (cnd (iEq x.1 4) (bnd (Zrh x.2) (fun z3=>(some (.inl z3)))) (some (.inl x.2))))) (some (.inl x.2))) (fun (z3
 : Int)=>(cnd (iLt z3 0) (some (0,false)) (some (z3,true)))))))))))
def Zc9 (x:Zik):Lg:=(cnd (iEq x.1 0) (bnd (X7 (x.2.1,x.2.2)) (fun z1=>(some (z1.1,(z1.2.1,z1.2.2))))) (cnd (iEq x.1 5) (bnd
 (Zcv (x.2.1,x.2.2)) (fun z1=>(some (z1.1,(z1.2.1,z1.2.2))))) (bnd (idx x.2.1 x.2.2) (fun z1=>(bnd (Lp (x.1,(Ai .i64 (y2i z1))))
 (fun z2=>(some (z2.1,((Aj .i64 x.2.2 1),z2.2)))))))))
def Zjf (x:D4):Ed->Option Zql:=fun (z2:Ed)=>(cnd (iLt z2.2 (Ah x.2)) (bnd (Zc9 (x.1,(x.2,z2.2))) (fun z3=>(cnd (Ag
 z3.2.2) (some (.inr (.inr ([],false)))) (bnd (Nw (z2.1,z3.1)) (fun z4=>(some (.inl (z4,z3.2.1)))))))) (some (.inr (.inl z2.1))))
def Zcr (x:D4):T8:=(bnd (Rx x.1) (fun z1=>(cnd (Ag z1) (some ([],false)) (Ao (Aw (Zjf x) ([],0)) (fun (z2:(List
 UInt8))=>(some (z2,true)))))))
def Hv (x:D4):T8:=(bnd (Nv (x.1,x.2)) (fun z1=>(cnd (Ag z1) (some ([],false)) (bnd (Zcr (x.1,x.2)) (fun z2
 => (some (z2.1,z2.2)))))))
def Bw (x:Zii):C3:=(bnd (Hv (x.1.1,x.1.2)) (fun z1=>(bnd (Hv (x.2.1,x.2.2)) (fun z2=>(cnd z1.2 (cnd
 z2.2 (some (sEq z1.1 z2.1)) (some false)) (some false))))))
def Ji (x:Ft):C3:=(bnd (Rt x.1) (fun z1=>(cnd (Ag z1) (some false) (bnd (B6 (x.2.2.2.1,(1,3))) (fun z2=>(cnd
 (Ag z2) (some false) (bnd (Dh (x.1,((x.2.1.1,x.2.1.2),((x.2.2.1.1,x.2.2.1.2),(x.2.2.2.1,x.2.2.2.2))))) (fun z3=>(cnd (Ag z3) (bnd (P1
 (x.2.1.1,x.2.1.2)) (fun z4=>(cnd (Ag z4) (some false) (bnd (Cn (x.1,((x.2.1.1,x.2.1.2),((x.2.2.1.1,x.2.2.1.2),(x.2.2.2.1,x.2.2.2.2))))) (fun z5=>(cnd (Ag z5) (bnd (P1 (x.2.2.1.1,x.2.2.1.2)) (fun z6=>(cnd (Ag z6) (some false) (bnd (Hv (x.2.1.1,x.2.1.2)) (fun z7=>(bnd
 (Hv (x.2.2.1.1,x.2.2.1.2)) (fun z8=>(bnd (Dh (x.1,((x.2.1.1,x.2.1.2),((x.2.2.1.1,x.2.2.1.2),(x.2.2.2.1,x.2.2.2.2))))) (fun z9=>(cnd
 z9 (bnd (B6 (x.2.1.1,(1,5))) (fun z10=>(cnd (Ag z10) (some false) (bnd (Nv (x.2.1.1,x.2.1.2)) (fun z11=>(cnd (Ag z11) (some false) (bnd
 (Cn (x.1,((x.2.1.1,x.2.1.2),((x.2.2.1.1,x.2.2.1.2),(x.2.2.2.1,x.2.2.2.2))))) (fun z12=>(cnd z12 (cnd (iNe x.2.2.1.1 0) (some false) (cnd (Ag z8.2) (some
 false) (bnd (Dh (x.1,((x.2.1.1,x.2.1.2),((x.2.2.1.1,x.2.2.1.2),(x.2.2.2.1,x.2.2.2.2))))) (fun z13=>(cnd z13 (cnd (Ag z7.2) (cnd (Ag x.2.2.2.2) (some
 false) (bnd (Cn (x.1,((x.2.1.1,x.2.1.2),((x.2.2.1.1,x.2.2.1.2),(x.2.2.2.1,x.2.2.2.2))))) (fun z14=>(cnd z14 (some false) (cnd (iNe x.2.2.2.1 3) (some
 true) (bnd (Bw ((x.2.1.1,x.2.1.2),(x.2.2.1.1,x.2.2.1.2))) (fun z15=>(some z15)))))))) (cnd (iNe x.2.2.2.1 3) (some true) (bnd (Bw ((x.2.1.1,
 x.2.1.2),(x.2.2.1.1,x.2.2.1.2))) (fun z14=>(some z14))))) (cnd (iNe x.2.2.2.1 3) (some true) (bnd (Bw ((x.2.1.1,x.2.1.2),(x.2.2.1.1,x.2.2.1.2))) (fun
 z14=>(some z14))))))))) (bnd (Dh (x.1,((x.2.1.1,x.2.1.2),((x.2.2.1.1,x.2.2.1.2),(x.2.2.2.1,x.2.2.2.2))))) (fun z13=>(cnd z13 (cnd (Ag z7.2)
 (cnd (Ag x.2.2.2.2) (some false) (bnd (Cn (x.1,((x.2.1.1,x.2.1.2),((x.2.2.1.1,x.2.2.1.2),(x.2.2.2.1,x.2.2.2.2))))) (fun z14=>(cnd z14 (some false) (cnd
 (iNe x.2.2.2.1 3) (some true) (bnd (Bw ((x.2.1.1,x.2.1.2),(x.2.2.1.1,x.2.2.1.2))) (fun z15=>(some z15)))))))) (cnd (iNe x.2.2.2.1 3) (some true) (bnd
 (Bw ((x.2.1.1,x.2.1.2),(x.2.2.1.1,x.2.2.1.2))) (fun z14=>(some z14))))) (cnd (iNe x.2.2.2.1 3) (some true) (bnd (Bw ((x.2.1.1,x.2.1.2),
 (x.2.2.1.1,x.2.2.1.2))) (fun z14=>(some z14)))))))))))))))) (bnd (Cn (x.1,((x.2.1.1,x.2.1.2),((x.2.2.1.1,x.2.2.1.2),(x.2.2.2.1,x.2.2.2.2))))) (fun z10=>(cnd z10 (cnd (iNe x.2.2.1.1 0) (some false) (cnd (Ag z8.2) (some false) (bnd (Dh (x.1,((x.2.1.1,x.2.1.2),((x.2.2.1.1,x.2.2.1.2),(x.2.2.2.1,x.2.2.2.2)))))
 (fun z11=>(cnd z11 (cnd (Ag z7.2) (cnd (Ag x.2.2.2.2) (some false) (bnd (Cn (x.1,((x.2.1.1,x.2.1.2),((x.2.2.1.1,x.2.2.1.2),(x.2.2.2.1,x.2.2.2.2)))))
 (fun z12=>(cnd z12 (some false) (cnd (iNe x.2.2.2.1 3) (some true) (bnd (Bw ((x.2.1.1,x.2.1.2),(x.2.2.1.1,x.2.2.1.2))) (fun z13=>(some
 z13)))))))) (cnd (iNe x.2.2.2.1 3) (some true) (bnd (Bw ((x.2.1.1,x.2.1.2),(x.2.2.1.1,x.2.2.1.2))) (fun z12=>(some z12))))) (cnd (iNe x.2.2.2.1 3) (some
 true) (bnd (Bw ((x.2.1.1,x.2.1.2),(x.2.2.1.1,x.2.2.1.2))) (fun z12=>(some z12))))))))) (bnd (Dh (x.1,((x.2.1.1,x.2.1.2),((x.2.2.1.1,x.2.2.1.2),
 (x.2.2.2.1,x.2.2.2.2))))) (fun z11=>(cnd z11 (cnd (Ag z7.2) (cnd (Ag x.2.2.2.2) (some false) (bnd (Cn (x.1,((x.2.1.1,x.2.1.2),((x.2.2.1.1,x.2.2.1.2),
 (x.2.2.2.1,x.2.2.2.2))))) (fun z12=>(cnd z12 (some false) (cnd (iNe x.2.2.2.1 3) (some true) (bnd (Bw ((x.2.1.1,x.2.1.2),(x.2.2.1.1,x.2.2.1.2))) (fun
 z13=>(some z13)))))))) (cnd (iNe x.2.2.2.1 3) (some true) (bnd (Bw ((x.2.1.1,x.2.1.2),(x.2.2.1.1,x.2.2.1.2))) (fun z12=>(some z12))))) (cnd
 (iNe x.2.2.2.1 3) (some true) (bnd (Bw ((x.2.1.1,x.2.1.2),(x.2.2.1.1,x.2.2.1.2))) (fun z12=>(some z12)))))))))))))))))))) (bnd (Hv (x.2.1.1,
 x.2.1.2)) (fun z6=>(bnd (Hv (x.2.2.1.1,x.2.2.1.2)) (fun z7=>(bnd (Dh (x.1,((x.2.1.1,x.2.1.2),((x.2.2.1.1,x.2.2.1.2),(x.2.2.2.1,
 x.2.2.2.2))))) (fun z8=>(cnd z8 (bnd (B6 (x.2.1.1,(1,5))) (fun z9=>(cnd (Ag z9) (some false) (bnd (Nv (x.2.1.1,x.2.1.2)) (fun z10=>(cnd (Ag z10) (some false) (bnd (Cn (x.1,((x.2.1.1,x.2.1.2),((x.2.2.1.1,x.2.2.1.2),(x.2.2.2.1,x.2.2.2.2))))) (fun z11=>(cnd z11 (cnd (iNe
 x.2.2.1.1 0) (some false) (cnd (Ag z7.2) (some false) (bnd (Dh (x.1,((x.2.1.1,x.2.1.2),((x.2.2.1.1,x.2.2.1.2),(x.2.2.2.1,x.2.2.2.2))))) (fun z12=>(cnd
 z12 (cnd (Ag z6.2) (cnd (Ag x.2.2.2.2) (some false) (bnd (Cn (x.1,((x.2.1.1,x.2.1.2),((x.2.2.1.1,x.2.2.1.2),(x.2.2.2.1,x.2.2.2.2))))) (fun z13=>(cnd
 z13 (some false) (cnd (iNe x.2.2.2.1 3) (some true) (bnd (Bw ((x.2.1.1,x.2.1.2),(x.2.2.1.1,x.2.2.1.2))) (fun z14=>(some z14)))))))) (cnd (iNe x.2.2.2.1 3)
 (some true) (bnd (Bw ((x.2.1.1,x.2.1.2),(x.2.2.1.1,x.2.2.1.2))) (fun z13=>(some z13))))) (cnd (iNe x.2.2.2.1 3) (some true) (bnd (Bw ((x.2.1.1,
 x.2.1.2),(x.2.2.1.1,x.2.2.1.2))) (fun z13=>(some z13))))))))) (bnd (Dh (x.1,((x.2.1.1,x.2.1.2),((x.2.2.1.1,x.2.2.1.2),(x.2.2.2.1,x.2.2.2.2))))) (fun
 z12=>(cnd z12 (cnd (Ag z6.2) (cnd (Ag x.2.2.2.2) (some false) (bnd (Cn (x.1,((x.2.1.1,x.2.1.2),((x.2.2.1.1,x.2.2.1.2),(x.2.2.2.1,x.2.2.2.2))))) (fun
 z13=>(cnd z13 (some false) (cnd (iNe x.2.2.2.1 3) (some true) (bnd (Bw ((x.2.1.1,x.2.1.2),(x.2.2.1.1,x.2.2.1.2))) (fun z14=>(some z14))))))))
 (cnd (iNe x.2.2.2.1 3) (some true) (bnd (Bw ((x.2.1.1,x.2.1.2),(x.2.2.1.1,x.2.2.1.2))) (fun z13=>(some z13))))) (cnd (iNe x.2.2.2.1 3) (some true) (bnd
 (Bw ((x.2.1.1,x.2.1.2),(x.2.2.1.1,x.2.2.1.2))) (fun z13=>(some z13)))))))))))))))) (bnd (Cn (x.1,((x.2.1.1,x.2.1.2),((x.2.2.1.1,x.2.2.1.2),
 (x.2.2.2.1,x.2.2.2.2))))) (fun z9=>(cnd z9 (cnd (iNe x.2.2.1.1 0) (some false) (cnd (Ag z7.2) (some false) (bnd (Dh (x.1,((x.2.1.1,x.2.1.2),((x.2.2.1.1,
 x.2.2.1.2),(x.2.2.2.1,x.2.2.2.2))))) (fun z10=>(cnd z10 (cnd (Ag z6.2) (cnd (Ag x.2.2.2.2) (some false) (bnd (Cn (x.1,((x.2.1.1,x.2.1.2),((x.2.2.1.1,
 x.2.2.1.2),(x.2.2.2.1,x.2.2.2.2))))) (fun z11=>(cnd z11 (some false) (cnd (iNe x.2.2.2.1 3) (some true) (bnd (Bw ((x.2.1.1,x.2.1.2),(x.2.2.1.1,
 x.2.2.1.2))) (fun z12=>(some z12)))))))) (cnd (iNe x.2.2.2.1 3) (some true) (bnd (Bw ((x.2.1.1,x.2.1.2),(x.2.2.1.1,x.2.2.1.2))) (fun z11=>(some
 z11))))) (cnd (iNe x.2.2.2.1 3) (some true) (bnd (Bw ((x.2.1.1,x.2.1.2),(x.2.2.1.1,x.2.2.1.2))) (fun z11=>(some z11))))))))) (bnd (Dh (x.1,
 ((x.2.1.1,x.2.1.2),((x.2.2.1.1,x.2.2.1.2),(x.2.2.2.1,x.2.2.2.2))))) (fun z10=>(cnd z10 (cnd (Ag z6.2) (cnd (Ag x.2.2.2.2) (some false) (bnd (Cn (x.1,
 ((x.2.1.1,x.2.1.2),((x.2.2.1.1,x.2.2.1.2),(x.2.2.2.1,x.2.2.2.2))))) (fun z11=>(cnd z11 (some false) (cnd (iNe x.2.2.2.1 3) (some true) (bnd (Bw
 ((x.2.1.1,x.2.1.2),(x.2.2.1.1,x.2.2.1.2))) (fun z12=>(some z12)))))))) (cnd (iNe x.2.2.2.1 3) (some true) (bnd (Bw ((x.2.1.1,x.2.1.2),(x.2.2.1.1,
 x.2.2.1.2))) (fun z11=>(some z11))))) (cnd (iNe x.2.2.2.1 3) (some true) (bnd (Bw ((x.2.1.1,x.2.1.2),(x.2.2.1.1,x.2.2.1.2))) (fun z11=>(some
 z11))))))))))))))))))))))) (bnd (Cn (x.1,((x.2.1.1,x.2.1.2),((x.2.2.1.1,x.2.2.1.2),(x.2.2.2.1,x.2.2.2.2))))) (fun z4=>(cnd (Ag z4) (bnd (P1
 (x.2.2.1.1,x.2.2.1.2)) (fun z5=>(cnd (Ag z5) (some false) (bnd (Hv (x.2.1.1,x.2.1.2)) (fun z6=>(bnd (Hv (x.2.2.1.1,x.2.2.1.2)) (fun
 z7=>(bnd (Dh (x.1,((x.2.1.1,x.2.1.2),((x.2.2.1.1,x.2.2.1.2),(x.2.2.2.1,x.2.2.2.2))))) (fun z8=>(cnd z8 (bnd (B6 (x.2.1.1,(1,5))) (fun
 z9=>(cnd (Ag z9) (some false) (bnd (Nv (x.2.1.1,x.2.1.2)) (fun z10=>(cnd (Ag z10) (some false) (bnd (Cn (x.1,((x.2.1.1,x.2.1.2),
 ((x.2.2.1.1,x.2.2.1.2),(x.2.2.2.1,x.2.2.2.2))))) (fun z11=>(cnd z11 (cnd (iNe x.2.2.1.1 0) (some false) (cnd (Ag z7.2) (some false) (bnd (Dh (x.1,
 ((x.2.1.1,x.2.1.2),((x.2.2.1.1,x.2.2.1.2),(x.2.2.2.1,x.2.2.2.2))))) (fun z12=>(cnd z12 (cnd (Ag z6.2) (cnd (Ag x.2.2.2.2) (some false) (bnd (Cn (x.1,
 ((x.2.1.1,x.2.1.2),((x.2.2.1.1,x.2.2.1.2),(x.2.2.2.1,x.2.2.2.2))))) (fun z13=>(cnd z13 (some false) (cnd (iNe x.2.2.2.1 3) (some true) (bnd (Bw
 ((x.2.1.1,x.2.1.2),(x.2.2.1.1,x.2.2.1.2))) (fun z14=>(some z14)))))))) (cnd (iNe x.2.2.2.1 3) (some true) (bnd (Bw ((x.2.1.1,x.2.1.2),(x.2.2.1.1,
 x.2.2.1.2))) (fun z13=>(some z13))))) (cnd (iNe x.2.2.2.1 3) (some true) (bnd (Bw ((x.2.1.1,x.2.1.2),(x.2.2.1.1,x.2.2.1.2))) (fun z13=>(some
 z13))))))))) (bnd (Dh (x.1,((x.2.1.1,x.2.1.2),((x.2.2.1.1,x.2.2.1.2),(x.2.2.2.1,x.2.2.2.2))))) (fun z12=>(cnd z12 (cnd (Ag z6.2) (cnd (Ag x.2.2.2.2)
 (some false) (bnd (Cn (x.1,((x.2.1.1,x.2.1.2),((x.2.2.1.1,x.2.2.1.2),(x.2.2.2.1,x.2.2.2.2))))) (fun z13=>(cnd z13 (some false) (cnd (iNe x.2.2.2.1 3)
 (some true) (bnd (Bw ((x.2.1.1,x.2.1.2),(x.2.2.1.1,x.2.2.1.2))) (fun z14=>(some z14)))))))) (cnd (iNe x.2.2.2.1 3) (some true) (bnd (Bw
 ((x.2.1.1,x.2.1.2),(x.2.2.1.1,x.2.2.1.2))) (fun z13=>(some z13))))) (cnd (iNe x.2.2.2.1 3) (some true) (bnd (Bw ((x.2.1.1,x.2.1.2),(x.2.2.1.1,
 x.2.2.1.2))) (fun z13=>(some z13)))))))))))))))) (bnd (Cn (x.1,((x.2.1.1,x.2.1.2),((x.2.2.1.1,x.2.2.1.2),(x.2.2.2.1,x.2.2.2.2))))) (fun z9 =>
 (cnd z9 (cnd (iNe x.2.2.1.1 0) (some false) (cnd (Ag z7.2) (some false) (bnd (Dh (x.1,((x.2.1.1,x.2.1.2),((x.2.2.1.1,x.2.2.1.2),(x.2.2.2.1,x.2.2.2.2))))) (fun z10=>(cnd z10 (cnd (Ag z6.2) (cnd (Ag x.2.2.2.2) (some false) (bnd (Cn (x.1,((x.2.1.1,x.2.1.2),((x.2.2.1.1,x.2.2.1.2),(x.2.2.2.1,x.2.2.2.2))))) (fun z11=>(cnd z11 (some false) (cnd (iNe x.2.2.2.1 3) (some true) (bnd (Bw ((x.2.1.1,x.2.1.2),(x.2.2.1.1,x.2.2.1.2))) (fun z12=>(some z12)))))))) (cnd
 (iNe x.2.2.2.1 3) (some true) (bnd (Bw ((x.2.1.1,x.2.1.2),(x.2.2.1.1,x.2.2.1.2))) (fun z11=>(some z11))))) (cnd (iNe x.2.2.2.1 3) (some true) (bnd
 (Bw ((x.2.1.1,x.2.1.2),(x.2.2.1.1,x.2.2.1.2))) (fun z11=>(some z11))))))))) (bnd (Dh (x.1,((x.2.1.1,x.2.1.2),((x.2.2.1.1,x.2.2.1.2),
 (x.2.2.2.1,x.2.2.2.2))))) (fun z10=>(cnd z10 (cnd (Ag z6.2) (cnd (Ag x.2.2.2.2) (some false) (bnd (Cn (x.1,((x.2.1.1,x.2.1.2),((x.2.2.1.1,x.2.2.1.2),
 (x.2.2.2.1,x.2.2.2.2))))) (fun z11=>(cnd z11 (some false) (cnd (iNe x.2.2.2.1 3) (some true) (bnd (Bw ((x.2.1.1,x.2.1.2),(x.2.2.1.1,x.2.2.1.2))) (fun
 z12=>(some z12)))))))) (cnd (iNe x.2.2.2.1 3) (some true) (bnd (Bw ((x.2.1.1,x.2.1.2),(x.2.2.1.1,x.2.2.1.2))) (fun z11=>(some z11))))) (cnd
 (iNe x.2.2.2.1 3) (some true) (bnd (Bw ((x.2.1.1,x.2.1.2),(x.2.2.1.1,x.2.2.1.2))) (fun z11=>(some z11)))))))))))))))))))) (bnd (Hv (x.2.1.1,
 x.2.1.2)) (fun z5=>(bnd (Hv (x.2.2.1.1,x.2.2.1.2)) (fun z6=>(bnd (Dh (x.1,((x.2.1.1,x.2.1.2),((x.2.2.1.1,x.2.2.1.2),(x.2.2.2.1,
 x.2.2.2.2))))) (fun z7=>(cnd z7 (bnd (B6 (x.2.1.1,(1,5))) (fun z8=>(cnd (Ag z8) (some false) (bnd (Nv (x.2.1.1,x.2.1.2)) (fun z9
 => (cnd (Ag z9) (some false) (bnd (Cn (x.1,((x.2.1.1,x.2.1.2),((x.2.2.1.1,x.2.2.1.2),(x.2.2.2.1,x.2.2.2.2))))) (fun z10=>(cnd z10 (cnd (iNe x.2.2.1.1 0)
 (some false) (cnd (Ag z6.2) (some false) (bnd (Dh (x.1,((x.2.1.1,x.2.1.2),((x.2.2.1.1,x.2.2.1.2),(x.2.2.2.1,x.2.2.2.2))))) (fun z11=>(cnd z11 (cnd (Ag
 z5.2) (cnd (Ag x.2.2.2.2) (some false) (bnd (Cn (x.1,((x.2.1.1,x.2.1.2),((x.2.2.1.1,x.2.2.1.2),(x.2.2.2.1,x.2.2.2.2))))) (fun z12=>(cnd z12 (some false)
 (cnd (iNe x.2.2.2.1 3) (some true) (bnd (Bw ((x.2.1.1,x.2.1.2),(x.2.2.1.1,x.2.2.1.2))) (fun z13=>(some z13)))))))) (cnd (iNe x.2.2.2.1 3) (some true) (bnd
 (Bw ((x.2.1.1,x.2.1.2),(x.2.2.1.1,x.2.2.1.2))) (fun z12=>(some z12))))) (cnd (iNe x.2.2.2.1 3) (some true) (bnd (Bw ((x.2.1.1,x.2.1.2),
 (x.2.2.1.1,x.2.2.1.2))) (fun z12=>(some z12))))))))) (bnd (Dh (x.1,((x.2.1.1,x.2.1.2),((x.2.2.1.1,x.2.2.1.2),(x.2.2.2.1,x.2.2.2.2))))) (fun z11
 => (cnd z11 (cnd (Ag z5.2) (cnd (Ag x.2.2.2.2) (some false) (bnd (Cn (x.1,((x.2.1.1,x.2.1.2),((x.2.2.1.1,x.2.2.1.2),(x.2.2.2.1,x.2.2.2.2))))) (fun z12
 => (cnd z12 (some false) (cnd (iNe x.2.2.2.1 3) (some true) (bnd (Bw ((x.2.1.1,x.2.1.2),(x.2.2.1.1,x.2.2.1.2))) (fun z13=>(some z13)))))))) (cnd (iNe
 x.2.2.2.1 3) (some true) (bnd (Bw ((x.2.1.1,x.2.1.2),(x.2.2.1.1,x.2.2.1.2))) (fun z12=>(some z12))))) (cnd (iNe x.2.2.2.1 3) (some true) (bnd
 (Bw ((x.2.1.1,x.2.1.2),(x.2.2.1.1,x.2.2.1.2))) (fun z12=>(some z12)))))))))))))))) (bnd (Cn (x.1,((x.2.1.1,x.2.1.2),((x.2.2.1.1,x.2.2.1.2),
 (x.2.2.2.1,x.2.2.2.2))))) (fun z8=>(cnd z8 (cnd (iNe x.2.2.1.1 0) (some false) (cnd (Ag z6.2) (some false) (bnd (Dh (x.1,((x.2.1.1,x.2.1.2),((x.2.2.1.1,
 x.2.2.1.2),(x.2.2.2.1,x.2.2.2.2))))) (fun z9=>(cnd z9 (cnd (Ag z5.2) (cnd (Ag x.2.2.2.2) (some false) (bnd (Cn (x.1,((x.2.1.1,x.2.1.2),((x.2.2.1.1,
 x.2.2.1.2),(x.2.2.2.1,x.2.2.2.2))))) (fun z10=>(cnd z10 (some false) (cnd (iNe x.2.2.2.1 3) (some true) (bnd (Bw ((x.2.1.1,x.2.1.2),(x.2.2.1.1,
 x.2.2.1.2))) (fun z11=>(some z11)))))))) (cnd (iNe x.2.2.2.1 3) (some true) (bnd (Bw ((x.2.1.1,x.2.1.2),(x.2.2.1.1,x.2.2.1.2))) (fun z10=>(some
 z10))))) (cnd (iNe x.2.2.2.1 3) (some true) (bnd (Bw ((x.2.1.1,x.2.1.2),(x.2.2.1.1,x.2.2.1.2))) (fun z10=>(some z10))))))))) (bnd (Dh (x.1,
 ((x.2.1.1,x.2.1.2),((x.2.2.1.1,x.2.2.1.2),(x.2.2.2.1,x.2.2.2.2))))) (fun z9=>(cnd z9 (cnd (Ag z5.2) (cnd (Ag x.2.2.2.2) (some false) (bnd (Cn (x.1,
 ((x.2.1.1,x.2.1.2),((x.2.2.1.1,x.2.2.1.2),(x.2.2.2.1,x.2.2.2.2))))) (fun z10=>(cnd z10 (some false) (cnd (iNe x.2.2.2.1 3) (some true) (bnd (Bw
 ((x.2.1.1,x.2.1.2),(x.2.2.1.1,x.2.2.1.2))) (fun z11=>(some z11)))))))) (cnd (iNe x.2.2.2.1 3) (some true) (bnd (Bw ((x.2.1.1,x.2.1.2),(x.2.2.1.1,
 x.2.2.1.2))) (fun z10=>(some z10))))) (cnd (iNe x.2.2.2.1 3) (some true) (bnd (Bw ((x.2.1.1,x.2.1.2),(x.2.2.1.1,x.2.2.1.2))) (fun z10=>(some
 z10)))))))))))))))))))))))))))))
def Nx (x:Int):C3:=(bnd (B6 (x,(0,65535))) (fun z1=>(some z1)))
def Zi1 (x:Jv):C3:=(cnd (iEq x.2.2.2.2.1 0) (cnd (iEq x.2.2.2.2.2.1 0) (cnd (iEq x.2.2.2.2.2.2 0) (some (iNe x.1 4)) (some false)) (some false)) (bnd
 (B6 (x.2.2.2.2.1,(1,9))) (fun z1=>(cnd z1 (bnd (Nx x.2.2.2.2.2.1) (fun z2=>(cnd z2 (bnd (B6 (x.2.2.2.2.2.2,(0,6))) (fun z3
 => (some z3))) (some false)))) (some false)))))
def Uq (x:Jv):C3:=(bnd (Zc2 (x.2.1.1,((x.2.1.2.1.1,x.2.1.2.1.2),((x.2.1.2.2.1.1,x.2.1.2.2.1.2),(x.2.1.2.2.2.1,x.2.1.2.2.2.2))))) (fun
 z1=>(Ao (cnd (iEq x.1 1) (bnd (Ji (x.2.1.1,((x.2.1.2.1.1,x.2.1.2.1.2),((x.2.1.2.2.1.1,x.2.1.2.2.1.2),(x.2.1.2.2.2.1,x.2.1.2.2.2.2))))) (fun z2
 => (some (.inl (z2,((sEq x.2.2.1 []),(iEq x.2.2.2.1 0))))))) (cnd (iEq x.1 2) (bnd (Rt x.2.2.1) (fun z2=>(some (.inl (z1,(z2,(iEq x.2.2.2.1 0))))))) (cnd
 (iEq x.1 3) (bnd (B6 (x.2.2.2.1,(0,7))) (fun z2=>(some (.inl (z1,((sEq x.2.2.1 []),z2)))))) (some (.inl (z1,((sEq x.2.2.1 []),(iEq x.2.2.2.1 0)))))))) (fun
 (z2:(Bool×(Bool×Bool)))=>(bnd (B6 (x.1,(1,4))) (fun z3=>(cnd z3 (cnd z2.1 (cnd z2.2.1 (cnd z2.2.2 (bnd (Zi1 (x.1,((x.2.1.1,((x.2.1.2.1.1,
 x.2.1.2.1.2),((x.2.1.2.2.1.1,x.2.1.2.2.1.2),(x.2.1.2.2.2.1,x.2.1.2.2.2.2)))),(x.2.2.1,(x.2.2.2.1,(x.2.2.2.2.1,(x.2.2.2.2.2.1,x.2.2.2.2.2.2))))))) (fun z4 =>
 (some z4))) (some false)) (some false)) (some false)) (some false))))))))
def J2 (x:Ed):F9:=(chk (A0 (0+x.1.length) 1) (chk (A0 ((Al [] x.1).length+2) 1) (some (Al (Al [] x.1) [(u8 (Ai .u8 (Bh .i64 x.2
 8))),(u8 (Ai .u8 x.2))]))))
def Ru (x:((List UInt8)×(List UInt8))):F9:=(cnd (iGt (Ah x.2) 60) (chk (A0 (0+x.1.length) 1) (some (Al [] x.1))) (bnd (J2 (x.1,(Ah
 x.2))) (fun z1=>(chk (A0 (z1.length+x.2.length) 1) (some (Al z1 x.2))))))
def Zi0 (x:Bool):(Option UInt8):=(cnd x (some (u8 1)) (some (u8 0)))
def Uu (x:Ycw):F9:=(chk (A0 (x.1.length+1) 1) (bnd (Ru ((Al x.1 [(u8 (Ai .u8 x.2.1))]),x.2.2)) (fun z1=>(some
 z1))))
def X9 (x:Ycm):F9:=(chk (A0 (0+x.1.length) 1) (bnd (Ji (x.2.1,((x.2.2.1.1,x.2.2.1.2),((x.2.2.2.1.1,x.2.2.2.1.2),(x.2.2.2.2.1,
 x.2.2.2.2.2))))) (fun z1=>(cnd (Ag z1) (some (Al [] x.1)) (bnd (Ru ((Al [] x.1),x.2.1)) (fun z2=>(bnd (Zi0 x.2.2.2.2.2) (fun
 z3=>(chk (A0 (z2.length+2) 1) (Ao (bnd (Dh (x.2.1,((x.2.2.1.1,x.2.2.1.2),((x.2.2.2.1.1,x.2.2.2.1.2),(x.2.2.2.2.1,x.2.2.2.2.2))))) (fun z4
 => (cnd z4 (bnd (Uu ((Al z2 [(u8 (Ai .u8 x.2.2.2.2.1)),z3]),(x.2.2.1.1,x.2.2.1.2))) (fun z5=>(some (.inl z5)))) (some (.inl (Al z2 [(u8
 (Ai .u8 x.2.2.2.2.1)),z3])))))) (fun (z4:(List UInt8))=>(Ao (bnd (Cn (x.2.1,((x.2.2.1.1,x.2.2.1.2),((x.2.2.2.1.1,x.2.2.2.1.2),(x.2.2.2.2.1,
 x.2.2.2.2.2))))) (fun z5=>(cnd z5 (bnd (Uu (z4,(x.2.2.2.1.1,x.2.2.2.1.2))) (fun z6=>(some (.inl z6)))) (some (.inl z4))))) (fun (z5 :
 (List UInt8))=>(some z5))))))))))))))
def Zjl:(Int×Int)->Option Ycr:=fun (z3:(Int×Int))=>(cnd (iLt z3.2 8) (Ao (cnd (iGt (B7 .i64 z3.1 1) 65535) (some (.inl (K5 .i64 (B7 .i64
 z3.1 1) 69665))) (some (.inl (B7 .i64 z3.1 1)))) (fun (z4:Int)=>(some (.inl (z4,(Aj .i64 z3.2 1)))))) (some (.inr (.inl z3.1))))
def Zjm (x:(List UInt8)):(Int×Int)->Option Zil:=fun (z1:(Int×Int))=>(cnd (iLt z1.2 (Ah x)) (Ao (bnd (idx x z1.2) (fun z2 =>
 (Aw (Zjl) ((K5 .i64 z1.1 (B7 .i64 (Ai .i64 (y2i z2)) 8)),0)))) (fun (z2:Int)=>(some (.inl (z2,(Aj .i64 z1.2 1)))))) (some (.inr (.inl z1.1))))
def Yc (x:(List UInt8)):(Option Int):=(Ao (Aw (Zjm x) (65535,0)) (fun (z1:Int)=>(some (Aq .i64 z1 65535))))
def Up (x:Ycf):F9:=(bnd (Uq (x.2.2.1,((x.2.2.2.1.1,((x.2.2.2.1.2.1.1,x.2.2.2.1.2.1.2),((x.2.2.2.1.2.2.1.1,x.2.2.2.1.2.2.1.2),
 (x.2.2.2.1.2.2.2.1,x.2.2.2.1.2.2.2.2)))),(x.2.2.2.2.1,(x.2.2.2.2.2.1,(x.2.2.2.2.2.2.1,(x.2.2.2.2.2.2.2.1,x.2.2.2.2.2.2.2.2))))))) (fun z1=>(cnd (Ag z1) (some
 []) (bnd (Nx x.1) (fun z2=>(cnd (Ag z2) (some []) (bnd (Nx x.2.1) (fun z3=>(cnd (Ag z3) (some []) (al 3 (bnd (J2 ([],x.1)) (fun
 z4=>(bnd (J2 (z4,x.2.1)) (fun z5=>(chk (A0 (z5.length+1) 1) (Ao (cnd (iEq x.2.2.1 1) (bnd (X9 ((Al z5 [(u8 (Ai
 .u8 x.2.2.1))]),(x.2.2.2.1.1,((x.2.2.2.1.2.1.1,x.2.2.2.1.2.1.2),((x.2.2.2.1.2.2.1.1,x.2.2.2.1.2.2.1.2),(x.2.2.2.1.2.2.2.1,x.2.2.2.1.2.2.2.2)))))) (fun z6
 => (some (.inl z6)))) (cnd (iEq x.2.2.1 2) (bnd (Ru ((Al z5 [(u8 (Ai .u8 x.2.2.1))]),x.2.2.2.2.1)) (fun z6=>(some (.inl z6)))) (cnd (iEq x.2.2.1
 3) (chk (A0 ((Al z5 [(u8 (Ai .u8 x.2.2.1))]).length+1) 1) (some (.inl (Al (Al z5 [(u8 (Ai .u8 x.2.2.1))]) [(u8 (Ai .u8 x.2.2.2.2.2.1))])))) (some (.inl (Al
 z5 [(u8 (Ai .u8 x.2.2.1))])))))) (fun (z6:(List UInt8))=>(chk (A0 (z6.length+2) 1) (bnd (J2 ((Al z6 [(u8 (Ai .u8 x.2.2.2.2.2.2.1)),(u8 (Ai .u8
 x.2.2.2.2.2.2.2.2))]),x.2.2.2.2.2.2.2.1)) (fun z7=>(bnd (Yc z7) (fun z8=>(bnd (J2 (z7,z8)) (fun z9=>(some
 z9)))))))))))))))))))))))))
def Ut (x:Fk):Ycz:=(cnd (iEq x.2.2.1 0) (some (false,((-1),true))) (cnd (iGt x.2.2.1 0) (some (true,((A9 .i64 x.2.2.1 1),x.2.2.2))) (some (true,
 (x.2.2.1,x.2.2.2)))))
def Mn (x:Yco):(Option Zij):=(cnd x.1.2.2.2 (some (x.1.2.1,(x.1.2.2.1,x.1.2.2.2))) (bnd (B6 (x.2.1,(0,(A9 .i64 (Ah x.1.1) 1)))) (fun
 z1=>(cnd (Ag z1) (some (x.1.2.1,(x.1.2.2.1,x.1.2.2.2))) (cnd (iGt (Ah x.2.2) 120) (some (x.1.2.1,(x.1.2.2.1,x.1.2.2.2))) (cnd (iGe (Ah x.1.2.1) 40) (some
 (x.1.2.1,(x.1.2.2.1,x.1.2.2.2))) (bnd (Ut (x.1.1,(x.1.2.1,(x.1.2.2.1,x.1.2.2.2)))) (fun z2=>(cnd (Ag z2.1) (some (x.1.2.1,(z2.2.1,z2.2.2))) (chk (A0
 (0+x.2.2.length) 1) (chk (A0 (x.1.2.1.length+1) 32) (some ((Al x.1.2.1 [(x.2.1,(Al [] x.2.2))]),(z2.2.1,z2.2.2))))))))))))))
def Lq (x:(List (List UInt8))×(List (Int×(List UInt8)))×Int×Bool):Option ((List (List UInt8))×(List (Int×(List UInt8)))×Int×Bool):=chk (decide ((-1<=x.2.2.1/\x.2.2.1<=1000)/\x.1.length<2^40/\x.2.1.length<2^40/\∀w∈x.2.1,0<=w.1/\w.1<=(x.1.length:Int)-1)) (some (flC x.1 x.2.1 x.2.2.1 x.2.2.2))
def Zcx (x:(Int×Int)):F9:=(bnd (B6 (x.1,(1,60000))) (fun z1=>(cnd (Ag z1) (some []) (bnd (B6 (x.2,(0,30))) (fun z2=>(cnd (Ag z2) (some []) (bnd (J2 ([],x.1)) (fun z3=>(bnd (J2 (z3,x.2)) (fun z4=>(bnd (Yc z4) (fun z5 =>
 (bnd (J2 (z4,z5)) (fun z6=>(some z6)))))))))))))))
def Zdy (x:tqX) (z1:Nl):Zih->Option (Zih ⊕ (Zij ⊕ Zqj)):=fun (z2:Zih)=>(cnd (iLt z2.2.2.2 (Ah z1)) (bnd (Uw (x.2,z2.2.2.2))
 (fun z3=>(bnd (idx z1 z2.2.2.2) (fun z4=>(bnd (Up (x.2,(z2.2.2.2,z4))) (fun z5=>(bnd (Mn ((x.1.1.1,(z2.1,(z2.2.1,
 z2.2.2.1))),(z3,z5))) (fun z6=>(some (.inl (z6.1,(z6.2.1,(z6.2.2,(Aj .i64 z2.2.2.2 1)))))))))))))) (some (.inr (.inl (z2.1,(z2.2.1,z2.2.2.1))))))
def P0 (x:tqX):(Option Zqj):=(bnd (Ya x.1.2.1) (fun z1=>(Ao (Aw (Zdy x z1) (x.1.1.2.1,(x.1.1.2.2.1,(x.1.1.2.2.2,
 0)))) (fun (z2:Zij)=>(bnd (Lq (x.1.1.1,z2)) (fun z3=>(bnd (Zcx (x.2,(Ah z1))) (fun z4=>(bnd (Mn (z3,((Dy x.2
 2),z4))) (fun z5=>(bnd (Lq (z3.1,z5)) (fun z6=>(cnd (Ag z6.2.2.2) (some (z6.1,(z6.2.1,(z6.2.2.1,(z6.2.2.2,(x.1.2.1.2.1,(x.2,(Ah
 z1)))))))) (some (z6.1,(z6.2.1,(z6.2.2.1,(z6.2.2.2,(x.1.2.1.2.1,x.1.2.2)))))))))))))))))))
def Zcw (x:Unit):tqU:=(bnd (Zcs 62) (fun z1=>(bnd (P0 ((z1,(([],(0,[])),(0,0))),1)) (fun z2=>(some ((z2.1,
 (z2.2.1,(z2.2.2.1,z2.2.2.2.1))),(([],(z2.2.2.2.2.1,[])),z2.2.2.2.2.2)))))))
def Rw (x:Lh):Xe:=(Ao (cnd (iLt x.2.1 (Ah x.1)) (bnd (idx x.1 x.2.1) (fun z1=>(some (.inl ((Aj .i64 x.2.1 1),(Aq .i64 (Aj
 .i64 (Aq .i64 (K5 .i64 (Bh .i64 (Aj .i64 (D8 .i64 x.2.2 6364136223846793005) 1442695040888963407) 33) (Bh .i64 (Aj .i64 (D8 .i64 x.2.2 6364136223846793005)
 1442695040888963407) 47)) 255) (Ai .i64 (y2i z1))) 255)))))) (some (.inl (x.2.1,(Aq .i64 (K5 .i64 (Bh .i64 (Aj .i64 (D8 .i64 x.2.2 6364136223846793005)
 1442695040888963407) 33) (Bh .i64 (Aj .i64 (D8 .i64 x.2.2 6364136223846793005) 1442695040888963407) 47)) 255))))) (fun (z1:(Int×Int))=>(some (z1.2,(z1.1,(Aj .i64
 (D8 .i64 x.2.2 6364136223846793005) 1442695040888963407))))))
def D5 (x:Zby):Xe:=(cnd (iLe x.2 0) (some (0,(x.1.2.1,x.1.2.2))) (cnd (iLe x.2 256) (bnd (Rw (x.1.1,(x.1.2.1,x.1.2.2))) (fun z1
 => (chk (iNe x.2 0) (some ((Dy z1.1 x.2),(z1.2.1,z1.2.2)))))) (bnd (Rw (x.1.1,(x.1.2.1,x.1.2.2))) (fun z1=>(bnd (Rw (x.1.1,(z1.2.1,z1.2.2)))
 (fun z2=>(bnd (Rw (x.1.1,(z2.2.1,z2.2.2))) (fun z3=>(chk (iNe x.2 0) (some ((Dy (Aj .i64 (Aj .i64 (D8 .i64 z1.1 65536) (D8 .i64 z2.1
 256)) z3.1) x.2),(z3.2.1,z3.2.2))))))))))))
def Zc8 (x:Lh):Xe:=(bnd (D5 ((x.1,(x.2.1,x.2.2)),5)) (fun z1=>(some ((Aj .i64 1 z1.1),(z1.2.1,z1.2.2)))))
def Zc5 (x:(Lh×Ih)):Zqm:=(bnd (D5 ((x.1.1,(x.1.2.1,x.1.2.2)),(Ah x.2))) (fun z1=>(bnd (idx x.2 z1.1) (fun z2=>(some (z2,(z1.2.1,z1.2.2)))))))
def Yj (x:Lh):Zqm:=(bnd (Zc5 ((x.1,(x.2.1,x.2.2)),[[97],[98],[99],[100],[101,53]])) (fun z1=>(some (z1.1,(z1.2.1,
 z1.2.2)))))
def Jj (x:(Lh×(List Int))):Xe:=(bnd (D5 ((x.1.1,(x.1.2.1,x.1.2.2)),(Ah x.2))) (fun z1=>(bnd (idx x.2 z1.1) (fun z2
 => (some (z2,(z1.2.1,z1.2.2)))))))
def Zc7 (x:Lh):Xe:=(bnd (Jj ((x.1,(x.2.1,x.2.2)),[0,97,90,127,128,164,233,2047,2048,8364,1072,1102,1025,12354,12450,352,
 65535,65536,1114111])) (fun z1=>(some (z1.1,(z1.2.1,z1.2.2)))))
def Zda (x:Zby):Xe:=(cnd (iEq x.2 0) (bnd (Zc7 (x.1.1,(x.1.2.1,x.1.2.2))) (fun z1=>(some (z1.1,(z1.2.1,z1.2.2))))) (cnd (iEq x.2
 5) (bnd (Jj ((x.1.1,(x.1.2.1,x.1.2.2)),[97,32,12353,12435,12449,12534,12354])) (fun z1=>(some (z1.1,(z1.2.1,z1.2.2))))) (bnd (Jj ((x.1.1,
 (x.1.2.1,x.1.2.2)),[65,97,32,164,192,200,228,255,163,128,130,189])) (fun z1=>(bnd (Lp (x.2,z1.1)) (fun z2=>(cnd (Ag z2.2)
 (some (120,(z1.2.1,z1.2.2))) (some (z2.1,(z1.2.1,z1.2.2))))))))))
def Zd0 (x:Ycs):Zqn->Option Yv8:=fun (z2:Zqn)=>(cnd (iGt z2.2.2.2 0) (bnd (Zda ((x.1.1,(z2.1,z2.2.1)),x.2.1)) (fun z3 =>
 (bnd (Nw (z2.2.2.1,z3.1)) (fun z4=>(some (.inl (z3.2.1,(z3.2.2,(z4,(A9 .i64 z2.2.2.2 1)))))))))) (some (.inr (.inl (z2.1,(z2.2.1,
 z2.2.2.1))))))
def Ym (x:Ycs):Zqm:=(Ao (bnd (D5 ((x.1.1,(x.1.2.1,x.1.2.2)),(Aj .i64 x.2.2 1))) (fun z1=>(Aw (Zd0 x) (z1.2.1,
 (z1.2.2,([],z1.1)))))) (fun (z1:Yc0)=>(some (z1.2.2,(z1.1,z1.2.1)))))
def Zjk (x:(List UInt8)):Zqr->Option (Zqr ⊕ ((List Int) ⊕ Zqq)):=fun (z1:Zqr)=>(cnd (iLt z1.2 (Ah x)) (bnd (X7 (x,z1.2)) (fun z2=>(cnd (Ag z2.2.2) (some (.inr (.inr ([],false)))) (chk (A0 (z1.1.length+1) 8) (some (.inl ((Al z1.1 [z2.1]),z2.2.1))))))) (some (.inr (.inl z1.1))))
def Zc0 (x:(List UInt8)):(Option Zqq):=(Ao (Aw (Zjk x) ([],0)) (fun (z1:(List Int))=>(some (z1,true))))
def Ziz (x:Int):Lg:=(bnd (B6 (x,(12353,12435))) (fun z1=>(cnd z1 (some (164,((Aj .i64 (A9 .i64 x 12353) 161),true))) (bnd
 (B6 (x,(12449,12534))) (fun z2=>(cnd z2 (some (165,((Aj .i64 (A9 .i64 x 12449) 161),true))) (some (0,(0,false)))))))))
def X8 (x:Ed):T8:=(chk (A0 (0+x.1.length) 1) (bnd (B6 (x.2,(0,127))) (fun z1=>(cnd z1 (chk (A0 ((Al [] x.1).length+1)
 1) (some ((Al (Al [] x.1) [(u8 (Ai .u8 x.2))]),true))) (bnd (Ziz x.2) (fun z2=>(cnd (Ag z2.2.2) (some ((Al [] x.1),false)) (chk (A0 ((Al []
 x.1).length+2) 1) (some ((Al (Al [] x.1) [(u8 (Ai .u8 z2.1)),(u8 (Ai .u8 z2.2.1))]),true))))))))))
def Zrk (x:(Int×Int)):(Int)->Option ((Int) ⊕ (Unit ⊕ (Int×Bool))):=fun (z1:Int)=>(cnd (iLt z1 256) (bnd (Lp (x.1,z1)) (fun z2=>(cnd z2.2 (cnd (iEq z2.1 x.2) (some (.inr (.inr (z1,true)))) (some (.inl (Aj .i64 z1 1)))) (some (.inl (Aj .i64 z1 1)))))) (some (.inr (.inl ()))))
def Zcz (x:(Int×Int)):Zbz:=(Ao (Aw (Zrk x) 0) (fun (z1:Unit)=>(some (0,false))))
def Yl (x:Zik):T8:=(cnd (iEq x.1 0) (bnd (Nw (x.2.1,x.2.2)) (fun z1=>(bnd (Rv x.2.2) (fun z2=>(some
 (z1,z2)))))) (cnd (iEq x.1 5) (bnd (X8 (x.2.1,x.2.2)) (fun z1=>(some (z1.1,z1.2)))) (bnd (Zcz (x.1,x.2.2)) (fun z1=>(cnd (Ag
 z1.2) (chk (A0 (0+x.2.1.length) 1) (some ((Al [] x.2.1),false))) (chk (A0 (0+x.2.1.length) 1) (chk (A0 ((Al [] x.2.1).length+1) 1) (some ((Al (Al [] x.2.1)
 [(u8 (Ai .u8 z1.1))]),true)))))))))
def Zjg (x:D4) (z1:Zqq):Ed->Option Zql:=fun (z3:Ed)=>(cnd (iLt z3.2 (Ah z1.1)) (bnd (idx z1.1 z3.2) (fun z4=>(bnd (Yl
 (x.1,(z3.1,z4))) (fun z5=>(cnd (Ag z5.2) (some (.inr (.inr ([],false)))) (some (.inl (z5.1,(Aj .i64 z3.2 1))))))))) (some (.inr (.inl z3.1))))
def Zcu (x:D4):T8:=(bnd (Zc0 x.2) (fun z1=>(bnd (Rx x.1) (fun z2=>(cnd (Ag z2) (some ([],false)) (cnd (Ag
 z1.2) (some ([],false)) (Ao (Aw (Zjg x z1) ([],0)) (fun (z3:(List UInt8))=>(some (z3,true))))))))))
def Uo (x:D4):Yct:=(bnd (Zcu (x.1,x.2)) (fun z1=>(cnd (Ag z1.2) (some ((0,[]),false)) (cnd (iGt (Ah z1.1) 20) (some ((0,
 []),false)) (some ((x.1,z1.1),true))))))
def Ur (x:(Int×Ycw)):(Option Ywc):=(bnd (Uo (0,x.2.2.2)) (fun z1=>(bnd (B6 (x.1,(0,7))) (fun z2=>(cnd (Ag
 z2) (some (([],((0,[]),((0,[]),(0,false)))),1)) (bnd (Rt x.2.1) (fun z3=>(cnd (Ag z3) (some (([],((0,[]),((0,[]),(0,false)))),1)) (bnd
 (B6 (x.2.2.1,(1,5))) (fun z4=>(cnd (Ag z4) (some (([],((0,[]),((0,[]),(0,false)))),1)) (cnd (Ag z1.2) (some (([],((0,[]),((0,[]),(0,false)))),
 1)) (bnd (Uo (x.2.2.1,x.2.2.2)) (fun z5=>(Ao (Ao (cnd (iEq x.1 0) (some (.inl true)) (some (.inl (iEq x.1 7)))) (fun (z6:Bool)=>(cnd z6 (cnd (Ag
 z5.2) (some (.inr (([],((0,[]),((0,[]),(0,false)))),3))) (some (.inr ((x.2.1,((z5.1.1,z5.1.2),((0,[]),(1,false)))),0)))) (Ao (cnd (iEq x.1 4) (some (.inl true))
 (some (.inl (iEq x.1 5)))) (fun (z7:Bool)=>(cnd z7 (some (.inr ((x.2.1,((0,[]),((z1.1.1,z1.1.2),(2,false)))),0))) (cnd (iEq x.1 6) (cnd z5.2 (some (.inr ((x.2.1,
 ((z5.1.1,z5.1.2),((0,[]),(1,false)))),0))) (some (.inr ((x.2.1,((0,[]),((z1.1.1,z1.1.2),(2,true)))),0)))) (some (.inl ([],(0,([],(0,([],(0,false)))))))))))))))
 (fun (z6:Ycp)=>(cnd (Ag z5.2) (some ((x.2.1,((0,[]),((z1.1.1,z1.1.2),(2,true)))),0)) (some ((x.2.1,((z5.1.1,z5.1.2),((z1.1.1,z1.1.2),(3,false)))),
 0)))))))))))))))))))
def Yd (x:(D4×Int)):Yct:=(bnd (Hv (x.1.1,x.1.2)) (fun z1=>(bnd (Uo (x.2,z1.1)) (fun z2=>(cnd (Ag z1.2)
 (bnd (Ny (x.1.1,x.1.2)) (fun z3=>(some ((z3.1,z3.2),false)))) (cnd (Ag z2.2) (bnd (Ny (x.1.1,x.1.2)) (fun z3=>(some ((z3.1,z3.2),
 false)))) (some ((z2.1.1,z2.1.2),true))))))))
def X6 (x:Ft):Zig:=(bnd (J3 (x.1,((x.2.1.1,x.2.1.2),((x.2.2.1.1,x.2.2.1.2),(x.2.2.2.1,x.2.2.2.2))))) (fun z1=>(bnd
 (Ji (x.1,((x.2.1.1,x.2.1.2),((x.2.2.1.1,x.2.2.1.2),(x.2.2.2.1,x.2.2.2.2))))) (fun z2=>(cnd (Ag z2) (some (z1.1,((z1.2.1.1,z1.2.1.2),((z1.2.2.1.1,
 z1.2.2.1.2),(z1.2.2.2.1,z1.2.2.2.2))))) (bnd (Cn (x.1,((x.2.1.1,x.2.1.2),((x.2.2.1.1,x.2.2.1.2),(x.2.2.2.1,x.2.2.2.2))))) (fun z3=>(cnd z3 (some (z1.1,
 ((z1.2.1.1,z1.2.1.2),((z1.2.2.1.1,z1.2.2.1.2),(z1.2.2.2.1,z1.2.2.2.2))))) (bnd (Yd ((x.2.1.1,x.2.1.2),0)) (fun z4=>(cnd (Ag z4.2) (some (z1.1,
 ((z1.2.1.1,z1.2.1.2),((z1.2.2.1.1,z1.2.2.1.2),(z1.2.2.2.1,true))))) (some (z1.1,((z1.2.1.1,z1.2.1.2),((z4.1.1,z4.1.2),(3,z1.2.2.2.2))))))))))))))))
def X5 (x:Ft):Zig:=(bnd (J3 (x.1,((x.2.1.1,x.2.1.2),((x.2.2.1.1,x.2.2.1.2),(x.2.2.2.1,x.2.2.2.2))))) (fun z1=>(bnd
 (Ji (x.1,((x.2.1.1,x.2.1.2),((x.2.2.1.1,x.2.2.1.2),(x.2.2.2.1,x.2.2.2.2))))) (fun z2=>(cnd (Ag z2) (some (z1.1,((z1.2.1.1,z1.2.1.2),((z1.2.2.1.1,
 z1.2.2.1.2),(z1.2.2.2.1,z1.2.2.2.2))))) (bnd (Cn (x.1,((x.2.1.1,x.2.1.2),((x.2.2.1.1,x.2.2.1.2),(x.2.2.2.1,x.2.2.2.2))))) (fun z3=>(cnd (Ag z3) (some
 (z1.1,((z1.2.1.1,z1.2.1.2),((z1.2.2.1.1,z1.2.2.1.2),(z1.2.2.2.1,z1.2.2.2.2))))) (bnd (Dh (x.1,((x.2.1.1,x.2.1.2),((x.2.2.1.1,x.2.2.1.2),(x.2.2.2.1,
 x.2.2.2.2))))) (fun z4=>(cnd z4 (some (x.1,((z1.2.1.1,z1.2.1.2),((0,[]),(1,false))))) (some (z1.1,((z1.2.1.1,z1.2.1.2),((z1.2.2.1.1,z1.2.2.1.2),(z1.2.2.2.1,
 true))))))))))))))))
def Zdb (x:Lh):Yv7:=(bnd (Zc8 (x.1,(x.2.1,x.2.2))) (fun z1=>(bnd (Yj (x.1,(z1.2.1,z1.2.2))) (fun z2=>(bnd
 (D5 ((x.1,(z2.2.1,z2.2.2)),6)) (fun z3=>(cnd (iEq z3.1 0) (some ((z2.1,((3,[(u8 128),(u8 65)]),((0,[]),(1,true)))),(z3.2.1,z3.2.2))) (cnd (iEq
 z3.1 1) (bnd (Ym ((x.1,(z3.2.1,z3.2.2)),(z1.1,5))) (fun z4=>(bnd (Ur (0,(z2.1,(z1.1,z4.1)))) (fun z5=>(some ((z5.1.1,((z5.1.2.1.1,
 z5.1.2.1.2),((z5.1.2.2.1.1,z5.1.2.2.1.2),(z5.1.2.2.2.1,z5.1.2.2.2.2)))),(z4.2.1,z4.2.2))))))) (bnd (D5 ((x.1,(z3.2.1,z3.2.2)),8)) (fun z4=>(bnd
 (Jj ((x.1,(z4.2.1,z4.2.2)),[z1.1,z1.1,z1.1,0])) (fun z5=>(bnd (Ym ((x.1,(z5.2.1,z5.2.2)),(z5.1,5))) (fun z6=>(bnd (Ur (z4.1,
 (z2.1,(z1.1,z6.1)))) (fun z7=>(Ao (cnd (iNe z7.2 0) (bnd (Ur (5,(z2.1,(z1.1,[120])))) (fun z8=>(some (.inl (z8.1.1,(z8.1.2.1.1,(z8.1.2.1.2,
 (z8.1.2.2.1.1,(z8.1.2.2.1.2,(z8.1.2.2.2.1,z8.1.2.2.2.2)))))))))) (some (.inl (z7.1.1,(z7.1.2.1.1,(z7.1.2.1.2,(z7.1.2.2.1.1,(z7.1.2.2.1.2,(z7.1.2.2.2.1,
 z7.1.2.2.2.2))))))))) (fun (z8:Ycp)=>(bnd (D5 ((x.1,(z6.2.1,z6.2.2)),5)) (fun z9=>(cnd (iEq z9.1 0) (bnd (X6 (z8.1,((z8.2.1,z8.2.2.1),
 ((z8.2.2.2.1,z8.2.2.2.2.1),(z8.2.2.2.2.2.1,z8.2.2.2.2.2.2))))) (fun z10=>(some ((z10.1,((z10.2.1.1,z10.2.1.2),((z10.2.2.1.1,z10.2.2.1.2),(z10.2.2.2.1,
 z10.2.2.2.2)))),(z9.2.1,z9.2.2))))) (cnd (iEq z9.1 1) (bnd (X5 (z8.1,((z8.2.1,z8.2.2.1),((z8.2.2.2.1,z8.2.2.2.2.1),(z8.2.2.2.2.2.1,z8.2.2.2.2.2.2))))) (fun z10=>(some ((z10.1,((z10.2.1.1,z10.2.1.2),((z10.2.2.1.1,z10.2.2.1.2),(z10.2.2.2.1,z10.2.2.2.2)))),(z9.2.1,z9.2.2))))) (some ((z8.1,((z8.2.1,z8.2.2.1),
 ((z8.2.2.2.1,z8.2.2.2.2.1),(z8.2.2.2.2.2.1,z8.2.2.2.2.2.2)))),(z9.2.1,z9.2.2)))))))))))))))))))))))))
def Yk (x:Zby):(Option Ywg):=(bnd (D5 ((x.1.1,(x.1.2.1,x.1.2.2)),x.2)) (fun z1=>(some ((iEq z1.1 0),(z1.2.1,z1.2.2)))))
def Uv (x:Lh):Yvx:=(bnd (D5 (x,4)) (fun z1=>(Ao (cnd (iEq (Aj .i64 1 z1.1) 1) (bnd (Zdb (x.1,z1.2)) (fun z2=>(some (.inl (z2.2.1,(z2.2.2,(z2.1.1,(z2.1.2.1.1,(z2.1.2.1.2,(z2.1.2.2.1.1,(z2.1.2.2.1.2,(z2.1.2.2.2.1,(z2.1.2.2.2.2,([],0)))))))))))))) (cnd (iEq (Aj .i64 1
 z1.1) 2) (bnd (Yj (x.1,z1.2)) (fun z2=>(some (.inl (z2.2.1,(z2.2.2,([],(0,([],(0,([],(0,(false,(z2.1,0)))))))))))))) (cnd (iEq (Aj .i64 1 z1.1) 3)
 (bnd (D5 ((x.1,z1.2),8)) (fun z2=>(some (.inl (z2.2.1,(z2.2.2,([],(0,([],(0,([],(0,(false,([],z2.1)))))))))))))) (some (.inl (z1.2.1,(z1.2.2,
 ([],(0,([],(0,([],(0,(false,([],0))))))))))))))) (fun (z2:(Int×(Int×((List UInt8)×(Int×((List UInt8)×(Int×((List UInt8)×(Int×(Bool×Ed)))))))))) =>
 (Ao (cnd (iEq (Aj .i64 1 z1.1) 4) (bnd (D5 ((x.1,(z2.1,z2.2.1)),3)) (fun z3=>(bnd (Jj ((x.1,z3.2),[0,1,2,65535])) (fun z4=>(bnd
 (D5 ((x.1,z4.2),7)) (fun z5=>(some (.inl (z5.2.1,(z5.2.2,((Aj .i64 1 z3.1),(z4.1,z5.1)))))))))))) (bnd (Yk ((x.1,(z2.1,z2.2.1)),2)) (fun
 z3=>(cnd z3.1 (bnd (D5 ((x.1,z3.2),3)) (fun z4=>(bnd (Jj ((x.1,z4.2),[0,1,2,65535])) (fun z5=>(bnd (D5 ((x.1,
 z5.2),7)) (fun z6=>(some (.inl (z6.2.1,(z6.2.2,((Aj .i64 1 z4.1),(z5.1,z6.1)))))))))))) (some (.inl (z3.2.1,(z3.2.2,(0,(0,0)))))))))) (fun (z3:(Int×(Int
 × Jb)))=>(some (((Aj .i64 1 z1.1),((z2.2.2.1,((z2.2.2.2.1,z2.2.2.2.2.1),((z2.2.2.2.2.2.1,z2.2.2.2.2.2.2.1),(z2.2.2.2.2.2.2.2.1,z2.2.2.2.2.2.2.2.2.1)))),
 (z2.2.2.2.2.2.2.2.2.2.1,(z2.2.2.2.2.2.2.2.2.2.2,z3.2.2)))),(z3.1,z3.2.1)))))))))
def Yd0 (x:Ec):T6->Option tqF:=fun (z1:T6)=>(cnd (iLt z1.2 (Ah x.1)) (bnd (idx x.1 z1.2) (fun z2=>(bnd (J3 (z2.1,
 ((z2.2.1.1,z2.2.1.2),((z2.2.2.1.1,z2.2.2.1.2),(z2.2.2.2.1,z2.2.2.2.2))))) (fun z3=>(chk (A0 (z1.1.length+1) 96) (some (.inl ((Al z1.1 [(z3.1,((z3.2.1.1,
 z3.2.1.2),((z3.2.2.1.1,z3.2.2.1.2),(z3.2.2.2.1,z3.2.2.2.2))))]),(Aj .i64 z1.2 1))))))))) (some (.inr (.inl z1.1))))
def Ye (x:Ec):Yci:=(al 2 (chk (A0 (0+x.2.2.length) 24) (Ao (Aw (Yd0 x) ([],0)) (fun (z1:Fs)=>(some (z1,(x.2.1,(Al []
 x.2.2))))))))
def Yf (x:Jb):C3:=(bnd (B6 (x.1,(1,9))) (fun z1=>(cnd z1 (bnd (Nx x.2.1) (fun z2=>(cnd z2 (bnd (B6
 (x.2.2,(0,6))) (fun z3=>(some z3))) (some false)))) (some false))))
def Zdu (x:Ec):(Int)->Option Rh:=fun (z1:Int)=>(cnd (iLt z1 (Ah x.1)) (bnd (idx x.1 z1) (fun z2=>(bnd (Ji (z2.1,
 ((z2.2.1.1,z2.2.1.2),((z2.2.2.1.1,z2.2.2.1.2),(z2.2.2.2.1,z2.2.2.2.2))))) (fun z3=>(cnd (Ag z3) (some (.inr (.inr false))) (cnd (iGt z1 0) (bnd (idx x.1 (A9
 .i64 z1 1)) (fun z4=>(bnd (idx x.1 z1) (fun z5=>(cnd (Ag (sLt z4.1 z5.1)) (some (.inr (.inr false))) (some (.inl (Aj .i64 z1 1)))))))) (some (.inl (Aj
 .i64 z1 1))))))))) (some (.inr (.inl ()))))
def Zdv (x:Ec):(Int)->Option Rh:=fun (z2:Int)=>(cnd (iLt z2 (Ah x.2.2)) (bnd (idx x.2.2 z2) (fun z3=>(bnd (Yf (z3.1,
 (z3.2.1,z3.2.2))) (fun z4=>(cnd (Ag z4) (some (.inr (.inr false))) (cnd (iGt z2 0) (bnd (idx x.2.2 (A9 .i64 z2 1)) (fun z5=>(bnd (idx x.2.2 z2) (fun
 z6=>(cnd (iGe z5.1 z6.1) (some (.inr (.inr false))) (some (.inl (Aj .i64 z2 1)))))))) (some (.inl (Aj .i64 z2 1))))))))) (some (.inr (.inl ()))))
def Us (x:Ec):C3:=(Ao (Aw (Zdu x) 0) (fun (z1:Unit)=>(Ao (Aw (Zdv x) 0) (fun (z2:Unit)=>(cnd (iLe (Ah x.1) 8)
 (bnd (B6 (x.2.1,(0,7))) (fun z3=>(some z3))) (some false))))))
def Zdw (x:Zid):Zqh->Option (Zqh ⊕ Ycc):=fun (z1:Zqh)=>(cnd (iLt z1.2.2.2 (Ah z1.1)) (Ao (Ao (cnd (Ag z1.2.2.1) (bnd (idx z1.1
 z1.2.2.2) (fun z2=>(cnd (Ag (sLt z2.1 x.2.1)) (bnd (J3 x.2) (fun z3=>(chk (A0 (z1.2.1.length+1) 96) (some (.inl ((Al z1.2.1 [z3]),
 true)))))) (some (.inl (z1.2.1,z1.2.2.1)))))) (some (.inl (z1.2.1,z1.2.2.1)))) (fun (z2:Xc)=>(bnd (idx z1.1 z1.2.2.2) (fun z3=>(cnd (Ag (sEq z3.1 x.2.1))
 (bnd (idx z1.1 z1.2.2.2) (fun z4=>(chk (Hi z4.2.1.2) (chk (Hi z4.2.2.1.2) (bnd (idx z1.1 (Int.ofNat (nOf z1.2.2.2))) (fun z5=>(bnd (idx (Bo z1.1
 (nOf z1.2.2.2) (z5.1,((z5.2.1.1,none),z5.2.2))) (Int.ofNat (nOf z1.2.2.2))) (fun z6=>(chk (A0 (z2.1.length+1) 96) (some (.inl ((Bo (Bo z1.1 (nOf z1.2.2.2)
 (z5.1,((z5.2.1.1,none),z5.2.2))) (nOf z1.2.2.2) (z6.1,(z6.2.1,((z6.2.2.1.1,none),z6.2.2.2)))),((Al z2.1 [(z4.1,((z4.2.1.1,(Jn z4.2.1.2)),((z4.2.2.1.1,(Jn
 z4.2.2.1.2)),z4.2.2.2)))]),z2.2))))))))))))) (some (.inl (z1.1,z2)))))))) (fun (z2:(Rg×Xc))=>(some (.inl (z2.1,(z2.2.1,(z2.2.2,(Aj .i64 z1.2.2.2 1)))))))) (some
 (.inr (.inl (z1.2.1,z1.2.2.1)))))
def Yh (x:Zid):Ycn:=(Ao (Aw (Zdw x) (x.1,([],(false,0)))) (fun (z1:Xc)=>(Ao (cnd (Ag z1.2) (bnd (J3 x.2) (fun z2=>(chk (A0 (z1.1.length+1) 96) (some (.inl (Al z1.1 [z2])))))) (some (.inl z1.1))) (fun (z2:Fs)=>(some z2)))))
def Zjj (x:Ych):(Int)->Option ((Int) ⊕ Int):=fun (z1:Int)=>(cnd (iLt z1 (Ah x.1.1)) (bnd (idx x.1.1 z1) (fun z2=>(cnd (sEq z2.1 x.2)
 (some (.inr z1)) (some (.inl (Aj .i64 z1 1)))))) (some (.inr (-1))))
def Yb (x:Ych):(Option Int):=(Aw (Zjj x) 0)
def Zjn (x:Zbw):Zbx->Option Yck:=fun (z1:Zbx)=>(cnd (iLt z1.2.2 (Ah x.1)) (Ao (Ao (cnd (Ag z1.2.1) (bnd (idx x.1 z1.2.2) (fun z2=>(cnd (iGe z2.1 x.2.1) (chk (A0 (z1.1.length+1) 24) (some (.inl ((Al z1.1 [x.2]),true)))) (some (.inl (z1.1,z1.2.1)))))) (some (.inl (z1.1,z1.2.1)))) (fun (z2 :
 T7)=>(bnd (idx x.1 z1.2.2) (fun z3=>(cnd (iNe z3.1 x.2.1) (bnd (idx x.1 z1.2.2) (fun z4=>(chk (A0 (z2.1.length+1) 24) (some (.inl ((Al z2.1 [z4]),
 z2.2)))))) (some (.inl z2))))))) (fun (z2:T7)=>(some (.inl (z2.1,(z2.2,(Aj .i64 z1.2.2 1))))))) (some (.inr (.inl (z1.1,z1.2.1)))))
def Yg (x:Zbw):Ycy:=(Ao (Aw (Zjn x) ([],(false,0))) (fun (z1:T7)=>(Ao (cnd (Ag z1.2) (chk (A0 (z1.1.length+1) 24)
 (some (.inl (Al z1.1 [x.2])))) (some (.inl z1.1))) (fun (z2:Ja)=>(some z2)))))
def Zcq (x:tqH):Ycg:=(bnd (Ye x.1) (fun z1=>(bnd (Us x.1) (fun z2=>(cnd (Ag z2) (some (z1,false)) (bnd
 (Uq x.2) (fun z3=>(cnd (Ag z3) (some (z1,false)) (Ao (cnd (iEq x.2.1 1) (bnd (cvL (.P .S (.P (.P (.I .i64) (.L .Y)) (.P (.P (.I .i64) (.L .Y)) (.P (.I
 .i64) .B)))) (.P .S (.P (.P (.I .i64) (.H .Y)) (.P (.P (.I .i64) (.H .Y)) (.P (.I .i64) .B)))) z1.1) (fun z4=>(bnd (Yh (z4,x.2.2.1)) (fun z5=>(some
 (.inl (z5,z1.2.1))))))) (cnd (iEq x.2.1 2) (bnd (Yb (z1,x.2.2.2.1)) (fun z4=>(cnd (iGe z4 0) (chk (De 0 z4 (Ah z1.1)) (chk (Jm 0 ((nOf z4)-0)
 z1.1.length) (chk (A0 (0+(Bp ((nOf z4)-0) z1.1).length) 96) (chk (De (Aj .i64 z4 1) (Ah (mvW (.P .S (.P (.P (.I .i64) (.L .Y)) (.P (.P (.I .i64) (.L .Y)) (.P (.I
 .i64) .B)))) 0 ((nOf z4)-0) z1.1)) (Ah (mvW (.P .S (.P (.P (.I .i64) (.L .Y)) (.P (.P (.I .i64) (.L .Y)) (.P (.I .i64) .B)))) 0 ((nOf z4)-0) z1.1))) (chk (Jm (nOf (Aj
 .i64 z4 1)) ((nOf (Ah (mvW (.P .S (.P (.P (.I .i64) (.L .Y)) (.P (.P (.I .i64) (.L .Y)) (.P (.I .i64) .B)))) 0 ((nOf z4)-0) z1.1)))-(nOf (Aj .i64 z4 1))) (mvW (.P .S (.P
 (.P (.I .i64) (.L .Y)) (.P (.P (.I .i64) (.L .Y)) (.P (.I .i64) .B)))) 0 ((nOf z4)-0) z1.1).length) (bnd (cvL (.P .S (.P (.P (.I .i64) (.H .Y)) (.P (.P (.I .i64) (.H .Y)) (.P
 (.I .i64) .B)))) (.P .S (.P (.P (.I .i64) (.L .Y)) (.P (.P (.I .i64) (.L .Y)) (.P (.I .i64) .B)))) (Bp ((nOf (Ah (mvW (.P .S (.P (.P (.I .i64) (.L .Y)) (.P (.P (.I .i64) (.L
 .Y)) (.P (.I .i64) .B)))) 0 ((nOf z4)-0) z1.1)))-(nOf (Aj .i64 z4 1))) (Dr (nOf (Aj .i64 z4 1)) (mvW (.P .S (.P (.P (.I .i64) (.L .Y)) (.P (.P (.I .i64) (.L .Y)) (.P
 (.I .i64) .B)))) 0 ((nOf z4)-0) z1.1)))) (fun z5=>(chk (A0 ((Al [] (Bp ((nOf z4)-0) z1.1)).length+z5.length) 96) (some (.inl ((Al (Al [] (Bp ((nOf
 z4)-0) z1.1)) z5),z1.2.1))))))))))) (some (.inl (z1.1,z1.2.1)))))) (cnd (iEq x.2.1 3) (some (.inl (z1.1,x.2.2.2.2.1))) (some (.inl (z1.1,z1.2.1)))))) (fun (z4:T6) =>
 (Ao (cnd (iNe x.2.2.2.2.2.1 0) (bnd (Yg (z1.2.2,x.2.2.2.2.2)) (fun z5=>(some (.inl z5)))) (some (.inl z1.2.2))) (fun (z5:Ja)=>(bnd (Us (z4.1,
 (z4.2,z5))) (fun z6=>(cnd (Ag z6) (bnd (Ye x.1) (fun z7=>(some (z7,false)))) (some ((z4.1,(z4.2,z5)),true)))))))))))))))))
def Yi (x:tqE):(Option tqV):=(al 1 (bnd (Zcq (x.1.2.1,x.2)) (fun z1=>(cnd (Ag z1.2) (some (false,x.1)) (Ao (cnd (iEq x.1.2.2.2
 30) (cnd (iLt x.1.2.2.1 60000) (bnd (P0 (x.1,(Aj .i64 x.1.2.2.1 1))) (fun z2=>(some (.inl z2)))) (some (.inl (x.1.1.1,(x.1.1.2.1,(x.1.1.2.2.1,
 (x.1.1.2.2.2,(x.1.2.1.2.1,x.1.2.2)))))))) (some (.inl (x.1.1.1,(x.1.1.2.1,(x.1.1.2.2.1,(x.1.1.2.2.2,(x.1.2.1.2.1,x.1.2.2)))))))) (fun (z2:Zqj)=>(cnd z2.2.2.2.1 (some
 (false,((z2.1,(z2.2.1,(z2.2.2.1,z2.2.2.2.1))),((x.1.2.1.1,(z2.2.2.2.2.1,x.1.2.1.2.2)),z2.2.2.2.2.2)))) (cnd (iEq z2.2.2.2.2.2.2 30) (some (false,((z2.1,(z2.2.1,
 (z2.2.2.1,z2.2.2.2.1))),((x.1.2.1.1,(z2.2.2.2.2.1,x.1.2.1.2.2)),z2.2.2.2.2.2)))) (bnd (Uw z2.2.2.2.2.2) (fun z3=>(bnd (Up (z2.2.2.2.2.2.1,
 (z2.2.2.2.2.2.2,x.2))) (fun z4=>(bnd (Mn ((z2.1,(z2.2.1,(z2.2.2.1,z2.2.2.2.1))),(z3,z4))) (fun z5=>(bnd (Lq (z2.1,z5))
 (fun z6=>(cnd z6.2.2.2 (some (false,(z6,((x.1.2.1.1,(z2.2.2.2.2.1,x.1.2.1.2.2)),z2.2.2.2.2.2)))) (some (true,(z6,(z1.1,(z2.2.2.2.2.2.1,(Aj .i64
 z2.2.2.2.2.2.2 1)))))))))))))))))))))))
def Zdx (x:Zby):tqN->Option (tqN ⊕ (tqP ⊕ tqQ)):=fun (z3:tqN)=>(cnd (iGt z3.2.2.2.2.2.2.2.2.2.2.2 0) (bnd (Uv (x.1.1,(z3.1,z3.2.1)))
 (fun z4=>(bnd (Yi (((z3.2.2.1,(z3.2.2.2.1,(z3.2.2.2.2.1,z3.2.2.2.2.2.1))),((z3.2.2.2.2.2.2.1,(z3.2.2.2.2.2.2.2.1,z3.2.2.2.2.2.2.2.2.1)),
 (z3.2.2.2.2.2.2.2.2.2.1,z3.2.2.2.2.2.2.2.2.2.2.1))),z4.1)) (fun z5=>(some (.inl (z4.2.1,(z4.2.2,(z5.2.1.1,(z5.2.1.2.1,(z5.2.1.2.2.1,(z5.2.1.2.2.2,(z5.2.2.1.1,
 (z5.2.2.1.2.1,(z5.2.2.1.2.2,(z5.2.2.2.1,(z5.2.2.2.2,(A9 .i64 z3.2.2.2.2.2.2.2.2.2.2.2 1)))))))))))))))))) (some (.inr (.inl (z3.1,(z3.2.1,(z3.2.2.1,(z3.2.2.2.1,
 (z3.2.2.2.2.1,(z3.2.2.2.2.2.1,(z3.2.2.2.2.2.2.1,(z3.2.2.2.2.2.2.2.1,(z3.2.2.2.2.2.2.2.2.1,(z3.2.2.2.2.2.2.2.2.2.1,z3.2.2.2.2.2.2.2.2.2.2.1))))))))))))))
def Zc3 (x:Zby):tqM:=(bnd (Zcw ()) (fun z1=>(Ao (bnd (D5 (x.1,(Aj .i64 x.2 1))) (fun z2=>(Aw
 (Zdx x) (z2.2.1,(z2.2.2,(z1.1.1,(z1.1.2.1,(z1.1.2.2.1,(z1.1.2.2.2,(z1.2.1.1,(z1.2.1.2.1,(z1.2.1.2.2,(z1.2.2.1,(z1.2.2.2,z2.1)))))))))))))) (fun (z2:tqP) =>
 (some (((z2.2.2.1,(z2.2.2.2.1,(z2.2.2.2.2.1,z2.2.2.2.2.2.1))),((z2.2.2.2.2.2.2.1,(z2.2.2.2.2.2.2.2.1,z2.2.2.2.2.2.2.2.2.1)),z2.2.2.2.2.2.2.2.2.2)),(z2.1,z2.2.1)))))))
def Rz (x:Ih):Ed->Option (Ed ⊕ ((List UInt8) ⊕ (List UInt8))):=fun (z1:Ed)=>(cnd (iLt z1.2 (Ah x)) (bnd (idx x z1.2) (fun z2=>(chk (A0 (z1.1.length+z2.length) 1) (some (.inl ((Al z1.1 z2),(Aj .i64 z1.2 1))))))) (some (.inr (.inl z1.1))))
def Fv (x:Ih):F9:=(Ao (Aw (Rz x) ([],0)) (fun (z1:(List UInt8))=>(some z1)))
def Zdo (x:Fk):Po->Option Zie:=fun (z1:Po)=>(cnd (iLt z1.2 (Ah x.1)) (bnd (idx x.1 z1.2) (fun z2=>(bnd (Fv
 [z2]) (fun z3=>(chk (A0 (z1.1.length+1) 24) (some (.inl ((Al z1.1 [z3]),(Aj .i64 z1.2 1))))))))) (some (.inr (.inl z1.1))))
def Zdp (x:Fk):Zqo->Option Yv2:=fun (z2:Zqo)=>(cnd (iLt z2.2 (Ah x.2.1)) (bnd (idx x.2.1 z2.2) (fun z3=>(bnd (Fv
 [z3.2]) (fun z4=>(chk (A0 (z2.1.length+1) 32) (some (.inl ((Al z2.1 [(z3.1,z4)]),(Aj .i64 z2.2 1))))))))) (some (.inr (.inl z2.1))))
def J0 (x:Fk):Xd:=(Ao (Aw (Zdo x) ([],0)) (fun (z1:Ih)=>(Ao (Aw (Zdp x) ([],0)) (fun (z2:Pp)=>(some
 (z1,(z2,(x.2.2.1,x.2.2.2))))))))
def Xx (x:D4):(Option D4):=(bnd (Fv [x.2]) (fun z1=>(some (x.1,z1))))
def Pz (x:Ft):Zig:=(bnd (Xx x.2.1) (fun z1=>(bnd (Xx x.2.2.1) (fun z2=>(some (x.1,(z1,(z2,
 x.2.2.2))))))))
def Ydz (x:Ec):T6->Option tqF:=fun (z1:T6)=>(cnd (iLt z1.2 (Ah x.1)) (bnd (idx x.1 z1.2) (fun z2=>(bnd (Pz (z2.1,
 ((z2.2.1.1,z2.2.1.2),((z2.2.2.1.1,z2.2.2.1.2),(z2.2.2.2.1,z2.2.2.2.2))))) (fun z3=>(chk (A0 (z1.1.length+1) 96) (some (.inl ((Al z1.1 [(z3.1,((z3.2.1.1,
 z3.2.1.2),((z3.2.2.1.1,z3.2.2.1.2),(z3.2.2.2.1,z3.2.2.2.2))))]),(Aj .i64 z1.2 1))))))))) (some (.inr (.inl z1.1))))
def Ul (x:Ec):Yci:=(al 2 (chk (A0 (0+x.2.2.length) 24) (Ao (Aw (Ydz x) ([],0)) (fun (z1:Fs)=>(some (z1,(x.2.1,(Al []
 x.2.2))))))))
def Uk (x:Nk):tqU:=(bnd (J0 x.1) (fun z1=>(bnd (Ul x.2.1) (fun z2=>(some (z1,(z2,x.2.2)))))))
def Lo (x:Zii):C3:=(cnd (iEq x.1.1 x.2.1) (some (sEq x.1.2 x.2.2)) (some false))
def Zco (x:Ycd):C3:=(cnd (sEq x.1.1 x.2.1) (bnd (Lo ((x.1.2.1.1,x.1.2.1.2),(x.2.2.1.1,x.2.2.1.2))) (fun z1=>(cnd z1 (bnd
 (Lo ((x.1.2.2.1.1,x.1.2.2.1.2),(x.2.2.2.1.1,x.2.2.2.1.2))) (fun z2=>(cnd z2 (cnd (iEq x.1.2.2.2.1 x.2.2.2.2.1) (some (bEq x.1.2.2.2.2 x.2.2.2.2.2)) (some
 false)) (some false)))) (some false)))) (some false))
def Cm (x:Jb):C3:=(cnd (iGe x.1 x.2.1) (some (iLe x.1 x.2.2)) (some false))
def Ydy (x:(List UInt8)):(Int)->Option Rh:=fun (z1:Int)=>(cnd (iLt z1 (Ah x)) (bnd (idx x z1) (fun z2=>(bnd (Cm ((Ai
 .i64 (y2i z2)),(97,122))) (fun z3=>(cnd (Ag z3) (bnd (idx x z1) (fun z4=>(bnd (Cm ((Ai .i64 (y2i z4)),(48,57))) (fun z5=>(cnd
 (Ag z5) (some (.inr (.inr false))) (some (.inl (Aj .i64 z1 1)))))))) (some (.inl (Aj .i64 z1 1)))))))) (some (.inr (.inl ()))))
def Xt (x:(List UInt8)):C3:=(Ao (Aw (Ydy x) 0) (fun (z1:Unit)=>(bnd (Cm ((Ah x),(1,6))) (fun z2=>(some
 z2)))))
def Zcm (x:Int):C3:=(bnd (Cm (x,(0,5))) (fun z1=>(some z1)))
def Xn (x:D4):C3:=(bnd (Zcm x.1) (fun z1=>(cnd z1 (some (iLe (Ah x.2) 20)) (some false))))
def Nz (x:(List UInt8)):(Option (Int×Int)):=(cnd (iLt (Ah x) 1) (some (65533,0)) (bnd (idx x 0) (fun z1=>(chk (iLe 0 (y2i
 z1)) (chk (iLt (y2i z1) 256) (bnd (idx Qm (Int.ofNat (0+((nOf (y2i z1))*1)))) (fun z2=>(cnd (iGe (y2i z2) (y2i (u8 240))) (bnd (idx x 0) (fun z3 =>
 (some ((iOr .i32 (Zmh .i32 (Ai .i32 (y2i z3)) (Bh .i32 (B7 .i32 (Ai .i32 (y2i z2)) 31) 31)) (Aq .i32 65533 (Bh .i32 (B7 .i32 (Ai .i32 (y2i z2)) 31) 31))),
 1)))) (chk (iLe 0 (y2i (u8 (Bh .u8 (y2i z2) 4)))) (chk (iLt (y2i (u8 (Bh .u8 (y2i z2) 4))) 16) (bnd (idx Vp (Int.ofNat (0+((nOf (y2i (u8 (Bh .u8 (y2i z2) 4))))*2))))
 (fun z3=>(bnd (idx Vp (Int.ofNat ((0+((nOf (y2i (u8 (Bh .u8 (y2i z2) 4))))*2))+1))) (fun z4=>(cnd (iLt (Ah x) (Ai .i64 (y2i (u8 (Aq .u8
 (y2i z2) (y2i (u8 7))))))) (some (65533,1)) (bnd (idx x 1) (fun z5=>(cnd (iLt (y2i z5) (y2i z3)) (some (65533,1)) (cnd (iLt (y2i z4) (y2i z5)) (some (65533,1))
 (cnd (iLe (Ai .i64 (y2i (u8 (Aq .u8 (y2i z2) (y2i (u8 7)))))) 2) (some ((iOr .i32 (B7 .i32 (Ai .i32 (y2i (u8 (Aq .u8 (y2i z1) (y2i (u8 31)))))) 6) (Ai .i32 (y2i
 (u8 (Aq .u8 (y2i z5) (y2i (u8 63))))))),2)) (bnd (idx x 2) (fun z6=>(cnd (iLt (y2i z6) (y2i (u8 128))) (some (65533,1)) (cnd (iLt (y2i (u8 191)) (y2i z6)) (some
 (65533,1)) (cnd (iLe (Ai .i64 (y2i (u8 (Aq .u8 (y2i z2) (y2i (u8 7)))))) 3) (some ((iOr .i32 (iOr .i32 (B7 .i32 (Ai .i32 (y2i (u8 (Aq .u8 (y2i z1) (y2i (u8 15))))))
 12) (B7 .i32 (Ai .i32 (y2i (u8 (Aq .u8 (y2i z5) (y2i (u8 63)))))) 6)) (Ai .i32 (y2i (u8 (Aq .u8 (y2i z6) (y2i (u8 63))))))),3)) (bnd (idx x 3) (fun z7 =>
 (cnd (iLt (y2i z7) (y2i (u8 128))) (some (65533,1)) (cnd (iLt (y2i (u8 191)) (y2i z7)) (some (65533,1)) (some ((iOr .i32 (iOr .i32 (iOr .i32 (B7 .i32 (Ai .i32 (y2i (u8
 (Aq .u8 (y2i z1) (y2i (u8 7)))))) 18) (B7 .i32 (Ai .i32 (y2i (u8 (Aq .u8 (y2i z5) (y2i (u8 63)))))) 12)) (B7 .i32 (Ai .i32 (y2i (u8 (Aq .u8 (y2i z6) (y2i (u8
 63)))))) 6)) (Ai .i32 (y2i (u8 (Aq .u8 (y2i z7) (y2i (u8 63))))))),4)))))))))))))))))))))))))))))))
def Yu (x:(List UInt8)):(Int)->Option ((Int) ⊕ (Unit ⊕ (Int×Int))):=fun (z1:Int)=>(cnd (iLt z1 (Ah x)) (bnd (idx x z1) (fun z2=>(cnd (iLt (y2i z2) (y2i (u8 128))) (some (.inr (.inr ((Ai .i32 (y2i z2)),1)))) (some (.inr (.inl ())))))) (some (.inr (.inl ()))))
def Zdd (x:(List UInt8)):(Option (Int×Int)):=(Ao (Aw (Yu x) 0) (fun (z1:Unit)=>(bnd (Nz x) (fun
 z2=>(some (z2.1,z2.2))))))
def Zci (x:Ed):Lg:=(cnd (iLt x.2 0) (some (0,(0,false))) (cnd (iGe x.2 (Ah x.1)) (some (0,(0,false))) (chk (De x.2 (Ah x.1) (Ah x.1))
 (chk (Tg (nOf x.2) (Bp ((nOf (Ah x.1))-(nOf x.2)) (Dr (nOf x.2) x.1)).length) (bnd (Zdd (Bp ((nOf (Ah x.1))-(nOf x.2)) (Dr (nOf x.2) x.1)))
 (fun z1=>(cnd (iEq z1.1 65533) (cnd (iLt z1.2 2) (some (0,(0,false))) (some ((Ai .i64 z1.1),((Aj .i64 x.2 z1.2),true)))) (some ((Ai .i64 z1.1),
 ((Aj .i64 x.2 z1.2),true))))))))))
def Ziu (x:(Int×Int)):Zbz:=(cnd (iEq x.1 164) (bnd (Cm (x.2,(161,243))) (fun z1=>(cnd z1 (some ((A9 .i64 (Aj .i64 12353
 x.2) 161),true)) (cnd (iEq x.1 165) (bnd (Cm (x.2,(161,246))) (fun z2=>(cnd z2 (some ((A9 .i64 (Aj .i64 12449 x.2) 161),true)) (some (0,false)))))
 (some (0,false)))))) (cnd (iEq x.1 165) (bnd (Cm (x.2,(161,246))) (fun z1=>(cnd z1 (some ((A9 .i64 (Aj .i64 12449 x.2) 161),true)) (some (0,false)))))
 (some (0,false))))
def Zch (x:Ed):Lg:=(cnd (iLt x.2 0) (some (0,(0,false))) (cnd (iGe x.2 (Ah x.1)) (some (0,(0,false))) (bnd (idx x.1 x.2) (fun z1 =>
 (cnd (iLe (y2i z1) (y2i (u8 127))) (bnd (idx x.1 x.2) (fun z2=>(some ((Ai .i64 (y2i z2)),((Aj .i64 x.2 1),true))))) (cnd (iEq (Aj .i64 x.2 1) (Ah x.1))
 (some (0,(0,false))) (bnd (idx x.1 x.2) (fun z2=>(bnd (idx x.1 (Aj .i64 x.2 1)) (fun z3=>(bnd (Ziu ((Ai .i64 (y2i z2)),(Ai .i64 (y2i
 z3)))) (fun z4=>(cnd (Ag z4.2) (some (0,(0,false))) (some (z4.1,((Aj .i64 x.2 2),true))))))))))))))))
def Zrd (x:Int):(Option Int):=(cnd (iEq x 164) (some 8364) (cnd (iEq x 166) (some 352) (cnd (iEq x 168) (some 353) (cnd (iEq x 180) (some 381) (cnd
 (iEq x 184) (some 382) (cnd (iEq x 188) (some 338) (cnd (iEq x 189) (some 339) (cnd (iEq x 190) (some 376) (some x)))))))))
def Zrc (x:Int):(Option Int):=(cnd (iGe x 224) (chk (iLe 0 (A9 .i64 x 224)) (chk (iLt (A9 .i64 x 224) 32) (bnd (idx [1102,1072,1073,1094,1076,
 1077,1092,1075,1093,1080,1081,1082,1083,1084,1085,1086,1087,1103,1088,1089,1090,1091,1078,1074,1100,1099,1079,1096,1101,1097,1095,1098] (Int.ofNat (0 +
 ((nOf (A9 .i64 x 224))*1)))) (fun z1=>(some (A9 .i64 z1 32)))))) (cnd (iGe x 192) (chk (iLe 0 (A9 .i64 x 192)) (chk (iLt (A9 .i64 x 192) 32) (bnd (idx [1102,
 1072,1073,1094,1076,1077,1092,1075,1093,1080,1081,1082,1083,1084,1085,1086,1087,1103,1088,1089,1090,1091,1078,1074,1100,1099,1079,1096,1101,1097,
 1095,1098] (Int.ofNat (0+((nOf (A9 .i64 x 192))*1)))) (fun z1=>(some z1))))) (cnd (iEq x 163) (some 1105) (cnd (iEq x 179) (some 1025) (some 0)))))
def Zre (x:Int):(Option Int):=(cnd (iGe x 160) (some x) (chk (iLe 0 (A9 .i64 x 128)) (chk (iLt (A9 .i64 x 128) 32) (bnd (idx [8364,0,8218,402,
 8222,8230,8224,8225,710,8240,352,8249,338,0,381,0,0,8216,8217,8220,8221,8226,8211,8212,732,8482,353,8250,339,0,382,376] (Int.ofNat (0+((nOf (A9
 .i64 x 128))*1)))) (fun z1=>(some z1))))))
def Rp (x:(Int×Int)):Zbz:=(bnd (Cm (x.1,(1,4))) (fun z1=>(cnd (Ag z1) (some (0,false)) (bnd (Cm (x.2,(0,255)))
 (fun z2=>(cnd (Ag z2) (some (0,false)) (cnd (iLe x.2 127) (some (x.2,true)) (Ao (cnd (iEq x.1 2) (bnd (Zrd x.2) (fun z3=>(some (.inl z3))))
 (cnd (iEq x.1 3) (bnd (Zrc x.2) (fun z3=>(some (.inl z3)))) (cnd (iEq x.1 4) (bnd (Zre x.2) (fun z3=>(some (.inl z3)))) (some (.inl x.2)))))
 (fun (z3:Int)=>(some (z3,(iNe z3 0))))))))))))
def Zcp (x:Zik):Lg:=(cnd (iEq x.1 0) (bnd (Zci (x.2.1,x.2.2)) (fun z1=>(some (z1.1,(z1.2.1,z1.2.2))))) (cnd (iEq x.1 5) (bnd
 (Zch (x.2.1,x.2.2)) (fun z1=>(some (z1.1,(z1.2.1,z1.2.2))))) (bnd (idx x.2.1 x.2.2) (fun z1=>(bnd (Rp (x.1,(Ai .i64 (y2i z1))))
 (fun z2=>(some (z2.1,((Aj .i64 x.2.2 1),z2.2)))))))))
def Ziw (x:Int):C3:=(bnd (Cm (x,(0,1114111))) (fun z1=>(cnd z1 (bnd (Cm (x,(55296,57343))) (fun z2=>(some
 (Ag z2)))) (some false))))
def Zi3 (x:Ed):F9:=(cnd (iLe (Ai .u32 x.2) 2047) (chk (A0 (x.1.length+2) 1) (some (Al x.1 [(u8 (iOr .u8 (y2i (u8 192)) (y2i
 (u8 (Ai .u8 (Bh .i32 x.2 6)))))),(u8 (iOr .u8 (y2i (u8 128)) (y2i (u8 (Aq .u8 (y2i (u8 (Ai .u8 x.2))) (y2i (u8 63)))))))]))) (Ao (cnd (iLt (Ai .u32 x.2) 55296)
 (some (.inl true)) (cnd (iLt 57343 (Ai .u32 x.2)) (some (.inl (iLe (Ai .u32 x.2) 65535))) (some (.inl false)))) (fun (z1:Bool)=>(cnd z1 (chk (A0 (x.1.length+3) 1)
 (some (Al x.1 [(u8 (iOr .u8 (y2i (u8 224)) (y2i (u8 (Ai .u8 (Bh .i32 x.2 12)))))),(u8 (iOr .u8 (y2i (u8 128)) (y2i (u8 (Aq .u8 (y2i (u8 (Ai .u8 (Bh .i32 x.2 6))))
 (y2i (u8 63))))))),(u8 (iOr .u8 (y2i (u8 128)) (y2i (u8 (Aq .u8 (y2i (u8 (Ai .u8 x.2))) (y2i (u8 63)))))))]))) (cnd (iGt (Ai .u32 x.2) 65535) (cnd (iLe (Ai .u32 x.2)
 1114111) (chk (A0 (x.1.length+4) 1) (some (Al x.1 [(u8 (iOr .u8 (y2i (u8 240)) (y2i (u8 (Ai .u8 (Bh .i32 x.2 18)))))),(u8 (iOr .u8 (y2i (u8 128)) (y2i (u8 (Aq .u8
 (y2i (u8 (Ai .u8 (Bh .i32 x.2 12)))) (y2i (u8 63))))))),(u8 (iOr .u8 (y2i (u8 128)) (y2i (u8 (Aq .u8 (y2i (u8 (Ai .u8 (Bh .i32 x.2 6)))) (y2i (u8 63))))))),(u8 (iOr
 .u8 (y2i (u8 128)) (y2i (u8 (Aq .u8 (y2i (u8 (Ai .u8 x.2))) (y2i (u8 63)))))))]))) (chk (A0 (x.1.length+3) 1) (some (Al x.1 [(u8 239),(u8 191),(u8 189)])))) (chk
 (A0 (x.1.length+3) 1) (some (Al x.1 [(u8 239),(u8 191),(u8 189)]))))))))
def Zi2 (x:Ed):F9:=(cnd (iLe (Ai .u32 x.2) 127) (chk (A0 (x.1.length+1) 1) (some (Al x.1 [(u8 (Ai .u8 x.2))]))) (bnd
 (Zi3 (x.1,x.2)) (fun z1=>(some z1))))
def Zck (x:Ed):F9:=(bnd (Fv [x.1]) (fun z1=>(bnd (Ziw x.2) (fun z2=>(cnd (Ag z2) (some z1) (bnd
 (Zi2 (z1,(Ai .i32 x.2))) (fun z3=>(some z3))))))))
def Zi8 (x:D4):Ed->Option Zql:=fun (z2:Ed)=>(cnd (iLt z2.2 (Ah x.2)) (bnd (Zcp (x.1,(x.2,z2.2))) (fun z3=>(cnd (Ag
 z3.2.2) (some (.inr (.inr ([],false)))) (bnd (Zck (z2.1,z3.1)) (fun z4=>(some (.inl (z4,z3.2.1)))))))) (some (.inr (.inl z2.1))))
def Zcg (x:D4):T8:=(bnd (Zcm x.1) (fun z1=>(cnd (Ag z1) (some ([],false)) (Ao (Aw (Zi8 x) ([],0)) (fun (z2 :
 (List UInt8))=>(some (z2,true)))))))
def Rq (x:D4):T8:=(bnd (Xn (x.1,x.2)) (fun z1=>(cnd (Ag z1) (some ([],false)) (bnd (Zcg (x.1,x.2)) (fun z2
 => (some (z2.1,z2.2)))))))
def Ziv (x:Zii):C3:=(bnd (Rq (x.1.1,x.1.2)) (fun z1=>(bnd (Rq (x.2.1,x.2.2)) (fun z2=>(cnd z1.2 (cnd
 z2.2 (some (sEq z1.1 z2.1)) (some false)) (some false))))))
def Ln (x:Ft):C3:=(bnd (Xt x.1) (fun z1=>(cnd (Ag z1) (some false) (bnd (Cm (x.2.2.2.1,(1,3))) (fun z2 =>
 (cnd (Ag z2) (some false) (bnd (Rq (x.2.1.1,x.2.1.2)) (fun z3=>(bnd (Rq (x.2.2.1.1,x.2.2.1.2)) (fun z4=>(bnd (Lo
 ((x.2.1.1,x.2.1.2),(0,[]))) (fun z5=>(Ao (cnd (iNe x.2.2.2.1 2) (bnd (Xn (x.2.1.1,x.2.1.2)) (fun z6=>(cnd z6 (cnd (iNe x.2.1.1 0) (cnd z3.2
 (some (.inl true)) (cnd x.2.2.2.2 (some (.inl (iEq x.2.2.2.1 1))) (some (.inl false)))) (some (.inl false))) (some (.inl false))))) (some (.inl z5))) (fun (z6:Bool)=>(bnd
 (Lo ((x.2.2.1.1,x.2.2.1.2),(0,[]))) (fun z7=>(Ao (cnd (iNe x.2.2.2.1 1) (cnd (iEq x.2.2.1.1 0) (some (.inl z4.2)) (some (.inl false))) (some (.inl
 z7))) (fun (z8:Bool)=>(cnd z6 (cnd z8 (cnd (iNe x.2.2.2.1 3) (some true) (bnd (Ziv ((x.2.1.1,x.2.1.2),(x.2.2.1.1,x.2.2.1.2))) (fun z9=>(some z9))))
 (some false)) (some false))))))))))))))))))))
def Nt (x:Int):C3:=(bnd (Cm (x,(0,65535))) (fun z1=>(some z1)))
def Py (x:Jv):C3:=(bnd (Zco ((x.2.1.1,((x.2.1.2.1.1,x.2.1.2.1.2),((x.2.1.2.2.1.1,x.2.1.2.2.1.2),(x.2.1.2.2.2.1,x.2.1.2.2.2.2)))),([],
 ((0,[]),((0,[]),(0,false)))))) (fun z1=>(Ao (cnd (iEq x.1 1) (bnd (Ln (x.2.1.1,((x.2.1.2.1.1,x.2.1.2.1.2),((x.2.1.2.2.1.1,x.2.1.2.2.1.2),
 (x.2.1.2.2.2.1,x.2.1.2.2.2.2))))) (fun z2=>(cnd z2 (cnd (sEq x.2.2.1 []) (some (.inl (iEq x.2.2.2.1 0))) (some (.inl false))) (some (.inl false))))) (cnd (iEq x.1 2)
 (cnd z1 (bnd (Xt x.2.2.1) (fun z2=>(cnd z2 (some (.inl (iEq x.2.2.2.1 0))) (some (.inl false))))) (some (.inl false))) (cnd (iEq x.1 3) (cnd z1 (cnd (sEq
 x.2.2.1 []) (bnd (Cm (x.2.2.2.1,(0,7))) (fun z2=>(some (.inl z2)))) (some (.inl false))) (some (.inl false))) (cnd (iEq x.1 4) (cnd z1 (cnd (sEq x.2.2.1 [])
 (cnd (iEq x.2.2.2.1 0) (some (.inl (iNe x.2.2.2.2.1 0))) (some (.inl false))) (some (.inl false))) (some (.inl false))) (some (.inl false)))))) (fun (z2:Bool)=>(cnd (iEq
 x.2.2.2.2.1 0) (cnd z2 (cnd (iEq x.2.2.2.2.2.1 0) (some (iEq x.2.2.2.2.2.2 0)) (some false)) (some false)) (cnd z2 (bnd (Cm (x.2.2.2.2.1,(1,9))) (fun z3 =>
 (cnd z3 (bnd (Nt x.2.2.2.2.2.1) (fun z4=>(cnd z4 (bnd (Cm (x.2.2.2.2.2.2,(0,6))) (fun z5=>(some z5))) (some false)))) (some false))))
 (some false)))))))
def Zdm (x:Ec):(Int)->Option Rh:=fun (z1:Int)=>(cnd (iLt z1 (Ah x.1)) (bnd (idx x.1 z1) (fun z2=>(bnd (Ln (z2.1,
 ((z2.2.1.1,z2.2.1.2),((z2.2.2.1.1,z2.2.2.1.2),(z2.2.2.2.1,z2.2.2.2.2))))) (fun z3=>(cnd (Ag z3) (some (.inr (.inr false))) (cnd (iGt z1 0) (bnd (idx x.1 (A9
 .i64 z1 1)) (fun z4=>(cnd (Ag (sLt z4.1 z2.1)) (some (.inr (.inr false))) (some (.inl (Aj .i64 z1 1)))))) (some (.inl (Aj .i64 z1 1))))))))) (some (.inr (.inl
 ()))))
def Zdn (x:Ec):(Int)->Option Rh:=fun (z2:Int)=>(cnd (iLt z2 (Ah x.2.2)) (bnd (idx x.2.2 z2) (fun z3=>(bnd (Cm (z3.1,(1,
 9))) (fun z4=>(cnd (Ag z4) (some (.inr (.inr false))) (bnd (Nt z3.2.1) (fun z5=>(cnd (Ag z5) (some (.inr (.inr false))) (bnd (Cm
 (z3.2.2,(0,6))) (fun z6=>(cnd (Ag z6) (some (.inr (.inr false))) (cnd (iGt z2 0) (bnd (idx x.2.2 (A9 .i64 z2 1)) (fun z7=>(cnd (iGe z7.1 z3.1) (some
 (.inr (.inr false))) (some (.inl (Aj .i64 z2 1)))))) (some (.inl (Aj .i64 z2 1))))))))))))))) (some (.inr (.inl ()))))
def Ns (x:Ec):C3:=(Ao (Aw (Zdm x) 0) (fun (z1:Unit)=>(Ao (Aw (Zdn x) 0) (fun (z2:Unit)=>(cnd (iLe (Ah x.1) 8)
 (bnd (Cm (x.2.1,(0,7))) (fun z3=>(some z3))) (some false))))))
def Zdq (x:Zid):Zqi->Option (Zqi ⊕ Ycc):=fun (z1:Zqi)=>(cnd (iLt z1.2.2.2 (Ah x.1)) (Ao (bnd (idx z1.2.2.1 z1.2.2.2) (fun z2
 => (chk (Hi z2.2.1.2) (chk (Hi z2.2.2.1.2) (Ao (cnd (Ag z1.2.1) (cnd (Ag (sLt z2.1 x.2.1)) (bnd (Pz x.2) (fun z3=>(chk (A0 (z1.1.length+1)
 96) (some (.inl ((Al z1.1 [z3]),true)))))) (some (.inl (z1.1,z1.2.1)))) (some (.inl (z1.1,z1.2.1)))) (fun (z3:Xc)=>(cnd (Ag (sEq z2.1 x.2.1)) (bnd (idx z1.2.2.1
 (Int.ofNat (nOf z1.2.2.2))) (fun z4=>(bnd (idx (Bo z1.2.2.1 (nOf z1.2.2.2) (z4.1,((z4.2.1.1,none),z4.2.2))) (Int.ofNat (nOf z1.2.2.2))) (fun z5=>(chk
 (A0 (z3.1.length+1) 96) (some (.inl ((Al z3.1 [(z2.1,((z2.2.1.1,(Jn z2.2.1.2)),((z2.2.2.1.1,(Jn z2.2.2.1.2)),z2.2.2.2)))]),(z3.2,(Bo (Bo z1.2.2.1 (nOf
 z1.2.2.2) (z4.1,((z4.2.1.1,none),z4.2.2))) (nOf z1.2.2.2) (z5.1,(z5.2.1,((z5.2.2.1.1,none),z5.2.2.2))))))))))))) (some (.inl (z3.1,(z3.2,z1.2.2.1))))))))))) (fun (z2 :
 (Fs×(Bool×Rg)))=>(some (.inl (z2.1,(z2.2.1,(z2.2.2,(Aj .i64 z1.2.2.2 1)))))))) (some (.inr (.inl (z1.1,z1.2.1)))))
def Xy (x:Zid):Ycn:=(Ao (Aw (Zdq x) ([],(false,(x.1,0)))) (fun (z1:Xc)=>(Ao (cnd (Ag z1.2) (bnd (Pz x.2) (fun
 z2=>(chk (A0 (z1.1.length+1) 96) (some (.inl (Al z1.1 [z2])))))) (some (.inl z1.1))) (fun (z2:Fs)=>(some z2)))))
def Xm (x:(Ft×Jv)):(Option Yv5):=(some ((sEq x.1.1 x.2.2.2.1),(x.2.1,(x.2.2.1.1,(x.2.2.1.2.1.1,(x.2.2.1.2.2.1.1,(x.2.2.1.2.2.2.1,
 (x.2.2.1.2.2.2.2,x.2.2.2))))))))
def Zjo (x:tqR):Zif->Option (Zif ⊕ Ycl):=fun (z1:Zif)=>(cnd (iLt z1.2.2.2.2.2.2.2.2.2.2.2 (Ah x.1)) (bnd (idx x.1
 z1.2.2.2.2.2.2.2.2.2.2.2) (fun z2=>(bnd (Xm (z2,(z1.1,((z1.2.1,((z1.2.2.1,x.2.2.1.2.1.2),((z1.2.2.2.1,x.2.2.1.2.2.1.2),(z1.2.2.2.2.1,
 z1.2.2.2.2.2.1)))),(z1.2.2.2.2.2.2.1,(z1.2.2.2.2.2.2.2.1,(z1.2.2.2.2.2.2.2.2.1,(z1.2.2.2.2.2.2.2.2.2.1,z1.2.2.2.2.2.2.2.2.2.2.1)))))))) (fun z3=>(cnd z3.1 (some
 (.inr (z1.2.2.2.2.2.2.2.2.2.2.2,z3.2))) (some (.inl (z3.2.1,(z3.2.2.1,(z3.2.2.2.1,(z3.2.2.2.2.1,(z3.2.2.2.2.2.1,(z3.2.2.2.2.2.2.1,(z3.2.2.2.2.2.2.2.1,
 (z3.2.2.2.2.2.2.2.2.1,(z3.2.2.2.2.2.2.2.2.2.1,(z3.2.2.2.2.2.2.2.2.2.2.1,(z3.2.2.2.2.2.2.2.2.2.2.2,(Aj .i64 z1.2.2.2.2.2.2.2.2.2.2.2 1))))))))))))))))))) (some (.inr ((-1),
 (z1.1,(z1.2.1,(z1.2.2.1,(z1.2.2.2.1,(z1.2.2.2.2.1,(z1.2.2.2.2.2.1,(z1.2.2.2.2.2.2.1,(z1.2.2.2.2.2.2.2.1,(z1.2.2.2.2.2.2.2.2.1,(z1.2.2.2.2.2.2.2.2.2.1,
 z1.2.2.2.2.2.2.2.2.2.2.1))))))))))))))
def Zdc (x:tqR):(Option Ycl):=(Aw (Zjo x) (x.2.1,(x.2.2.1.1,(x.2.2.1.2.1.1,(x.2.2.1.2.2.1.1,
 (x.2.2.1.2.2.2.1,(x.2.2.1.2.2.2.2,(x.2.2.2.1,(x.2.2.2.2.1,(x.2.2.2.2.2.1,(x.2.2.2.2.2.2.1,(x.2.2.2.2.2.2.2,0))))))))))))
def Yt (x:tqL):tqS->Option (tqS ⊕ (tqZ ⊕ Ycb)):=fun (z3:tqS)=>(cnd (iLt z3.2.2.2.2.2.2.2.2.2.2.2.2.2 (Ah z3.1)) (Ao (bnd
 (idx z3.1 z3.2.2.2.2.2.2.2.2.2.2.2.2.2) (fun z4=>(chk (Hi z4.2.1.2) (chk (Hi z4.2.2.1.2) (bnd (Xm ((z4.1,((z4.2.1.1,(Jn z4.2.1.2)),((z4.2.2.1.1,
 (Jn z4.2.2.1.2)),z4.2.2.2))),(z3.2.1,((z3.2.2.1,((z3.2.2.2.1,x.2.2.1.2.1.2),((z3.2.2.2.2.1,x.2.2.1.2.2.1.2),(z3.2.2.2.2.2.1,z3.2.2.2.2.2.2.1)))),(z3.2.2.2.2.2.2.2.1,
 (z3.2.2.2.2.2.2.2.2.1,(z3.2.2.2.2.2.2.2.2.2.1,(z3.2.2.2.2.2.2.2.2.2.2.1,z3.2.2.2.2.2.2.2.2.2.2.2.1)))))))) (fun z5=>(cnd (Ag z5.1) (bnd (idx z3.1
 z3.2.2.2.2.2.2.2.2.2.2.2.2.1) (fun z6=>(chk (nNe (nOf z3.2.2.2.2.2.2.2.2.2.2.2.2.1) (nOf z3.2.2.2.2.2.2.2.2.2.2.2.2.2)) (bnd (idx z3.1 (Int.ofNat (nOf
 z3.2.2.2.2.2.2.2.2.2.2.2.2.2))) (fun z7=>(chk (nEq (nOf z3.2.2.2.2.2.2.2.2.2.2.2.2.2) (nOf z3.2.2.2.2.2.2.2.2.2.2.2.2.2)) (chk (nEq (nOf z3.2.2.2.2.2.2.2.2.2.2.2.2.2)
 (nOf z3.2.2.2.2.2.2.2.2.2.2.2.2.2)) (some (.inl ((Bo (Bo z3.1 (nOf z3.2.2.2.2.2.2.2.2.2.2.2.2.1) (z4.1,((z4.2.1.1,(some (Jn z4.2.1.2))),((z4.2.2.1.1,(some (Jn
 z4.2.2.1.2))),z4.2.2.2)))) (nOf z3.2.2.2.2.2.2.2.2.2.2.2.2.2) (z7.1,((z7.2.1.1,none),((z7.2.2.1.1,none),z7.2.2.2)))),(z5.2.1,(z5.2.2.1,(z5.2.2.2.1,(z5.2.2.2.2.1,
 (z5.2.2.2.2.2.1,(z5.2.2.2.2.2.2.1,(z5.2.2.2.2.2.2.2.1,(z5.2.2.2.2.2.2.2.2.1,(z5.2.2.2.2.2.2.2.2.2.1,(z5.2.2.2.2.2.2.2.2.2.2.1,(z5.2.2.2.2.2.2.2.2.2.2.2,(Aj .i64
 z3.2.2.2.2.2.2.2.2.2.2.2.2.1 1)))))))))))))))))))))) (some (.inl (z3.1,(z5.2.1,(z5.2.2.1,(z5.2.2.2.1,(z5.2.2.2.2.1,(z5.2.2.2.2.2.1,(z5.2.2.2.2.2.2.1,(z5.2.2.2.2.2.2.2.1,
 (z5.2.2.2.2.2.2.2.2.1,(z5.2.2.2.2.2.2.2.2.2.1,(z5.2.2.2.2.2.2.2.2.2.2.1,(z5.2.2.2.2.2.2.2.2.2.2.2,z3.2.2.2.2.2.2.2.2.2.2.2.2.1))))))))))))))))))))) (fun (z4:tqZ)=>(some
 (.inl (z4.1,(z4.2.1,(z4.2.2.1,(z4.2.2.2.1,(z4.2.2.2.2.1,(z4.2.2.2.2.2.1,(z4.2.2.2.2.2.2.1,(z4.2.2.2.2.2.2.2.1,(z4.2.2.2.2.2.2.2.2.1,(z4.2.2.2.2.2.2.2.2.2.1,
 (z4.2.2.2.2.2.2.2.2.2.2.1,(z4.2.2.2.2.2.2.2.2.2.2.2.1,(z4.2.2.2.2.2.2.2.2.2.2.2.2,(Aj .i64 z3.2.2.2.2.2.2.2.2.2.2.2.2.2 1)))))))))))))))))) (some (.inr (.inl (z3.1,(z3.2.1,
 (z3.2.2.1,(z3.2.2.2.1,(z3.2.2.2.2.1,(z3.2.2.2.2.2.1,(z3.2.2.2.2.2.2.1,(z3.2.2.2.2.2.2.2.1,(z3.2.2.2.2.2.2.2.2.1,(z3.2.2.2.2.2.2.2.2.2.1,(z3.2.2.2.2.2.2.2.2.2.2.1,
 (z3.2.2.2.2.2.2.2.2.2.2.2.1,z3.2.2.2.2.2.2.2.2.2.2.2.2.1))))))))))))))))
def Yn (x:tqL):(Option Ycb):=(bnd (cvL (.P .S (.P (.P (.I .i64) (.H .Y)) (.P (.P (.I .i64) (.H .Y)) (.P (.I .i64) .B)))) (.P .S (.P
 (.P (.I .i64) (.L .Y)) (.P (.P (.I .i64) (.L .Y)) (.P (.I .i64) .B)))) x.1) (fun z1=>(bnd (Zdc (z1,x.2)) (fun z2=>(cnd (iEq z2.1
 (-1)) (bnd (cvL (.P .S (.P (.P (.I .i64) (.H .Y)) (.P (.P (.I .i64) (.H .Y)) (.P (.I .i64) .B)))) (.P .S (.P (.P (.I .i64) (.L .Y)) (.P (.P (.I .i64) (.L .Y)) (.P (.I .i64)
 .B)))) x.1) (fun z3=>(some (z3,z2.2)))) (Ao (Aw (Yt x) (x.1,(z2.2.1,(z2.2.2.1,(z2.2.2.2.1,(z2.2.2.2.2.1,(z2.2.2.2.2.2.1,
 (z2.2.2.2.2.2.2.1,(z2.2.2.2.2.2.2.2.1,(z2.2.2.2.2.2.2.2.2.1,(z2.2.2.2.2.2.2.2.2.2.1,(z2.2.2.2.2.2.2.2.2.2.2.1,(z2.2.2.2.2.2.2.2.2.2.2.2,(z2.1,(Aj .i64 z2.1
 1))))))))))))))) (fun (z3:tqZ)=>(chk (De z3.2.2.2.2.2.2.2.2.2.2.2.2 (Ah z3.1) (Ah z3.1)) (chk (nEq ((nOf z3.2.2.2.2.2.2.2.2.2.2.2.2)+((nOf (Ah z3.1))-(nOf
 z3.2.2.2.2.2.2.2.2.2.2.2.2))) z3.1.length) (chk (De 0 z3.2.2.2.2.2.2.2.2.2.2.2.2 (Ah (Al (Bp (nOf z3.2.2.2.2.2.2.2.2.2.2.2.2) z3.1) (Iz ((nOf (Ah z3.1))-(nOf
 z3.2.2.2.2.2.2.2.2.2.2.2.2)) ([],((0,none),((0,none),(0,false)))))))) (chk (Jm 0 ((nOf z3.2.2.2.2.2.2.2.2.2.2.2.2)-0) (Al (Bp (nOf z3.2.2.2.2.2.2.2.2.2.2.2.2)
 z3.1) (Iz ((nOf (Ah z3.1))-(nOf z3.2.2.2.2.2.2.2.2.2.2.2.2)) ([],((0,none),((0,none),(0,false)))))).length) (bnd (cvL (.P .S (.P (.P (.I .i64) (.H .Y)) (.P (.P (.I
 .i64) (.H .Y)) (.P (.I .i64) .B)))) (.P .S (.P (.P (.I .i64) (.L .Y)) (.P (.P (.I .i64) (.L .Y)) (.P (.I .i64) .B)))) (Bp ((nOf z3.2.2.2.2.2.2.2.2.2.2.2.2)-0) (Al (Bp
 (nOf z3.2.2.2.2.2.2.2.2.2.2.2.2) z3.1) (Iz ((nOf (Ah z3.1))-(nOf z3.2.2.2.2.2.2.2.2.2.2.2.2)) ([],((0,none),((0,none),(0,false)))))))) (fun z4=>(some (z4,
 (z3.2.1,(z3.2.2.1,(z3.2.2.2.1,(z3.2.2.2.2.1,(z3.2.2.2.2.2.1,(z3.2.2.2.2.2.2.1,(z3.2.2.2.2.2.2.2.1,(z3.2.2.2.2.2.2.2.2.1,(z3.2.2.2.2.2.2.2.2.2.1,
 (z3.2.2.2.2.2.2.2.2.2.2.1,z3.2.2.2.2.2.2.2.2.2.2.2.1)))))))))))))))))))))))))
def Zje (x:Zbw):Zbx->Option Yck:=fun (z1:Zbx)=>(cnd (iLt z1.2.2 (Ah x.1)) (Ao (bnd (idx x.1 z1.2.2) (fun z2=>(Ao (cnd
 (Ag z1.2.1) (cnd (iGe z2.1 x.2.1) (chk (A0 (z1.1.length+1) 24) (some (.inl ((Al z1.1 [x.2]),true)))) (some (.inl (z1.1,z1.2.1)))) (some (.inl (z1.1,z1.2.1)))) (fun (z3
 : T7)=>(cnd (iNe z2.1 x.2.1) (chk (A0 (z3.1.length+1) 24) (some (.inl ((Al z3.1 [z2]),z3.2)))) (some (.inl z3))))))) (fun (z2:T7)=>(some (.inl (z2.1,(z2.2,
 (Aj .i64 z1.2.2 1))))))) (some (.inr (.inl (z1.1,z1.2.1)))))
def Um (x:Zbw):Ycy:=(Ao (Aw (Zje x) ([],(false,0))) (fun (z1:T7)=>(Ao (cnd (Ag z1.2) (chk (A0 (z1.1.length+1) 24)
 (some (.inl (Al z1.1 [x.2])))) (some (.inl z1.1))) (fun (z2:Ja)=>(some z2)))))
def Ug (x:tqH):Ycg:=(bnd (Ul x.1) (fun z1=>(bnd (Py x.2) (fun z2=>(cnd (Ag z2) (some (z1,false)) (bnd
 (Ns x.1) (fun z3=>(cnd (Ag z3) (some (z1,false)) (Ao (cnd (iEq x.2.1 1) (bnd (cvL (.P .S (.P (.P (.I .i64) (.L .Y)) (.P (.P (.I .i64) (.L .Y)) (.P (.I
 .i64) .B)))) (.P .S (.P (.P (.I .i64) (.H .Y)) (.P (.P (.I .i64) (.H .Y)) (.P (.I .i64) .B)))) z1.1) (fun z4=>(bnd (Xy (z4,x.2.2.1)) (fun z5 =>
 (some (.inl (x.2.1,(x.2.2.1.1,(x.2.2.1.2.1.1,(x.2.2.1.2.2.1.1,(x.2.2.1.2.2.2.1,(x.2.2.1.2.2.2.2,(x.2.2.2.1,(x.2.2.2.2.1,(x.2.2.2.2.2.1,(x.2.2.2.2.2.2.1,
 (x.2.2.2.2.2.2.2,(z5,z1.2.1)))))))))))))))))) (cnd (iEq x.2.1 2) (bnd (cvL (.P .S (.P (.P (.I .i64) (.L .Y)) (.P (.P (.I .i64) (.L .Y)) (.P (.I .i64) .B)))) (.P .S (.P (.P (.I
 .i64) (.H .Y)) (.P (.P (.I .i64) (.H .Y)) (.P (.I .i64) .B)))) z1.1) (fun z4=>(bnd (Yn (z4,x.2)) (fun z5=>(some (.inl (z5.2.1,
 (z5.2.2.1,(z5.2.2.2.1,(z5.2.2.2.2.1,(z5.2.2.2.2.2.1,(z5.2.2.2.2.2.2.1,(z5.2.2.2.2.2.2.2.1,(z5.2.2.2.2.2.2.2.2.1,(z5.2.2.2.2.2.2.2.2.2.1,(z5.2.2.2.2.2.2.2.2.2.2.1,
 (z5.2.2.2.2.2.2.2.2.2.2.2,(z5.1,z1.2.1)))))))))))))))))) (cnd (iEq x.2.1 3) (some (.inl (x.2.1,(x.2.2.1.1,(x.2.2.1.2.1.1,(x.2.2.1.2.2.1.1,(x.2.2.1.2.2.2.1,
 (x.2.2.1.2.2.2.2,(x.2.2.2.1,(x.2.2.2.2.1,(x.2.2.2.2.2.1,(x.2.2.2.2.2.2.1,(x.2.2.2.2.2.2.2,(z1.1,x.2.2.2.2.1)))))))))))))) (some (.inl (x.2.1,(x.2.2.1.1,(x.2.2.1.2.1.1,
 (x.2.2.1.2.2.1.1,(x.2.2.1.2.2.2.1,(x.2.2.1.2.2.2.2,(x.2.2.2.1,(x.2.2.2.2.1,(x.2.2.2.2.2.1,(x.2.2.2.2.2.2.1,(x.2.2.2.2.2.2.2,(z1.1,z1.2.1))))))))))))))))) (fun (z4:(Int
 × ((List UInt8)×(Int×(Int×(Int×(Bool×((List UInt8)×(Int×(Int×(Int×(Int×T6))))))))))))=>(Ao (cnd (iGt z4.2.2.2.2.2.2.2.2.1 0) (bnd (Um
 (z1.2.2,(z4.2.2.2.2.2.2.2.2.1,(z4.2.2.2.2.2.2.2.2.2.1,z4.2.2.2.2.2.2.2.2.2.2.1)))) (fun z5=>(some (.inl z5)))) (some (.inl z1.2.2))) (fun (z5:Ja)=>(bnd
 (Ns (z4.2.2.2.2.2.2.2.2.2.2.2.1,(z4.2.2.2.2.2.2.2.2.2.2.2.2,z5))) (fun z6=>(cnd (Ag z6) (bnd (Ul x.1) (fun z7=>(some (z7,false))))
 (some ((z4.2.2.2.2.2.2.2.2.2.2.2.1,(z4.2.2.2.2.2.2.2.2.2.2.2.2,z5)),true)))))))))))))))))
def Zdf (x:Fk):(Int)->Option Rh:=fun (z3:Int)=>(cnd (iLt z3 (Ah x.1)) (bnd (idx x.1 z3) (fun z4=>(cnd (iGt (Ah z4) 120)
 (some (.inr (.inr false))) (some (.inl (Aj .i64 z3 1)))))) (some (.inr (.inl ()))))
def Zdg (x:Fk):(Int)->Option ((Int) ⊕ Bool):=fun (z4:Int)=>(cnd (iLt z4 (Ah x.2.1)) (bnd (idx x.2.1 z4) (fun z5=>(bnd (Cm
 (z5.1,(0,(A9 .i64 (Ah x.1) 1)))) (fun z6=>(cnd (Ag z6) (some (.inr false)) (cnd (iGt (Ah z5.2) 120) (some (.inr false)) (some (.inl (Aj .i64 z4 1)))))))))
 (some (.inr true)))
def Jf (x:Fk):C3:=(bnd (Cm ((Ah x.1),(1,64))) (fun z1=>(cnd (Ag z1) (some false) (cnd (iGt (Ah x.2.1) 40) (some false)
 (bnd (Cm (x.2.2.1,((-1),1000))) (fun z2=>(cnd (Ag z2) (some false) (Ao (Aw (Zdf x) 0) (fun (z3:Unit)=>(Aw (Zdg x) 0))))))))))
def Jg (x:Nk):C3:=(bnd (Jf (x.1.1,(x.1.2.1,(x.1.2.2.1,x.1.2.2.2)))) (fun z1=>(cnd z1 (cnd (iEq (Ah x.1.1) 62) (cnd (iEq
 (Ah x.1.2.1) 0) (bnd (Ns (x.2.1.1,(x.2.1.2.1,x.2.1.2.2))) (fun z2=>(cnd z2 (bnd (Cm (x.2.2.1,(1,60000))) (fun z3=>(cnd z3 (bnd
 (Cm (x.2.2.2,(0,30))) (fun z4=>(some z4))) (some false)))) (some false)))) (cnd x.1.2.2.2 (bnd (Ns (x.2.1.1,(x.2.1.2.1,x.2.1.2.2))) (fun z2
 => (cnd z2 (bnd (Cm (x.2.2.1,(1,60000))) (fun z3=>(cnd z3 (bnd (Cm (x.2.2.2,(0,30))) (fun z4=>(some z4))) (some false)))) (some
 false)))) (some false))) (some false)) (some false))))
def Zi9 (x:Ec):Pm->Option tqC:=fun (z1:Pm)=>(cnd (iLt z1.2 (Ah x.1)) (bnd (idx x.1 z1.2) (fun z2=>(bnd (Pz (z2.1,
 ((z2.2.1.1,z2.2.1.2),((z2.2.2.1.1,z2.2.2.1.2),(z2.2.2.2.1,z2.2.2.2.2))))) (fun z3=>(chk (A0 (z1.1.length+1) 152) (some (.inl ((Al z1.1 [(1,((z3.1,
 ((z3.2.1.1,z3.2.1.2),((z3.2.2.1.1,z3.2.2.1.2),(z3.2.2.2.1,z3.2.2.2.2)))),([],(0,(0,(0,0))))))]),(Aj .i64 z1.2 1))))))))) (some (.inr (.inl z1.1))))
def Zja (x:Ec):Pm->Option tqC:=fun (z2:Pm)=>(cnd (iLt z2.2 (Ah x.2.2)) (bnd (idx x.2.2 z2.2) (fun z3=>(chk (A0 (z2.1.length +
 1) 152) (some (.inl ((Al z2.1 [(4,(([],((0,[]),((0,[]),(0,false)))),([],(0,(z3.1,(z3.2.1,z3.2.2))))))]),(Aj .i64 z2.2 1))))))) (some (.inr (.inl z2.1))))
def Zcl (x:Ec):Yce:=(Ao (Aw (Zi9 x) ([(3,(([],((0,[]),((0,[]),(0,false)))),([],(x.2.1,(0,(0,0))))))],0)) (fun (z1:Nl)
 => (Ao (Aw (Zja x) (z1,0)) (fun (z2:Nl)=>(some z2)))))
def Mm (x:(Int×Int)):(Option Int):=(some (Aj .i64 (Aj .i64 2 (D8 .i64 30 (Dy x.1 2))) x.2))
def Jz (x:Ed):F9:=(bnd (Fv [x.1,[(u8 (Ai .u8 (Aq .i64 (Bh .i64 x.2 8) 255))),(u8 (Ai .u8 (Aq .i64 x.2 255)))]]) (fun z1=>(some z1)))
def Nr (x:((List UInt8)×(List UInt8))):F9:=(cnd (iGt (Ah x.2) 60) (bnd (Fv [x.1]) (fun z1=>(some z1))) (bnd (Jz
 (x.1,(Ah x.2))) (fun z1=>(bnd (Fv [z1,x.2]) (fun z2=>(some z2))))))
def Zix (x:Bool):(Option UInt8):=(cnd x (some (u8 1)) (some (u8 0)))
def Xv (x:Ycm):F9:=(bnd (Fv [x.1]) (fun z1=>(bnd (Ln (x.2.1,((x.2.2.1.1,x.2.2.1.2),((x.2.2.2.1.1,x.2.2.2.1.2),
 (x.2.2.2.2.1,x.2.2.2.2.2))))) (fun z2=>(cnd (Ag z2) (some z1) (bnd (Nr (z1,x.2.1)) (fun z3=>(bnd (Zix x.2.2.2.2.2) (fun z4=>(chk (A0 (z3.length+2) 1) (Ao (cnd (iNe x.2.2.2.2.1 2) (chk (A0 ((Al z3 [(u8 (Ai .u8 x.2.2.2.2.1)),z4]).length+1) 1) (bnd (Nr ((Al (Al z3
 [(u8 (Ai .u8 x.2.2.2.2.1)),z4]) [(u8 (Ai .u8 x.2.2.1.1))]),x.2.2.1.2)) (fun z5=>(some (.inl z5))))) (some (.inl (Al z3 [(u8 (Ai .u8 x.2.2.2.2.1)),
 z4])))) (fun (z5:(List UInt8))=>(Ao (cnd (iNe x.2.2.2.2.1 1) (chk (A0 (z5.length+1) 1) (bnd (Nr ((Al z5 [(u8 (Ai .u8 x.2.2.2.1.1))]),x.2.2.2.1.2)) (fun
 z6=>(some (.inl z6))))) (some (.inl z5))) (fun (z6:(List UInt8))=>(some z6)))))))))))))))
def Zjb:(Int×Int)->Option Ycr:=fun (z3:(Int×Int))=>(cnd (iLt z3.2 8) (Ao (cnd (iGt (D8 .i64 z3.1 2) 65535) (some (.inl (K5 .i64 (D8 .i64
 z3.1 2) 69665))) (some (.inl (D8 .i64 z3.1 2)))) (fun (z4:Int)=>(some (.inl (z4,(Aj .i64 z3.2 1)))))) (some (.inr (.inl z3.1))))
def Zjc (x:(List UInt8)):(Int×Int)->Option Zil:=fun (z1:(Int×Int))=>(cnd (iLt z1.2 (Ah x)) (Ao (bnd (idx x z1.2) (fun z2 =>
 (Aw (Zjb) ((K5 .i64 z1.1 (D8 .i64 256 (Ai .i64 (y2i z2)))),0)))) (fun (z2:Int)=>(some (.inl (z2,(Aj .i64 z1.2 1)))))) (some (.inr (.inl z1.1))))
def Uj (x:(List UInt8)):(Option Int):=(Ao (Aw (Zjc x) (65535,0)) (fun (z1:Int)=>(some (Aq .i64 z1 65535))))
def Rr (x:Ycf):F9:=(bnd (Py (x.2.2.1,((x.2.2.2.1.1,((x.2.2.2.1.2.1.1,x.2.2.2.1.2.1.2),((x.2.2.2.1.2.2.1.1,x.2.2.2.1.2.2.1.2),
 (x.2.2.2.1.2.2.2.1,x.2.2.2.1.2.2.2.2)))),(x.2.2.2.2.1,(x.2.2.2.2.2.1,(x.2.2.2.2.2.2.1,(x.2.2.2.2.2.2.2.1,x.2.2.2.2.2.2.2.2))))))) (fun z1=>(cnd (Ag z1) (some
 []) (bnd (Nt x.1) (fun z2=>(cnd (Ag z2) (some []) (bnd (Nt x.2.1) (fun z3=>(cnd (Ag z3) (some []) (al 2 (bnd (Jz ([],x.1)) (fun
 z4=>(bnd (Jz (z4,x.2.1)) (fun z5=>(chk (A0 (z5.length+1) 1) (Ao (cnd (iEq x.2.2.1 1) (bnd (Xv ((Al z5 [(u8 (Ai
 .u8 x.2.2.1))]),(x.2.2.2.1.1,((x.2.2.2.1.2.1.1,x.2.2.2.1.2.1.2),((x.2.2.2.1.2.2.1.1,x.2.2.2.1.2.2.1.2),(x.2.2.2.1.2.2.2.1,x.2.2.2.1.2.2.2.2)))))) (fun z6
 => (some (.inl z6)))) (cnd (iEq x.2.2.1 2) (bnd (Nr ((Al z5 [(u8 (Ai .u8 x.2.2.1))]),x.2.2.2.2.1)) (fun z6=>(some (.inl z6)))) (cnd (iEq x.2.2.1
 3) (chk (A0 ((Al z5 [(u8 (Ai .u8 x.2.2.1))]).length+1) 1) (some (.inl (Al (Al z5 [(u8 (Ai .u8 x.2.2.1))]) [(u8 (Ai .u8 x.2.2.2.2.2.1))])))) (some (.inl (Al
 z5 [(u8 (Ai .u8 x.2.2.1))])))))) (fun (z6:(List UInt8))=>(chk (A0 (z6.length+2) 1) (bnd (Jz ((Al z6 [(u8 (Ai .u8 x.2.2.2.2.2.2.1)),(u8 (Ai .u8
 x.2.2.2.2.2.2.2.2))]),x.2.2.2.2.2.2.2.1)) (fun z7=>(bnd (Uj z7) (fun z8=>(bnd (Jz (z7,z8)) (fun z9=>(some
 z9)))))))))))))))))))))))))
def Xw (x:Fk):(Option Ycq):=(cnd (iEq x.2.2.1 0) (some ((x.1,(x.2.1,((-1),true))),false)) (Ao (cnd (iGt x.2.2.1 0) (some (.inl (A9 .i64
 x.2.2.1 1))) (some (.inl x.2.2.1))) (fun (z1:Int)=>(some ((x.1,(x.2.1,(z1,x.2.2.2))),true)))))
def Jh (x:Yco):Xd:=(bnd (J0 (x.1.1,(x.1.2.1,(x.1.2.2.1,x.1.2.2.2)))) (fun z1=>(bnd (Jf (x.1.1,(x.1.2.1,(x.1.2.2.1,
 x.1.2.2.2)))) (fun z2=>(cnd (Ag z2) (some (z1.1,(z1.2.1,(z1.2.2.1,z1.2.2.2)))) (cnd x.1.2.2.2 (some (z1.1,(z1.2.1,(z1.2.2.1,z1.2.2.2)))) (bnd (Cm
 (x.2.1,(0,(A9 .i64 (Ah x.1.1) 1)))) (fun z3=>(cnd (Ag z3) (some (z1.1,(z1.2.1,(z1.2.2.1,z1.2.2.2)))) (cnd (iGt (Ah x.2.2) 120) (some (z1.1,(z1.2.1,
 (z1.2.2.1,z1.2.2.2)))) (cnd (iEq (Ah x.1.2.1) 40) (some (z1.1,(z1.2.1,(z1.2.2.1,z1.2.2.2)))) (bnd (Xw (z1.1,(z1.2.1,(z1.2.2.1,z1.2.2.2)))) (fun z4 =>
 (Ao (cnd z4.2 (bnd (Fv [x.2.2]) (fun z5=>(chk (A0 (z4.1.2.1.length+1) 32) (some (.inl (Al z4.1.2.1 [(x.2.1,z5)])))))) (some (.inl z4.1.2.1)))
 (fun (z5:Pp)=>(some (z4.1.1,(z5,(z4.1.2.2.1,z4.1.2.2.2)))))))))))))))))))
def Zdi (z3:Ycq):Po->Option Zie:=fun (z4:Po)=>(cnd (iLt z4.2 (Ah z3.1.2.1)) (bnd (idx z3.1.2.1 z4.2) (fun z5=>(bnd
 (Fv [z5.2]) (fun z6=>(bnd (idx z4.1 z5.1) (fun z7=>(some (.inl ((Bo z4.1 (nOf z5.1) z6),(Aj .i64 z4.2 1)))))))))) (some (.inr
 (.inl z4.1))))
def Lm (x:Fk):Xd:=(bnd (J0 (x.1,(x.2.1,(x.2.2.1,x.2.2.2)))) (fun z1=>(bnd (Jf (x.1,(x.2.1,(x.2.2.1,x.2.2.2))))
 (fun z2=>(cnd (Ag z2) (some (z1.1,(z1.2.1,(z1.2.2.1,z1.2.2.2)))) (cnd x.2.2.2 (some (z1.1,(z1.2.1,(z1.2.2.1,z1.2.2.2)))) (bnd (Xw (z1.1,(z1.2.1,
 (z1.2.2.1,z1.2.2.2)))) (fun z3=>(cnd (Ag z3.2) (some (z3.1.1,(z3.1.2.1,(z3.1.2.2.1,z3.1.2.2.2)))) (Ao (Aw (Zdi z3) (z3.1.1,0)) (fun (z4:Ih)
 => (some (z4,([],(z3.1.2.2.1,z3.1.2.2.2)))))))))))))))
def Xs (x:(Int×Int)):F9:=(bnd (Cm (x.1,(1,60000))) (fun z1=>(cnd (Ag z1) (some []) (bnd (Cm (x.2,(0,30))) (fun z2=>(cnd (Ag z2) (some []) (bnd (Jz ([],x.1)) (fun z3=>(bnd (Jz (z3,x.2)) (fun z4=>(bnd (Uj z4) (fun z5
 => (bnd (Jz (z4,z5)) (fun z6=>(some z6)))))))))))))))
def Zjd (x:tqT):Zqk->Option (Zqk ⊕ Fk):=fun (z5:Zqk)=>(cnd (iLt z5.2.2.2.2 (Ah x.2.2)) (bnd (idx x.2.2 z5.2.2.2.2) (fun z6=>(bnd
 (Mm (x.2.1,z5.2.2.2.2)) (fun z7=>(bnd (Rr (x.2.1,(z5.2.2.2.2,z6))) (fun z8=>(bnd (Jh ((z5.1,(z5.2.1,(z5.2.2.1,
 z5.2.2.2.1))),(z7,z8))) (fun z9=>(some (.inl (z9.1,(z9.2.1,(z9.2.2.1,(z9.2.2.2,(Aj .i64 z5.2.2.2.2 1))))))))))))))) (Ma (bnd (Lm (z5.1,(z5.2.1,
 (z5.2.2.1,z5.2.2.2.1)))) (fun z6=>(bnd (Xs (x.2.1,(Ah x.2.2))) (fun z7=>(bnd (Jh (z6,((Dy x.2.1 2),z7))) (fun z8
 => (bnd (Lm z8) (fun z9=>(some z9)))))))))))
def Zcn (x:tqT):Xd:=(cnd (iLt 0 (Ah x.2.2)) (bnd (idx x.2.2 0) (fun z1=>(bnd (Mm (x.2.1,0)) (fun z2=>(bnd (Rr
 (x.2.1,(0,z1))) (fun z3=>(bnd (Jh (x.1,(z2,z3))) (fun z4=>(Aw (Zjd x) (z4.1,(z4.2.1,(z4.2.2.1,(z4.2.2.2,(Aj .i64 0
 1)))))))))))))) (bnd (Lm x.1) (fun z1=>(bnd (Xs (x.2.1,(Ah x.2.2))) (fun z2=>(bnd (Jh (z1,((Dy x.2.1 2),z2)))
 (fun z3=>(bnd (Lm z3) (fun z4=>(some z4))))))))))
def Px (x:Nk):tqU:=(bnd (Uk x) (fun z1=>(bnd (Jg x) (fun z2=>(cnd (Ag z2) (some z1) (cnd x.1.2.2.2 (some z1)
 (cnd (iEq x.2.2.1 60000) (some z1) (bnd (Zcl x.2.1) (fun z3=>(bnd (Zcn (x.1,((Aj .i64 x.2.2.1 1),z3))) (fun z4=>(Ao (cnd (Ag z4.2.2.2)
 (some (.inl ((Aj .i64 x.2.2.1 1),(Ah z3)))) (some (.inl z1.2.2))) (fun (z5:(Int×Int))=>(some (z4,(z1.2.1,z5))))))))))))))))
def Zcf (x:tqE):tqO:=(bnd (Uk x.1) (fun z1=>(bnd (Ug (x.1.2.1,x.2)) (fun z2=>(bnd (Jg x.1) (fun z3=>(cnd (Ag z3) (some (z1,false)) (cnd x.1.1.2.2.2 (some (z1,false)) (cnd (Ag z2.2) (some (z1,false)) (Ao (cnd (iEq z1.2.2.2 30) (bnd (Px z1) (fun z4=>(some (.inl (z4.1.1,(z4.1.2.1,(z4.1.2.2.1,(z4.1.2.2.2,(z4.2.1.1,(z4.2.1.2.1,(z4.2.1.2.2,z4.2.2))))))))))) (some (.inl (z1.1.1,(z1.1.2.1,(z1.1.2.2.1,
 (z1.1.2.2.2,(z1.2.1.1,(z1.2.1.2.1,(z1.2.1.2.2,z1.2.2)))))))))) (fun (z4:Zbu)=>(cnd z4.2.2.2.1 (some (((z4.1,(z4.2.1,(z4.2.2.1,z4.2.2.2.1))),((z4.2.2.2.2.1,
 (z4.2.2.2.2.2.1,z4.2.2.2.2.2.2.1)),z4.2.2.2.2.2.2.2)),false)) (cnd (iEq z4.2.2.2.2.2.2.2.2 30) (some (((z4.1,(z4.2.1,(z4.2.2.1,z4.2.2.2.1))),((z4.2.2.2.2.1,
 (z4.2.2.2.2.2.1,z4.2.2.2.2.2.2.1)),z4.2.2.2.2.2.2.2)),false)) (bnd (Mm z4.2.2.2.2.2.2.2) (fun z5=>(bnd (Rr (z4.2.2.2.2.2.2.2.1,
 (z4.2.2.2.2.2.2.2.2,x.2))) (fun z6=>(bnd (Jh ((z4.1,(z4.2.1,(z4.2.2.1,z4.2.2.2.1))),(z5,z6))) (fun z7=>(bnd (Lm z7) (fun
 z8=>(cnd z8.2.2.2 (some ((z8,((z4.2.2.2.2.1,(z4.2.2.2.2.2.1,z4.2.2.2.2.2.2.1)),z4.2.2.2.2.2.2.2)),false)) (some ((z8,(z2.1,(z4.2.2.2.2.2.2.2.1,(Aj .i64
 z4.2.2.2.2.2.2.2.2 1)))),true))))))))))))))))))))))))
def Zdk (x:Zbv):(Int)->Option ((Int) ⊕ (Unit ⊕ (List UInt8))):=fun (z3:Int)=>(cnd (iGe z3 0) (bnd (idx x.1.2.1 z3) (fun z4=>(cnd (iEq
 z4.1 x.2) (bnd (idx x.1.2.1 z3) (fun z5=>(bnd (Fv [z5.2]) (fun z6=>(some (.inr (.inr z6))))))) (some (.inl (A9 .i64 z3 1)))))) (some (.inr
 (.inl ()))))
def Uh (x:Zbv):F9:=(bnd (Jf (x.1.1,(x.1.2.1,(x.1.2.2.1,x.1.2.2.2)))) (fun z1=>(cnd (Ag z1) (some []) (bnd (Cm (x.2,
 (0,(A9 .i64 (Ah x.1.1) 1)))) (fun z2=>(cnd (Ag z2) (some []) (Ao (Aw (Zdk x) (A9 .i64 (Ah x.1.2.1) 1)) (fun (z3:Unit)=>(bnd (idx x.1.1
 x.2) (fun z4=>(bnd (Fv [z4]) (fun z5=>(some z5)))))))))))))
def Xr (x:Ed):Lg:=(cnd (iLt x.2 0) (some (0,(0,false))) (cnd (iGt x.2 (A9 .i64 (Ah x.1) 2)) (some (0,(0,false))) (bnd (idx x.1 x.2) (fun z1=>(bnd (idx x.1 (Aj .i64 x.2 1)) (fun z2=>(some ((iOr .i64 (B7 .i64 (Ai .i64 (y2i z1)) 8) (Ai .i64 (y2i z2))),((Aj .i64 x.2 2),true)))))))))
def Ik (x:Pn):Lg:=(bnd (Xr (x.1,x.2.1)) (fun z1=>(cnd x.2.2 (some (0,(x.2.1,true))) (cnd (Ag z1.2.2) (some (0,(x.2.1,
 true))) (some (z1.1,(z1.2.1,x.2.2)))))))
def Nu (x:Pn):Ycz:=(bnd (Ik (x.1,(x.2.1,x.2.2))) (fun z1=>(cnd (Ag z1.2.2) (chk (De 0 x.2.1 (Ah x.1)) (bnd (Uj
 (Bp ((nOf x.2.1)-0) x.1)) (fun z2=>(cnd (iEq z1.1 z2) (some ((iEq z1.2.1 (Ah x.1)),(z1.2.1,z1.2.2))) (some (false,(z1.2.1,z1.2.2))))))) (some (false,
 (z1.2.1,z1.2.2))))))
def Xp (x:(List UInt8)):Lg:=(bnd (Ik (x,(0,false))) (fun z1=>(bnd (Ik (x,(z1.2.1,z1.2.2))) (fun z2 =>
 (bnd (Nu (x,(z2.2.1,z2.2.2))) (fun z3=>(cnd (Ag z3.1) (some (0,(0,false))) (bnd (Cm (z1.1,(1,60000))) (fun z4=>(cnd (Ag z4)
 (some (0,(0,false))) (bnd (Cm (z2.1,(0,30))) (fun z5=>(cnd (Ag z5) (some (0,(0,false))) (some (z1.1,(z2.1,true))))))))))))))))
def G9 (x:Pn):Lg:=(cnd x.2.2 (some (0,(x.2.1,true))) (cnd (iLt x.2.1 0) (some (0,(x.2.1,true))) (cnd (iGe x.2.1 (Ah x.1)) (some (0,(x.2.1,
 true))) (bnd (idx x.1 (A9 .i64 (Aj .i64 x.2.1 1) 1)) (fun z1=>(some ((Ai .i64 (y2i z1)),((Aj .i64 x.2.1 1),x.2.2))))))))
def Zcj (x:Ed):Ycu:=(bnd (Xr (x.1,x.2)) (fun z1=>(cnd (Ag z1.2.2) (some ([],(0,false))) (cnd (iGt z1.1 60) (some ([],(0,
 false))) (cnd (iGt z1.1 (A9 .i64 (Ah x.1) z1.2.1)) (some ([],(0,false))) (chk (De z1.2.1 (Aj .i64 z1.2.1 z1.1) (Ah x.1)) (some ((Bp ((nOf (Aj .i64 z1.2.1
 z1.1))-(nOf z1.2.1)) (Dr (nOf z1.2.1) x.1)),((Aj .i64 z1.2.1 z1.1),true)))))))))
def Ml (x:Pn):Ycu:=(bnd (Zcj (x.1,x.2.1)) (fun z1=>(cnd x.2.2 (some ([],(x.2.1,true))) (cnd (Ag z1.2.2) (some ([],(x.2.1,
 true))) (some (z1.1,(z1.2.1,x.2.2)))))))
def J1 (x:Pn):Ywd:=(bnd (G9 (x.1,(x.2.1,x.2.2))) (fun z1=>(bnd (Ml (x.1,(z1.2.1,z1.2.2))) (fun z2 =>
 (some ((z1.1,z2.1),(z2.2.1,z2.2.2)))))))
def Rs (x:Pn):Yv6:=(bnd (Ml (x.1,(x.2.1,x.2.2))) (fun z1=>(bnd (G9 (x.1,(z1.2.1,z1.2.2))) (fun z2 =>
 (bnd (G9 (x.1,(z2.2.1,z2.2.2))) (fun z3=>(Ao (cnd (iNe (Aq .i64 z2.1 1) 0) (bnd (J1 (x.1,(z3.2.1,z3.2.2))) (fun z4=>(some
 (.inl (z4.2.1,(z4.2.2,(z4.1.1,z4.1.2))))))) (some (.inl (z3.2.1,(z3.2.2,(0,[])))))) (fun (z4:Ycx)=>(Ao (cnd (iNe (Aq .i64 z2.1 2) 0) (bnd (J1 (x.1,
 (z4.1,z4.2.1))) (fun z5=>(some (.inl (z5.2.1,(z5.2.2,(z5.1.1,z5.1.2))))))) (some (.inl (z4.1,(z4.2.1,(0,[])))))) (fun (z5:Ycx)=>(cnd z5.2.1 (some (([],
 ((0,[]),((0,[]),(0,false)))),(z5.1,true))) (cnd (iGt z3.1 1) (some (([],((0,[]),((0,[]),(0,false)))),(z5.1,true))) (bnd (Ln (z1.1,((z4.2.2.1,z4.2.2.2),
 ((z5.2.2.1,z5.2.2.2),(z2.1,(iEq z3.1 1)))))) (fun z6=>(cnd (Ag z6) (some (([],((0,[]),((0,[]),(0,false)))),(z5.1,true))) (some ((z1.1,((z4.2.2.1,
 z4.2.2.2),((z5.2.2.1,z5.2.2.2),(z2.1,(iEq z3.1 1))))),(z5.1,z5.2.1))))))))))))))))))
def Xq (x:(List UInt8)):Yvw:=(bnd (Ik (x,(0,false))) (fun z1=>(bnd (Ik (x,(z1.2.1,z1.2.2))) (fun z2 =>
 (bnd (G9 (x,(z2.2.1,z2.2.2))) (fun z3=>(Ao (cnd (iEq z3.1 1) (bnd (Rs (x,(z3.2.1,z3.2.2))) (fun z4=>(some (.inl (z4.1.1,
 (z4.1.2.1.1,(z4.1.2.1.2,(z4.1.2.2.1.1,(z4.1.2.2.1.2,(z4.1.2.2.2.1,(z4.1.2.2.2.2,([],(0,(z4.2.1,z4.2.2)))))))))))))) (cnd (iEq z3.1 2) (bnd (Ml (x,(z3.2.1,
 z3.2.2))) (fun z4=>(some (.inl ([],(0,([],(0,([],(0,(false,(z4.1,(0,(z4.2.1,z4.2.2)))))))))))))) (cnd (iEq z3.1 3) (bnd (G9 (x,(z3.2.1,z3.2.2)))
 (fun z4=>(some (.inl ([],(0,([],(0,([],(0,(false,([],(z4.1,(z4.2.1,z4.2.2)))))))))))))) (some (.inl ([],(0,([],(0,([],(0,(false,([],(0,(z3.2.1,
 z3.2.2))))))))))))))) (fun (z4:Yv4)=>(bnd (G9 (x,(z4.2.2.2.2.2.2.2.2.2.1,z4.2.2.2.2.2.2.2.2.2.2))) (fun z5=>(bnd (G9 (x,(z5.2.1,z5.2.2)))
 (fun z6=>(bnd (Ik (x,(z6.2.1,z6.2.2))) (fun z7=>(bnd (Nu (x,(z7.2.1,z7.2.2))) (fun z8=>(cnd (Ag z8.1) (some (0,(0,
 ((0,(([],((0,[]),((0,[]),(0,false)))),([],(0,(0,(0,0)))))),false)))) (bnd (Py (z3.1,((z4.1,((z4.2.1,z4.2.2.1),((z4.2.2.2.1,z4.2.2.2.2.1),
 (z4.2.2.2.2.2.1,z4.2.2.2.2.2.2.1)))),(z4.2.2.2.2.2.2.2.1,(z4.2.2.2.2.2.2.2.2.1,(z5.1,(z7.1,z6.1))))))) (fun z9=>(cnd (Ag z9) (some (0,(0,((0,(([],((0,[]),
 ((0,[]),(0,false)))),([],(0,(0,(0,0)))))),false)))) (some (z1.1,(z2.1,((z3.1,((z4.1,((z4.2.1,z4.2.2.1),((z4.2.2.2.1,z4.2.2.2.2.1),(z4.2.2.2.2.2.1,
 z4.2.2.2.2.2.2.1)))),(z4.2.2.2.2.2.2.2.1,(z4.2.2.2.2.2.2.2.2.1,(z5.1,(z7.1,z6.1)))))),true))))))))))))))))))))))))
def Zdl (x:Zbv):tqI->Option tqB:=fun (z2:tqI)=>(cnd (iLt z2.2.2.2.2.2.2 30) (al 3 (bnd (Mm (x.2,z2.2.2.2.2.2.2)) (fun z3 =>
 (bnd (Uh (x.1,z3)) (fun z4=>(bnd (Xq z4) (fun z5=>(cnd (Ag z5.2.2.2) (some (.inr (.inr ((z2.2.2.2.1,(z2.2.2.2.2.1,
 z2.2.2.2.2.2.1)),z2.2.2.2.2.2.2)))) (cnd (iNe z5.1 x.2) (some (.inr (.inr ((z2.2.2.2.1,(z2.2.2.2.2.1,z2.2.2.2.2.2.1)),z2.2.2.2.2.2.2)))) (cnd (iNe z5.2.1 z2.2.2.2.2.2.2)
 (some (.inr (.inr ((z2.2.2.2.1,(z2.2.2.2.2.1,z2.2.2.2.2.2.1)),z2.2.2.2.2.2.2)))) (bnd (Ug ((z2.2.2.2.1,(z2.2.2.2.2.1,z2.2.2.2.2.2.1)),z5.2.2.1)) (fun z6 =>
 (cnd (Ag z6.2) (some (.inr (.inr ((z2.2.2.2.1,(z2.2.2.2.2.1,z2.2.2.2.2.2.1)),z2.2.2.2.2.2.2)))) (some (.inl (z2.1,(z2.2.1,(z2.2.2.1,(z6.1.1,(z6.1.2.1,(z6.1.2.2,(Aj
 .i64 z2.2.2.2.2.2.2 1)))))))))))))))))))))) (some (.inr (.inl (z2.1,(z2.2.1,(z2.2.2.1,(z2.2.2.2.1,(z2.2.2.2.2.1,z2.2.2.2.2.2.1)))))))))
def Ui (x:Zbv):Yv0:=(bnd (Cm (x.2,(1,60000))) (fun z1=>(cnd (Ag z1) (some (([],(0,[])),0)) (Ao (Aw (Zdl x)
 ([],(0,([],([],(0,([],0))))))) (fun (z2:tqJ)=>(some (z2.2.2.2,30)))))))
def Zdj (x:Fk):tqY->Option tqA:=fun (z1:tqY)=>(cnd (iLt z1.2.2.2.2.2.2.2.2.2 2) (Ao (bnd (Uh (x,z1.2.2.2.2.2.2.2.2.2)) (fun z2=>(bnd (Xp z2) (fun z3=>(cnd (Ag z3.2.2) (some (.inl (z1.1,(z1.2.1,(z1.2.2.1,(z1.2.2.2.1,(z1.2.2.2.2.1,(z1.2.2.2.2.2.1,
 (z1.2.2.2.2.2.2.1,(z1.2.2.2.2.2.2.2.1,z1.2.2.2.2.2.2.2.2.1)))))))))) (cnd (iNe (Dy z3.1 2) z1.2.2.2.2.2.2.2.2.2) (some (.inl (z1.1,(z1.2.1,(z1.2.2.1,(z1.2.2.2.1,
 (z1.2.2.2.2.1,(z1.2.2.2.2.2.1,(z1.2.2.2.2.2.2.1,(z1.2.2.2.2.2.2.2.1,z1.2.2.2.2.2.2.2.2.1)))))))))) (cnd (iLe z3.1 z1.2.2.2.2.2.2.2.1) (some (.inl (z1.1,(z1.2.1,(z1.2.2.1,
 (z1.2.2.2.1,(z1.2.2.2.2.1,(z1.2.2.2.2.2.1,(z1.2.2.2.2.2.2.1,(z1.2.2.2.2.2.2.2.1,z1.2.2.2.2.2.2.2.2.1)))))))))) (bnd (Ui (x,z3.1)) (fun z4=>(cnd (iGe z4.2
 z3.2.1) (bnd (J0 x) (fun z5=>(some (.inl (z5.1,(z5.2.1,(z5.2.2.1,(z5.2.2.2,(z4.1.1,(z4.1.2.1,(z4.1.2.2,(z3.1,z4.2)))))))))))) (some (.inl (z1.1,
 (z1.2.1,(z1.2.2.1,(z1.2.2.2.1,(z1.2.2.2.2.1,(z1.2.2.2.2.2.1,(z1.2.2.2.2.2.2.1,(z1.2.2.2.2.2.2.2.1,z1.2.2.2.2.2.2.2.2.1)))))))))))))))))))) (fun (z2:Zbu)=>(some (.inl
 (z2.1,(z2.2.1,(z2.2.2.1,(z2.2.2.2.1,(z2.2.2.2.2.1,(z2.2.2.2.2.2.1,(z2.2.2.2.2.2.2.1,(z2.2.2.2.2.2.2.2.1,(z2.2.2.2.2.2.2.2.2,(Aj .i64 z1.2.2.2.2.2.2.2.2.2
 1)))))))))))))) (some (.inr (.inl (z1.1,(z1.2.1,(z1.2.2.1,(z1.2.2.2.1,(z1.2.2.2.2.1,(z1.2.2.2.2.2.1,(z1.2.2.2.2.2.2.1,(z1.2.2.2.2.2.2.2.1,z1.2.2.2.2.2.2.2.2.1))))))))))))
def Xu (x:Fk):tqO:=(Ao (Aw (Zdj x) ([],([],(0,(false,([],(0,([],(0,(0,0)))))))))) (fun (z1:Zbu)=>(cnd (iEq z1.2.2.2.2.2.2.2.1
 0) (some ((([],([],(0,false))),(([],(0,[])),(0,0))),false)) (bnd (Jg ((z1.1,(z1.2.1,(z1.2.2.1,z1.2.2.2.1))),((z1.2.2.2.2.1,(z1.2.2.2.2.2.1,
 z1.2.2.2.2.2.2.1)),z1.2.2.2.2.2.2.2))) (fun z2=>(cnd (Ag z2) (some ((([],([],(0,false))),(([],(0,[])),(0,0))),false)) (bnd (Px ((z1.1,(z1.2.1,
 (z1.2.2.1,z1.2.2.2.1))),((z1.2.2.2.2.1,(z1.2.2.2.2.2.1,z1.2.2.2.2.2.2.1)),z1.2.2.2.2.2.2.2))) (fun z3=>(some (z3,true))))))))))
def Zc1 (x:Pn):Lg:=(cnd x.2.2 (some (0,(x.2.1,true))) (cnd (iGe x.2.1 (Ah x.1)) (some (0,(x.2.1,true))) (bnd (idx x.1 (A9 .i64 (Aj .i64
 x.2.1 1) 1)) (fun z1=>(some ((Ai .i64 (y2i z1)),((Aj .i64 x.2.1 1),x.2.2)))))))
def Xz (x:Zii):C3:=(cnd (iEq x.1.1 x.2.1) (some (sEq x.1.2 x.2.2)) (some false))
def X3 (x:Ycd):C3:=(cnd (sEq x.1.1 x.2.1) (bnd (Xz (x.1.2.1,x.2.2.1)) (fun z1=>(cnd z1 (bnd (Xz (x.1.2.2.1,
 x.2.2.2.1)) (fun z2=>(cnd z2 (cnd (iEq x.1.2.2.2.1 x.2.2.2.2.1) (some (bEq x.1.2.2.2.2 x.2.2.2.2.2)) (some false)) (some false)))) (some false)))) (some false))
def Zdr (x:tqK):(Int)->Option Rh:=fun (z1:Int)=>(cnd (iLt z1 (Ah x.1.1)) (bnd (idx x.1.1 z1) (fun z2=>(bnd (idx x.2.1 z1) (fun z3=>(bnd (X3 (z2,z3)) (fun z4=>(cnd (Ag z4) (some (.inr (.inr false))) (some (.inl (Aj .i64 z1 1)))))))))) (some (.inr (.inl ()))))
def Zds (x:tqK):(Int)->Option ((Int) ⊕ Bool):=fun (z2:Int)=>(cnd (iLt z2 (Ah x.1.2.2)) (bnd (idx x.1.2.2 z2) (fun z3=>(bnd (idx
 x.2.2.2 z2) (fun z4=>(cnd (Ag (zEq [z3.1,z3.2.1,z3.2.2] [z4.1,z4.2.1,z4.2.2])) (some (.inr false)) (some (.inl (Aj .i64 z2 1)))))))) (some (.inr true)))
def Et (x:tqK):C3:=(cnd (iNe (Ah x.1.1) (Ah x.2.1)) (some false) (cnd (iNe x.1.2.1 x.2.2.1) (some false) (cnd (iNe (Ah x.1.2.2) (Ah x.2.2.2))
 (some false) (Ao (Aw (Zdr x) 0) (fun (z1:Unit)=>(Aw (Zds x) 0))))))
def Zct (x:(List UInt8)):(Option tqD):=(bnd (Zc4 x) (fun z1=>(bnd (Jj ((x,(0,z1)),[8,8,36])) (fun z2=>(bnd
 (Zc3 ((x,z2.2),z2.1)) (fun z3=>(bnd (Uv (x,z3.2)) (fun z4=>(bnd (D5 ((x,z4.2),256)) (fun z5=>(some (z3.1,(z4.1,
 z5.1)))))))))))))
def Zdh (z1:Fk) (z3:Int):Po->Option Zie:=fun (z4:Po)=>(cnd (iLt z4.2 (Ah z1.2.1)) (Ao (bnd (idx z1.2.1 z4.2) (fun z5 =>
 (cnd (iLt z4.2 30) (chk (iLe 0 z4.2) (cnd (iEq (Aq .i64 (Bh .i64 z3 z4.2) 1) 1) (bnd (Fv [z5.2]) (fun z6=>(bnd (idx z4.1 z5.1) (fun z7=>(some (.inl (Bo z4.1 (nOf z5.1) z6))))))) (some (.inl z4.1)))) (some (.inl z4.1))))) (fun (z5:Ih)=>(some (.inl (z5,(Aj .i64 z4.2 1)))))) (some (.inr (.inl
 z4.1))))
def Xo (x:Zbv):Xd:=(bnd (J0 x.1) (fun z1=>(bnd (Jf x.1) (fun z2=>(cnd (Ag z2) (some z1) (Ao (bnd
 (Cm (x.2,(0,1073741823))) (fun z3=>(cnd (Ag z3) (some (.inl 0)) (some (.inl x.2))))) (fun (z3:Int)=>(Ao (Aw (Zdh z1 z3) (z1.1,0)) (fun
 (z4:Ih)=>(some (z4,([],((-1),false)))))))))))))
def Ziy (x:(List UInt8)):C3:=(bnd (Un x) (fun z1=>(cnd z1 (some true) (bnd (Zct x) (fun z2=>(bnd (Zcf (z2.1,
 z2.2.1)) (fun z3=>(bnd (Ug (z2.1.2.1,z2.2.1)) (fun z4=>(bnd (Px z2.1) (fun z5=>(bnd (Xo (z3.1.1,z2.2.2)) (fun z6
 => (bnd (Xu z6) (fun z7=>(bnd (Xo (z5.1,0)) (fun z8=>(bnd (Xu z8) (fun z9=>(bnd (Ui (z3.1.1,z3.1.2.2.1)) (fun z10=>(bnd (Jg z2.1) (fun z11=>(cnd (Ag z11) (some false) (cnd (bNe z3.2 z4.2) (some false) (bnd (Jg z3.1) (fun z12=>(cnd (Ag z12)
 (some false) (cnd (Ag z7.2) (some false) (cnd (Ag z9.2) (some false) (cnd z3.2 (bnd (Et (z3.1.2.1,z4.1)) (fun z13=>(cnd (Ag z13) (some false) (cnd
 (Ag z3.2) (bnd (Et (z3.1.2.1,z2.1.2.1)) (fun z14=>(cnd (Ag z14) (some false) (bnd (Et (z7.1.2.1,z3.1.2.1)) (fun z15=>(cnd z15 (bnd
 (Et (z9.1.2.1,z2.1.2.1)) (fun z16=>(cnd z16 (bnd (Et (z5.2.1,z2.1.2.1)) (fun z17=>(cnd z17 (cnd (iEq z5.2.2.1 (Aj .i64 z2.1.2.2.1 1))
 (bnd (Et (z10.1,z3.1.2.1)) (fun z18=>(cnd z18 (cnd (iEq z10.2 z3.1.2.2.2) (cnd (iEq (Ah z3.1.1.2.1) 0) (bnd (Jg z7.1) (fun z19=>(some
 z19))) (some false)) (some false)) (some false)))) (some false)) (some false)))) (some false)))) (some false))))))) (bnd (Et (z7.1.2.1,z3.1.2.1)) (fun z14 =>
 (cnd z14 (bnd (Et (z9.1.2.1,z2.1.2.1)) (fun z15=>(cnd z15 (bnd (Et (z5.2.1,z2.1.2.1)) (fun z16=>(cnd z16 (cnd (iEq z5.2.2.1 (Aj .i64
 z2.1.2.2.1 1)) (bnd (Et (z10.1,z3.1.2.1)) (fun z17=>(cnd z17 (cnd (iEq z10.2 z3.1.2.2.2) (cnd (iEq (Ah z3.1.1.2.1) 0) (bnd (Jg z7.1) (fun z18=>(some z18))) (some false)) (some false)) (some false)))) (some false)) (some false)))) (some false)))) (some false)))))))) (cnd (Ag z3.2) (bnd (Et (z3.1.2.1,
 z2.1.2.1)) (fun z13=>(cnd (Ag z13) (some false) (bnd (Et (z7.1.2.1,z3.1.2.1)) (fun z14=>(cnd z14 (bnd (Et (z9.1.2.1,z2.1.2.1)) (fun
 z15=>(cnd z15 (bnd (Et (z5.2.1,z2.1.2.1)) (fun z16=>(cnd z16 (cnd (iEq z5.2.2.1 (Aj .i64 z2.1.2.2.1 1)) (bnd (Et (z10.1,z3.1.2.1))
 (fun z17=>(cnd z17 (cnd (iEq z10.2 z3.1.2.2.2) (cnd (iEq (Ah z3.1.1.2.1) 0) (bnd (Jg z7.1) (fun z18=>(some z18))) (some false)) (some false))
 (some false)))) (some false)) (some false)))) (some false)))) (some false))))))) (bnd (Et (z7.1.2.1,z3.1.2.1)) (fun z13=>(cnd z13 (bnd (Et
 (z9.1.2.1,z2.1.2.1)) (fun z14=>(cnd z14 (bnd (Et (z5.2.1,z2.1.2.1)) (fun z15=>(cnd z15 (cnd (iEq z5.2.2.1 (Aj .i64 z2.1.2.2.1 1)) (bnd
 (Et (z10.1,z3.1.2.1)) (fun z16=>(cnd z16 (cnd (iEq z10.2 z3.1.2.2.2) (cnd (iEq (Ah z3.1.1.2.1) 0) (bnd (Jg z7.1) (fun z17=>(some z17)))
 (some false)) (some false)) (some false)))) (some false)) (some false)))) (some false)))) (some false))))))))))))))))))))))))))))))))))))
end
end Go.Vs
