import Derived.Test.YtmfmjngkbddenaaGreatDoorVsW6
set_option linter.all false
namespace Go.Vs
noncomputable section
def Qq:List UInt8:=[240,240,240,240,240,240,240,240,240,240,240,240,240,240,240,240,240,240,240,240,240,240,240,240,240,240,240,240,240,240,
 240,240,240,240,240,240,240,240,240,240,240,240,240,240,240,240,240,240,240,240,240,240,240,240,240,240,240,240,240,240,240,240,240,240,240,
 240,240,240,240,240,240,240,240,240,240,240,240,240,240,240,240,240,240,240,240,240,240,240,240,240,240,240,240,240,240,240,240,240,240,240,
 240,240,240,240,240,240,240,240,240,240,240,240,240,240,240,240,240,240,240,240,240,240,240,240,240,240,240,240,241,241,241,241,241,241,241,
 241,241,241,241,241,241,241,241,241,241,241,241,241,241,241,241,241,241,241,241,241,241,241,241,241,241,241,241,241,241,241,241,241,241,241,
 241,241,241,241,241,241,241,241,241,241,241,241,241,241,241,241,241,241,241,241,241,241,241,241,2,2,2,2,2,2,2,2,2,2,2,2,2,2,2,2,2,2,2,
 2,2,2,2,2,2,2,2,2,2,2,19,3,3,3,3,3,3,3,3,3,3,3,3,35,3,3,52,4,4,4,68,241,241,241,241,241,241,241,241,241,241,241]
def V0:List UInt8:=[128,191,160,191,128,159,144,191,128,143,0,0,0,0,0,0,0,0,0,0,0,0,0,0,0,0,0,0,0,0,0,0]
instance glbI:Glb:=⟨[(0,Qq),(1,V0)]⟩
def al {β:Type}:Nat->Option β->Option β
 | 0,e=>e
 | n+1,e=>Vb e (al n e)
theorem P7 {β:Type}(n:Nat) (e:Option β):al n e=e:=by induction n with
 | zero=>rfl
 | succ n ih=>rw[al,ih,Yei]
abbrev C6:Type:=(Option Bool)
abbrev Zra:Type:=((List Int)×Int)
abbrev Zq9:Type:=((List Int)×Bool)
abbrev Ik:Type:=(List (List UInt8))
abbrev Jd:Type:=(Int×(Int×Int))
abbrev Ywx:Type:=(Bool×(Int×Int))
abbrev Zq8:Type:=(Int×(Int×Bool))
abbrev D7:Type:=((List UInt8)×Int)
abbrev D6:Type:=(Int×(List UInt8))
abbrev Yww:Type:=(Bool×(Int×Bool))
abbrev Ydg:Type:=((List UInt8)×Bool)
abbrev Zb8:Type:=(Option (Int×Bool))
abbrev F9:Type:=(Option (List UInt8))
abbrev Rn:Type:=((Int) ⊕ (Unit ⊕ Bool))
abbrev Jc:Type:=(List Jd)
abbrev Ps:Type:=(List D6)
abbrev Pr:Type:=(Ik×Int)
abbrev Ziw:Type:=((Int×Int) ⊕ (Int ⊕ Int))
abbrev Ydf:Type:=(Int×D6)
abbrev Xp:Type:=(Option Jd)
abbrev Lh:Type:=((List UInt8)×(Int×Int))
abbrev Ziv:Type:=(Int×D7)
abbrev Pq:Type:=((List UInt8)×(Int×Bool))
abbrev Ywv:Type:=(D6×Bool)
abbrev Lg:Type:=(Option Zq8)
abbrev Yde:Type:=(Option Yww)
abbrev Uj:Type:=(Option Ydg)
abbrev Zq7:Type:=(Ps×Int)
abbrev Ydd:Type:=(Option Jc)
abbrev Ui:Type:=(Jc×Bool)
abbrev Zq6:Type:=(Int×Ziv)
abbrev Zb7:Type:=(Lh×Int)
abbrev Ydc:Type:=(Int×(Bool×D6))
abbrev Zq5:Type:=(Option Lh)
abbrev Ydb:Type:=((List UInt8)×D6)
abbrev Yda:Type:=(D6×(Int×Bool))
abbrev Yc9:Type:=(Option Pq)
abbrev Yc8:Type:=(Option Ywv)
abbrev Zb6:Type:=(Jc×(Bool×Int))
abbrev Yc7:Type:=(Lh×(Int×Int))
abbrev Ziu:Type:=(Ps×(Int×Bool))
abbrev Zit:Type:=(D6×D6)
abbrev Ywu:Type:=(Option Yda)
abbrev Zb5:Type:=(Jc×Jd)
abbrev Yc6:Type:=((Int×Int) ⊕ (Int ⊕ Ziw))
abbrev Zis:Type:=(Ps×(Int×(Bool×Int)))
abbrev Zq4:Type:=(D7 ⊕ ((List UInt8) ⊕ Ydg))
abbrev Fk:Type:=(Ik×Ziu)
abbrev Zb4:Type:=(Fk×Int)
abbrev Zq3:Type:=(Ik×Zis)
abbrev Yc5:Type:=(Fk×Bool)
abbrev Xo:Type:=(Option Fk)
abbrev Yc4:Type:=((List UInt8)×(Int×((List UInt8)×(Int×Pq))))
abbrev Ft:Type:=((List UInt8)×(D6×Yda))
abbrev Fs:Type:=(List Ft)
abbrev Ywt:Type:=(Ft×Int)
abbrev Zir:Type:=(Option Ft)
abbrev Zq2:Type:=(Ik×(Ps×(Int×(Bool×Jd))))
abbrev Yc3:Type:=(Fk×D6)
abbrev Uh:Type:=(Fs×Int)
abbrev Yc2:Type:=(Option Fs)
abbrev Xn:Type:=(Fs×Bool)
abbrev Yws:Type:=(Ft×(Int×Int))
abbrev Ywr:Type:=(Ft×(Int×Bool))
abbrev Yc1:Type:=((List UInt8)×Ft)
abbrev Ywq:Type:=((List UInt8)×((Int×F9)×((Int×F9)×(Int×Bool))))
abbrev Ywp:Type:=(Zq6 ⊕ (Ydf ⊕ Lh))
abbrev Rm:Type:=(List Ywq)
abbrev Ywo:Type:=(Option Yws)
abbrev Ywn:Type:=(Option Ywr)
abbrev Yc0:Type:=(Int×(Int×((List UInt8)×(Int×(Int×(Int×(Bool×((List UInt8)×(Int×Jd)))))))))
abbrev Ziq:Type:=(Int×((List UInt8)×(Int×(Int×(Int×(Bool×((List UInt8)×(Int×(Int×Jd)))))))))
abbrev Ywm:Type:=(Bool×(Int×((List UInt8)×(Int×(Int×(Int×(Bool×((List UInt8)×(Int×Jd)))))))))
abbrev Ycz:Type:=(Zb6 ⊕ (Ui ⊕ Jc))
abbrev Ywl:Type:=((List UInt8)×(Int×((List UInt8)×(Int×((List UInt8)×(Int×(Bool×((List UInt8)×Zq8))))))))
abbrev Zip:Type:=(Pr ⊕ (Ik ⊕ Fk))
abbrev Ef:Type:=(Fs×(Int×Jc))
abbrev Ycy:Type:=(Ef×Int)
abbrev Ywk:Type:=(Ef×Bool)
abbrev Ycx:Type:=(Option Ef)
abbrev Jx:Type:=(Int×(Ft×((List UInt8)×(Int×Jd))))
abbrev Ywj:Type:=(Zq7 ⊕ (Ps ⊕ Fk))
abbrev Ywi:Type:=(Ef×(Int×Int))
abbrev Ywh:Type:=(Option Ycy)
abbrev Ycw:Type:=(Ef×(List UInt8))
abbrev Ycv:Type:=(Option Ywk)
abbrev Nn:Type:=(List Jx)
abbrev Pp:Type:=(Nn×Int)
abbrev Ywg:Type:=(Jx×(Int×Int))
abbrev Ycu:Type:=(Int×(Int×Jx))
abbrev Yct:Type:=(Option Nn)
abbrev Ywf:Type:=(Int×(Int×(Jx×Bool)))
abbrev Ywe:Type:=(Option Ywg)
abbrev Ycs:Type:=(Ft×Ft)
abbrev Ywd:Type:=(Option Ywf)
abbrev Ycr:Type:=(Xn ⊕ Fs)
abbrev Zio:Type:=(Rm×Ft)
abbrev Ycq:Type:=(Fs×(Int×((List UInt8)×(Int×(Int×(Int×(Bool×((List UInt8)×(Int×Jd)))))))))
abbrev Zq1:Type:=(Fs×(Bool×(Rm×Int)))
abbrev Zq0:Type:=(Rm×(Fs×(Bool×Int)))
abbrev Zb3:Type:=(Ik×(Ps×(Int×(Bool×(Fs×(Int×(Jc×(Int×Int))))))))
abbrev Nm:Type:=(Fk×Ywi)
abbrev tqZ:Type:=(Rm×Ziq)
abbrev tqY:Type:=(Ik×(Ps×(Int×(Bool×(Fs×(Int×Zb5))))))
abbrev tqX:Type:=(Nm×Int)
abbrev tqW:Type:=(Nm×Bool)
abbrev tqV:Type:=(Bool×Nm)
abbrev tqU:Type:=(Option Nm)
abbrev tqT:Type:=(Fk×(Int×Nn))
abbrev tqS:Type:=(Rm×(Int×((List UInt8)×(Int×(Int×(Int×(Bool×((List UInt8)×(Int×(Int×(Int×Jd)))))))))))
abbrev tqR:Type:=(Fs×Jx)
abbrev tqQ:Type:=(Nm×(Int×Int))
abbrev tqP:Type:=(Int×(Int×Zb3))
abbrev tqO:Type:=(Option tqW)
abbrev tqN:Type:=(Int×(Int×tqY))
abbrev tqM:Type:=(Option tqQ)
abbrev tqL:Type:=(Rm×Jx)
abbrev tqK:Type:=(Ef×Ef)
abbrev tqJ:Type:=(Fs×(Int×(Jc×Ef)))
abbrev tqI:Type:=(Fs×(Int×(Jc×(Fs×(Int×(Jc×Int))))))
abbrev tqH:Type:=(Ef×Jx)
abbrev tqF:Type:=(Uh ⊕ (Fs ⊕ Ef))
abbrev tqE:Type:=(Nm×Jx)
abbrev tqD:Type:=(Nm×(Jx×Int))
abbrev tqC:Type:=(Pp ⊕ (Nn ⊕ Nn))
abbrev tqB:Type:=(tqI ⊕ (tqJ ⊕ Ycy))
abbrev tqA:Type:=(tqY ⊕ (Zb3 ⊕ tqW))
def Uw (x:(List UInt8)):C6:=(some (iGt (Ah x) 1048576))
def Zd8 (x:(List UInt8)):(Int×Int)->Option Ziw:=fun (z1:(Int×Int))=>(cnd (iLt z1.2 (Ah x)) (cnd (iLt z1.2 4000) (bnd (idx x z1.2) (fun z2=>(some (.inl ((Aq .i64 (Aj .i64 (Aj .i64 (Dd .i64 z1.1 137) (Ai .i64 (y2i z2))) 11) 1073741823),(Aj .i64 z1.2 1)))))) (some (.inr (.inl z1.1)))) (some
 (.inr (.inl z1.1))))
def Zdd (x:(List UInt8)):(Option Int):=(Ao (Aw (Zd8 x) ((Aj .i64 953953 (Ah x)),0)) (fun (z1:Int)=>(some z1)))
def B8 (x:Jd):C6:=(cnd (iGe x.1 x.2.1) (some (iLe x.1 x.2.2)) (some false))
def Zd2 (x:Int):Pr->Option Zip:=fun (z2:Pr)=>(cnd (iLt z2.2 x) (chk (A0 (z2.1.length+1) 24) (some (.inl ((Al z2.1 [[]]),(Aj .i64
 z2.2 1))))) (some (.inr (.inl z2.1))))
def Zc1 (x:Int):Xo:=(bnd (B8 (x,(1,64))) (fun z1=>(cnd (Ag z1) (some ([],([],(0,false)))) (Ao (Aw (Zd2 x) ([],
 0)) (fun (z2:Ik)=>(some (z2,([],((-1),false)))))))))
def N0 (x:D6):(Option D6):=(chk (A0 (0+x.2.length) 1) (some (x.1,(Al [] x.2))))
def J5 (x:Ft):Zir:=(bnd (N0 (x.2.1.1,x.2.1.2)) (fun z1=>(bnd (N0 (x.2.2.1.1,x.2.2.1.2)) (fun z2=>(some (x.1,
 ((z1.1,z1.2),((z2.1,z2.2),(x.2.2.2.1,x.2.2.2.2)))))))))
def Zjs (x:Ef):Pp->Option tqC:=fun (z1:Pp)=>(cnd (iLt z1.2 (Ah x.1)) (bnd (idx x.1 z1.2) (fun z2=>(bnd (J5 (z2.1,
 ((z2.2.1.1,z2.2.1.2),((z2.2.2.1.1,z2.2.2.1.2),(z2.2.2.2.1,z2.2.2.2.2))))) (fun z3=>(chk (A0 (z1.1.length+1) 152) (some (.inl ((Al z1.1 [(1,((z3.1,
 ((z3.2.1.1,z3.2.1.2),((z3.2.2.1.1,z3.2.2.1.2),(z3.2.2.2.1,z3.2.2.2.2)))),([],(0,(0,(0,0))))))]),(Aj .i64 z1.2 1))))))))) (some (.inr (.inl z1.1))))
def Zjt (x:Ef):Pp->Option tqC:=fun (z2:Pp)=>(cnd (iLt z2.2 (Ah x.2.2)) (bnd (idx x.2.2 z2.2) (fun z3=>(bnd (idx x.2.2 z2.2)
 (fun z4=>(bnd (idx x.2.2 z2.2) (fun z5=>(chk (A0 (z2.1.length+1) 152) (some (.inl ((Al z2.1 [(4,(([],((0,[]),((0,[]),(0,false)))),([],(0,
 (z3.1,(z4.2.1,z5.2.2))))))]),(Aj .i64 z2.2 1))))))))))) (some (.inr (.inl z2.1))))
def Ym (x:Ef):Yct:=(Ao (Aw (Zjs x) ([(3,(([],((0,[]),((0,[]),(0,false)))),([],(x.2.1,(0,(0,0))))))],0)) (fun (z1:Nn)
 => (Ao (Aw (Zjt x) (z1,0)) (fun (z2:Nn)=>(some z2)))))
def U6 (x:(Int×Int)):(Option Int):=(some (Aj .i64 (Aj .i64 2 (Dd .i64 30 (De x.1 2))) x.2))
def P3 (x:D6):C6:=(cnd (iEq x.1 0) (some (iEq (Ah x.2) 0)) (some false))
def Zdb (x:Ft):C6:=(cnd (sEq x.1 []) (bnd (P3 (x.2.1.1,x.2.1.2)) (fun z1=>(cnd z1 (bnd (P3 (x.2.2.1.1,x.2.2.1.2)) (fun
 z2=>(cnd z2 (cnd (iEq x.2.2.2.1 0) (some (Ag x.2.2.2.2)) (some false)) (some false)))) (some false)))) (some false))
def Y4 (x:(List UInt8)):(Int)->Option Rn:=fun (z1:Int)=>(cnd (iLt z1 (Ah x)) (bnd (idx x z1) (fun z2=>(bnd (B8 ((Ai .i64
 (y2i z2)),(97,122))) (fun z3=>(cnd (Ag z3) (bnd (idx x z1) (fun z4=>(bnd (B8 ((Ai .i64 (y2i z4)),(48,57))) (fun z5=>(cnd (Ag
 z5) (some (.inr (.inr false))) (some (.inl (Aj .i64 z1 1)))))))) (some (.inl (Aj .i64 z1 1)))))))) (some (.inr (.inl ()))))
def R4 (x:(List UInt8)):C6:=(Ao (Aw (Y4 x) 0) (fun (z1:Unit)=>(bnd (B8 ((Ah x),(1,6))) (fun z2=>(some z2)))))
def Dl (x:Ft):C6:=(some (iEq (Aq .i64 x.2.2.2.1 1) 1))
def Cr (x:Ft):C6:=(some (iEq (Aq .i64 x.2.2.2.1 2) 2))
def R8 (x:Int):C6:=(bnd (B8 (x,(0,5))) (fun z1=>(some z1)))
def Nx (x:D6):C6:=(bnd (R8 x.1) (fun z1=>(cnd z1 (some (iLe (Ah x.2) 20)) (some false))))
def Zdf (x:UInt8):(Option Int):=(cnd (iLt (y2i x) (y2i (u8 128))) (some 1) (bnd (B8 ((Ai .i64 (y2i x)),(194,223))) (fun z1=>(cnd z1
 (some 2) (bnd (B8 ((Ai .i64 (y2i x)),(224,239))) (fun z2=>(cnd z2 (some 3) (bnd (B8 ((Ai .i64 (y2i x)),(240,244))) (fun z3=>(cnd z3
 (some 4) (some 0)))))))))))
def R6 (x:Int):C6:=(bnd (B8 (x,(0,1114111))) (fun z1=>(cnd z1 (bnd (B8 (x,(55296,57343))) (fun z2=>(some (Ag
 z2)))) (some false))))
def Ny (x:D7):F9:=(chk (A0 (0+x.1.length) 1) (bnd (R6 x.2) (fun z1=>(cnd (Ag z1) (some (Al [] x.1)) (cnd (iLe x.2 127)
 (chk (A0 ((Al [] x.1).length+1) 1) (some (Al (Al [] x.1) [(u8 (Ai .u8 x.2))]))) (cnd (iLe x.2 2047) (chk (A0 ((Al [] x.1).length+2) 1) (some (Al (Al []
 x.1) [(u8 (Ai .u8 (iOr .i64 192 (Bi .i64 x.2 6)))),(u8 (Ai .u8 (iOr .i64 128 (Aq .i64 x.2 63))))]))) (cnd (iLe x.2 65535) (chk (A0 ((Al [] x.1).length+3) 1)
 (some (Al (Al [] x.1) [(u8 (Ai .u8 (iOr .i64 224 (Bi .i64 x.2 12)))),(u8 (Ai .u8 (iOr .i64 128 (Aq .i64 (Bi .i64 x.2 6) 63)))),(u8 (Ai .u8 (iOr .i64 128
 (Aq .i64 x.2 63))))]))) (chk (A0 ((Al [] x.1).length+4) 1) (some (Al (Al [] x.1) [(u8 (Ai .u8 (iOr .i64 240 (Bi .i64 x.2 18)))),(u8 (Ai .u8 (iOr .i64 128
 (Aq .i64 (Bi .i64 x.2 12) 63)))),(u8 (Ai .u8 (iOr .i64 128 (Aq .i64 (Bi .i64 x.2 6) 63)))),(u8 (Ai .u8 (iOr .i64 128 (Aq .i64 x.2 63))))]))))))))))
def N4 (x:D7) (z3:Int):(Int×Int)->Option ((Int×Int) ⊕ (Int ⊕ Zq8)):=fun (z6:(Int×Int))=>(cnd (iLt z6.2 z3) (bnd (idx x.1 (Aj .i64
 x.2 z6.2)) (fun z7=>(cnd (iNe (y2i (u8 (Aq .u8 (y2i z7) (y2i (u8 192))))) (y2i (u8 128))) (some (.inr (.inr (0,(0,false))))) (bnd (idx x.1 (Aj .i64 x.2 z6.2))
 (fun z8=>(some (.inl ((iOr .i64 (B9 .i64 z6.1 6) (Ai .i64 (y2i (u8 (Aq .u8 (y2i z8) (y2i (u8 63))))))),(Aj .i64 z6.2 1))))))))) (some (.inr (.inl z6.1))))
def Yj (x:D7):Lg:=(bnd (B8 (x.2,(0,(Ba .i64 (Ah x.1) 1)))) (fun z1=>(cnd (Ag z1) (some (0,(0,false))) (bnd (idx x.1 x.2)
 (fun z2=>(bnd (Zdf z2) (fun z3=>(cnd (iEq z3 0) (some (0,(0,false))) (cnd (iGt z3 (Ba .i64 (Ah x.1) x.2)) (some (0,(0,false))) (bnd (idx x.1
 x.2) (fun z4=>(Ao (cnd (iGt z3 1) (chk (iLe 0 (Ai .u64 z3)) (some (.inl (Aq .i64 (Ai .i64 (y2i z4)) (Bi .i64 127 (Ai .u64 z3)))))) (some (.inl (Ai
 .i64 (y2i z4))))) (fun (z5:Int)=>(Ao (Aw (N4 x z3) (z5,1)) (fun (z6:Int)=>(bnd (R6 z6) (fun z7=>(cnd (Ag z7) (some (0,(0,false)))
 (bnd (Ny ([],z6)) (fun z8=>(chk (Di x.2 (Aj .i64 x.2 z3) (Ah x.1)) (cnd (Ag (sEq z8 (Br ((nOf (Aj .i64 x.2 z3))-(nOf x.2)) (Dw
 (nOf x.2) x.1)))) (some (0,(0,false))) (some (z6,((Aj .i64 x.2 z3),true)))))))))))))))))))))))))
def Zc7 (x:(Int×Int)):Zb8:=(cnd (iEq x.1 164) (bnd (B8 (x.2,(161,243))) (fun z1=>(cnd z1 (some ((Ba .i64 (Aj .i64 12353 x.2)
 161),true)) (cnd (iEq x.1 165) (bnd (B8 (x.2,(161,246))) (fun z2=>(cnd z2 (some ((Ba .i64 (Aj .i64 12449 x.2) 161),true)) (some (0,false))))) (some (0,
 false)))))) (cnd (iEq x.1 165) (bnd (B8 (x.2,(161,246))) (fun z1=>(cnd z1 (some ((Ba .i64 (Aj .i64 12449 x.2) 161),true)) (some (0,false))))) (some (0,
 false))))
def Zc4 (x:D7):Lg:=(bnd (B8 (x.2,(0,(Ba .i64 (Ah x.1) 1)))) (fun z1=>(cnd (Ag z1) (some (0,(0,false))) (bnd (idx x.1 x.2)
 (fun z2=>(cnd (iLt (y2i z2) (y2i (u8 128))) (bnd (idx x.1 x.2) (fun z3=>(some ((Ai .i64 (y2i z3)),((Aj .i64 x.2 1),true))))) (cnd (iGe (Aj .i64
 x.2 1) (Ah x.1)) (some (0,(0,false))) (bnd (idx x.1 x.2) (fun z3=>(bnd (idx x.1 (Aj .i64 x.2 1)) (fun z4=>(bnd (Zc7 ((Ai .i64 (y2i z3)),
 (Ai .i64 (y2i z4)))) (fun z5=>(cnd (Ag z5.2) (some (0,(0,false))) (some (z5.1,((Aj .i64 x.2 2),true)))))))))))))))))
def Zrz (x:Int):(Option Int):=(cnd (iEq x 164) (some 8364) (cnd (iEq x 166) (some 352) (cnd (iEq x 168) (some 353) (cnd (iEq x 180) (some 381) (cnd (iEq
 x 184) (some 382) (cnd (iEq x 188) (some 338) (cnd (iEq x 189) (some 339) (cnd (iEq x 190) (some 376) (some x)))))))))
def Zry (x:Int):(Option Int):=(cnd (iGe x 224) (bnd (idx [1102,1072,1073,1094,1076,1077,1092,1075,1093,1080,1081,1082,1083,1084,1085,1086,
 1087,1103,1088,1089,1090,1091,1078,1074,1100,1099,1079,1096,1101,1097,1095,1098] (Ba .i64 x 224)) (fun z1=>(some (Ba .i64 z1 32)))) (cnd (iGe x 192)
 (bnd (idx [1102,1072,1073,1094,1076,1077,1092,1075,1093,1080,1081,1082,1083,1084,1085,1086,1087,1103,1088,1089,1090,1091,1078,1074,1100,1099,1079,1096,
 1101,1097,1095,1098] (Ba .i64 x 192)) (fun z1=>(some z1))) (cnd (iEq x 163) (some 1105) (cnd (iEq x 179) (some 1025) (some (-1))))))
def Zr0 (x:Int):(Option Int):=(cnd (iGe x 160) (some x) (bnd (idx [8364,(-1),8218,402,8222,8230,8224,8225,710,8240,352,8249,338,(-1),381,
 (-1),(-1),8216,8217,8220,8221,8226,8211,8212,732,8482,353,8250,339,(-1),382,376] (Ba .i64 x 128)) (fun z1=>(some z1))))
def Lp (x:(Int×Int)):Zb8:=(bnd (B8 (x.1,(1,4))) (fun z1=>(cnd (Ag z1) (some (0,false)) (bnd (B8 (x.2,(0,255))) (fun
 z2=>(cnd (Ag z2) (some (0,false)) (Ao (cnd (iGe x.2 128) (cnd (iEq x.1 2) (bnd (Zrz x.2) (fun z3=>(some (.inl z3)))) (cnd (iEq x.1 3) (bnd
 (Zry x.2) (fun z3=>(some (.inl z3)))) (cnd (iEq x.1 4) (bnd (Zr0 x.2) (fun z3=>(some (.inl z3)))) (some (.inl x.2))))) (some (.inl x.2))) (fun (z3
 : Int)=>(cnd (iLt z3 0) (some (0,false)) (some (z3,true)))))))))))
def Zdi (x:Ziv):Lg:=(cnd (iEq x.1 0) (bnd (Yj (x.2.1,x.2.2)) (fun z1=>(some (z1.1,(z1.2.1,z1.2.2))))) (cnd (iEq x.1 5) (bnd
 (Zc4 (x.2.1,x.2.2)) (fun z1=>(some (z1.1,(z1.2.1,z1.2.2))))) (bnd (idx x.2.1 x.2.2) (fun z1=>(bnd (Lp (x.1,(Ai .i64 (y2i z1))))
 (fun z2=>(some (z2.1,((Aj .i64 x.2.2 1),z2.2)))))))))
def Zjq (x:D6):D7->Option Zq4:=fun (z2:D7)=>(cnd (iLt z2.2 (Ah x.2)) (bnd (Zdi (x.1,(x.2,z2.2))) (fun z3=>(cnd (Ag
 z3.2.2) (some (.inr (.inr ([],false)))) (bnd (Ny (z2.1,z3.1)) (fun z4=>(some (.inl (z4,z3.2.1)))))))) (some (.inr (.inl z2.1))))
def Zc0 (x:D6):Uj:=(bnd (R8 x.1) (fun z1=>(cnd (Ag z1) (some ([],false)) (Ao (Aw (Zjq x) ([],0)) (fun (z2:(List
 UInt8))=>(some (z2,true)))))))
def Hy (x:D6):Uj:=(bnd (Nx (x.1,x.2)) (fun z1=>(cnd (Ag z1) (some ([],false)) (bnd (Zc0 (x.1,x.2)) (fun z2
 => (some (z2.1,z2.2)))))))
def Bx (x:Zit):C6:=(bnd (Hy (x.1.1,x.1.2)) (fun z1=>(bnd (Hy (x.2.1,x.2.2)) (fun z2=>(cnd z1.2 (cnd
 z2.2 (some (sEq z1.1 z2.1)) (some false)) (some false))))))
def Jj (x:Ft):C6:=(bnd (R4 x.1) (fun z1=>(cnd (Ag z1) (some false) (bnd (B8 (x.2.2.2.1,(1,3))) (fun z2=>(cnd
 (Ag z2) (some false) (bnd (Dl (x.1,((x.2.1.1,x.2.1.2),((x.2.2.1.1,x.2.2.1.2),(x.2.2.2.1,x.2.2.2.2))))) (fun z3=>(cnd (Ag z3) (bnd (P3
 (x.2.1.1,x.2.1.2)) (fun z4=>(cnd (Ag z4) (some false) (bnd (Cr (x.1,((x.2.1.1,x.2.1.2),((x.2.2.1.1,x.2.2.1.2),(x.2.2.2.1,x.2.2.2.2))))) (fun z5=>(cnd (Ag z5) (bnd (P3 (x.2.2.1.1,x.2.2.1.2)) (fun z6=>(cnd (Ag z6) (some false) (bnd (Hy (x.2.1.1,x.2.1.2)) (fun z7=>(bnd
 (Hy (x.2.2.1.1,x.2.2.1.2)) (fun z8=>(bnd (Dl (x.1,((x.2.1.1,x.2.1.2),((x.2.2.1.1,x.2.2.1.2),(x.2.2.2.1,x.2.2.2.2))))) (fun z9=>(cnd
 z9 (bnd (B8 (x.2.1.1,(1,5))) (fun z10=>(cnd (Ag z10) (some false) (bnd (Nx (x.2.1.1,x.2.1.2)) (fun z11=>(cnd (Ag z11) (some false) (bnd
 (Cr (x.1,((x.2.1.1,x.2.1.2),((x.2.2.1.1,x.2.2.1.2),(x.2.2.2.1,x.2.2.2.2))))) (fun z12=>(cnd z12 (cnd (iNe x.2.2.1.1 0) (some false) (cnd (Ag z8.2) (some
 false) (bnd (Dl (x.1,((x.2.1.1,x.2.1.2),((x.2.2.1.1,x.2.2.1.2),(x.2.2.2.1,x.2.2.2.2))))) (fun z13=>(cnd z13 (cnd (Ag z7.2) (cnd (Ag x.2.2.2.2) (some
 false) (bnd (Cr (x.1,((x.2.1.1,x.2.1.2),((x.2.2.1.1,x.2.2.1.2),(x.2.2.2.1,x.2.2.2.2))))) (fun z14=>(cnd z14 (some false) (cnd (iNe x.2.2.2.1 3) (some
 true) (bnd (Bx ((x.2.1.1,x.2.1.2),(x.2.2.1.1,x.2.2.1.2))) (fun z15=>(some z15)))))))) (cnd (iNe x.2.2.2.1 3) (some true) (bnd (Bx ((x.2.1.1,
 x.2.1.2),(x.2.2.1.1,x.2.2.1.2))) (fun z14=>(some z14))))) (cnd (iNe x.2.2.2.1 3) (some true) (bnd (Bx ((x.2.1.1,x.2.1.2),(x.2.2.1.1,x.2.2.1.2))) (fun
 z14=>(some z14))))))))) (bnd (Dl (x.1,((x.2.1.1,x.2.1.2),((x.2.2.1.1,x.2.2.1.2),(x.2.2.2.1,x.2.2.2.2))))) (fun z13=>(cnd z13 (cnd (Ag z7.2)
 (cnd (Ag x.2.2.2.2) (some false) (bnd (Cr (x.1,((x.2.1.1,x.2.1.2),((x.2.2.1.1,x.2.2.1.2),(x.2.2.2.1,x.2.2.2.2))))) (fun z14=>(cnd z14 (some false) (cnd
 (iNe x.2.2.2.1 3) (some true) (bnd (Bx ((x.2.1.1,x.2.1.2),(x.2.2.1.1,x.2.2.1.2))) (fun z15=>(some z15)))))))) (cnd (iNe x.2.2.2.1 3) (some true) (bnd
 (Bx ((x.2.1.1,x.2.1.2),(x.2.2.1.1,x.2.2.1.2))) (fun z14=>(some z14))))) (cnd (iNe x.2.2.2.1 3) (some true) (bnd (Bx ((x.2.1.1,x.2.1.2),
 (x.2.2.1.1,x.2.2.1.2))) (fun z14=>(some z14)))))))))))))))) (bnd (Cr (x.1,((x.2.1.1,x.2.1.2),((x.2.2.1.1,x.2.2.1.2),(x.2.2.2.1,x.2.2.2.2))))) (fun z10=>(cnd z10 (cnd (iNe x.2.2.1.1 0) (some false) (cnd (Ag z8.2) (some false) (bnd (Dl (x.1,((x.2.1.1,x.2.1.2),((x.2.2.1.1,x.2.2.1.2),(x.2.2.2.1,x.2.2.2.2)))))
 (fun z11=>(cnd z11 (cnd (Ag z7.2) (cnd (Ag x.2.2.2.2) (some false) (bnd (Cr (x.1,((x.2.1.1,x.2.1.2),((x.2.2.1.1,x.2.2.1.2),(x.2.2.2.1,x.2.2.2.2)))))
 (fun z12=>(cnd z12 (some false) (cnd (iNe x.2.2.2.1 3) (some true) (bnd (Bx ((x.2.1.1,x.2.1.2),(x.2.2.1.1,x.2.2.1.2))) (fun z13=>(some
 z13)))))))) (cnd (iNe x.2.2.2.1 3) (some true) (bnd (Bx ((x.2.1.1,x.2.1.2),(x.2.2.1.1,x.2.2.1.2))) (fun z12=>(some z12))))) (cnd (iNe x.2.2.2.1 3) (some
 true) (bnd (Bx ((x.2.1.1,x.2.1.2),(x.2.2.1.1,x.2.2.1.2))) (fun z12=>(some z12))))))))) (bnd (Dl (x.1,((x.2.1.1,x.2.1.2),((x.2.2.1.1,x.2.2.1.2),
 (x.2.2.2.1,x.2.2.2.2))))) (fun z11=>(cnd z11 (cnd (Ag z7.2) (cnd (Ag x.2.2.2.2) (some false) (bnd (Cr (x.1,((x.2.1.1,x.2.1.2),((x.2.2.1.1,x.2.2.1.2),
 (x.2.2.2.1,x.2.2.2.2))))) (fun z12=>(cnd z12 (some false) (cnd (iNe x.2.2.2.1 3) (some true) (bnd (Bx ((x.2.1.1,x.2.1.2),(x.2.2.1.1,x.2.2.1.2))) (fun
 z13=>(some z13)))))))) (cnd (iNe x.2.2.2.1 3) (some true) (bnd (Bx ((x.2.1.1,x.2.1.2),(x.2.2.1.1,x.2.2.1.2))) (fun z12=>(some z12))))) (cnd
 (iNe x.2.2.2.1 3) (some true) (bnd (Bx ((x.2.1.1,x.2.1.2),(x.2.2.1.1,x.2.2.1.2))) (fun z12=>(some z12)))))))))))))))))))) (bnd (Hy (x.2.1.1,
 x.2.1.2)) (fun z6=>(bnd (Hy (x.2.2.1.1,x.2.2.1.2)) (fun z7=>(bnd (Dl (x.1,((x.2.1.1,x.2.1.2),((x.2.2.1.1,x.2.2.1.2),(x.2.2.2.1,
 x.2.2.2.2))))) (fun z8=>(cnd z8 (bnd (B8 (x.2.1.1,(1,5))) (fun z9=>(cnd (Ag z9) (some false) (bnd (Nx (x.2.1.1,x.2.1.2)) (fun z10=>(cnd (Ag z10) (some false) (bnd (Cr (x.1,((x.2.1.1,x.2.1.2),((x.2.2.1.1,x.2.2.1.2),(x.2.2.2.1,x.2.2.2.2))))) (fun z11=>(cnd z11 (cnd (iNe
 x.2.2.1.1 0) (some false) (cnd (Ag z7.2) (some false) (bnd (Dl (x.1,((x.2.1.1,x.2.1.2),((x.2.2.1.1,x.2.2.1.2),(x.2.2.2.1,x.2.2.2.2))))) (fun z12=>(cnd
 z12 (cnd (Ag z6.2) (cnd (Ag x.2.2.2.2) (some false) (bnd (Cr (x.1,((x.2.1.1,x.2.1.2),((x.2.2.1.1,x.2.2.1.2),(x.2.2.2.1,x.2.2.2.2))))) (fun z13=>(cnd
 z13 (some false) (cnd (iNe x.2.2.2.1 3) (some true) (bnd (Bx ((x.2.1.1,x.2.1.2),(x.2.2.1.1,x.2.2.1.2))) (fun z14=>(some z14)))))))) (cnd (iNe x.2.2.2.1 3)
 (some true) (bnd (Bx ((x.2.1.1,x.2.1.2),(x.2.2.1.1,x.2.2.1.2))) (fun z13=>(some z13))))) (cnd (iNe x.2.2.2.1 3) (some true) (bnd (Bx ((x.2.1.1,
 x.2.1.2),(x.2.2.1.1,x.2.2.1.2))) (fun z13=>(some z13))))))))) (bnd (Dl (x.1,((x.2.1.1,x.2.1.2),((x.2.2.1.1,x.2.2.1.2),(x.2.2.2.1,x.2.2.2.2))))) (fun
 z12=>(cnd z12 (cnd (Ag z6.2) (cnd (Ag x.2.2.2.2) (some false) (bnd (Cr (x.1,((x.2.1.1,x.2.1.2),((x.2.2.1.1,x.2.2.1.2),(x.2.2.2.1,x.2.2.2.2))))) (fun
 z13=>(cnd z13 (some false) (cnd (iNe x.2.2.2.1 3) (some true) (bnd (Bx ((x.2.1.1,x.2.1.2),(x.2.2.1.1,x.2.2.1.2))) (fun z14=>(some z14))))))))
 (cnd (iNe x.2.2.2.1 3) (some true) (bnd (Bx ((x.2.1.1,x.2.1.2),(x.2.2.1.1,x.2.2.1.2))) (fun z13=>(some z13))))) (cnd (iNe x.2.2.2.1 3) (some true) (bnd
 (Bx ((x.2.1.1,x.2.1.2),(x.2.2.1.1,x.2.2.1.2))) (fun z13=>(some z13)))))))))))))))) (bnd (Cr (x.1,((x.2.1.1,x.2.1.2),((x.2.2.1.1,x.2.2.1.2),
 (x.2.2.2.1,x.2.2.2.2))))) (fun z9=>(cnd z9 (cnd (iNe x.2.2.1.1 0) (some false) (cnd (Ag z7.2) (some false) (bnd (Dl (x.1,((x.2.1.1,x.2.1.2),((x.2.2.1.1,
 x.2.2.1.2),(x.2.2.2.1,x.2.2.2.2))))) (fun z10=>(cnd z10 (cnd (Ag z6.2) (cnd (Ag x.2.2.2.2) (some false) (bnd (Cr (x.1,((x.2.1.1,x.2.1.2),((x.2.2.1.1,
 x.2.2.1.2),(x.2.2.2.1,x.2.2.2.2))))) (fun z11=>(cnd z11 (some false) (cnd (iNe x.2.2.2.1 3) (some true) (bnd (Bx ((x.2.1.1,x.2.1.2),(x.2.2.1.1,
 x.2.2.1.2))) (fun z12=>(some z12)))))))) (cnd (iNe x.2.2.2.1 3) (some true) (bnd (Bx ((x.2.1.1,x.2.1.2),(x.2.2.1.1,x.2.2.1.2))) (fun z11=>(some
 z11))))) (cnd (iNe x.2.2.2.1 3) (some true) (bnd (Bx ((x.2.1.1,x.2.1.2),(x.2.2.1.1,x.2.2.1.2))) (fun z11=>(some z11))))))))) (bnd (Dl (x.1,
 ((x.2.1.1,x.2.1.2),((x.2.2.1.1,x.2.2.1.2),(x.2.2.2.1,x.2.2.2.2))))) (fun z10=>(cnd z10 (cnd (Ag z6.2) (cnd (Ag x.2.2.2.2) (some false) (bnd (Cr (x.1,
 ((x.2.1.1,x.2.1.2),((x.2.2.1.1,x.2.2.1.2),(x.2.2.2.1,x.2.2.2.2))))) (fun z11=>(cnd z11 (some false) (cnd (iNe x.2.2.2.1 3) (some true) (bnd (Bx
 ((x.2.1.1,x.2.1.2),(x.2.2.1.1,x.2.2.1.2))) (fun z12=>(some z12)))))))) (cnd (iNe x.2.2.2.1 3) (some true) (bnd (Bx ((x.2.1.1,x.2.1.2),(x.2.2.1.1,
 x.2.2.1.2))) (fun z11=>(some z11))))) (cnd (iNe x.2.2.2.1 3) (some true) (bnd (Bx ((x.2.1.1,x.2.1.2),(x.2.2.1.1,x.2.2.1.2))) (fun z11=>(some
 z11))))))))))))))))))))))) (bnd (Cr (x.1,((x.2.1.1,x.2.1.2),((x.2.2.1.1,x.2.2.1.2),(x.2.2.2.1,x.2.2.2.2))))) (fun z4=>(cnd (Ag z4) (bnd (P3
 (x.2.2.1.1,x.2.2.1.2)) (fun z5=>(cnd (Ag z5) (some false) (bnd (Hy (x.2.1.1,x.2.1.2)) (fun z6=>(bnd (Hy (x.2.2.1.1,x.2.2.1.2)) (fun
 z7=>(bnd (Dl (x.1,((x.2.1.1,x.2.1.2),((x.2.2.1.1,x.2.2.1.2),(x.2.2.2.1,x.2.2.2.2))))) (fun z8=>(cnd z8 (bnd (B8 (x.2.1.1,(1,5))) (fun
 z9=>(cnd (Ag z9) (some false) (bnd (Nx (x.2.1.1,x.2.1.2)) (fun z10=>(cnd (Ag z10) (some false) (bnd (Cr (x.1,((x.2.1.1,x.2.1.2),
 ((x.2.2.1.1,x.2.2.1.2),(x.2.2.2.1,x.2.2.2.2))))) (fun z11=>(cnd z11 (cnd (iNe x.2.2.1.1 0) (some false) (cnd (Ag z7.2) (some false) (bnd (Dl (x.1,
 ((x.2.1.1,x.2.1.2),((x.2.2.1.1,x.2.2.1.2),(x.2.2.2.1,x.2.2.2.2))))) (fun z12=>(cnd z12 (cnd (Ag z6.2) (cnd (Ag x.2.2.2.2) (some false) (bnd (Cr (x.1,
 ((x.2.1.1,x.2.1.2),((x.2.2.1.1,x.2.2.1.2),(x.2.2.2.1,x.2.2.2.2))))) (fun z13=>(cnd z13 (some false) (cnd (iNe x.2.2.2.1 3) (some true) (bnd (Bx
 ((x.2.1.1,x.2.1.2),(x.2.2.1.1,x.2.2.1.2))) (fun z14=>(some z14)))))))) (cnd (iNe x.2.2.2.1 3) (some true) (bnd (Bx ((x.2.1.1,x.2.1.2),(x.2.2.1.1,
 x.2.2.1.2))) (fun z13=>(some z13))))) (cnd (iNe x.2.2.2.1 3) (some true) (bnd (Bx ((x.2.1.1,x.2.1.2),(x.2.2.1.1,x.2.2.1.2))) (fun z13=>(some
 z13))))))))) (bnd (Dl (x.1,((x.2.1.1,x.2.1.2),((x.2.2.1.1,x.2.2.1.2),(x.2.2.2.1,x.2.2.2.2))))) (fun z12=>(cnd z12 (cnd (Ag z6.2) (cnd (Ag x.2.2.2.2)
 (some false) (bnd (Cr (x.1,((x.2.1.1,x.2.1.2),((x.2.2.1.1,x.2.2.1.2),(x.2.2.2.1,x.2.2.2.2))))) (fun z13=>(cnd z13 (some false) (cnd (iNe x.2.2.2.1 3)
 (some true) (bnd (Bx ((x.2.1.1,x.2.1.2),(x.2.2.1.1,x.2.2.1.2))) (fun z14=>(some z14)))))))) (cnd (iNe x.2.2.2.1 3) (some true) (bnd (Bx
 ((x.2.1.1,x.2.1.2),(x.2.2.1.1,x.2.2.1.2))) (fun z13=>(some z13))))) (cnd (iNe x.2.2.2.1 3) (some true) (bnd (Bx ((x.2.1.1,x.2.1.2),(x.2.2.1.1,
 x.2.2.1.2))) (fun z13=>(some z13)))))))))))))))) (bnd (Cr (x.1,((x.2.1.1,x.2.1.2),((x.2.2.1.1,x.2.2.1.2),(x.2.2.2.1,x.2.2.2.2))))) (fun z9 =>
 (cnd z9 (cnd (iNe x.2.2.1.1 0) (some false) (cnd (Ag z7.2) (some false) (bnd (Dl (x.1,((x.2.1.1,x.2.1.2),((x.2.2.1.1,x.2.2.1.2),(x.2.2.2.1,x.2.2.2.2))))) (fun z10=>(cnd z10 (cnd (Ag z6.2) (cnd (Ag x.2.2.2.2) (some false) (bnd (Cr (x.1,((x.2.1.1,x.2.1.2),((x.2.2.1.1,x.2.2.1.2),(x.2.2.2.1,x.2.2.2.2))))) (fun z11=>(cnd z11 (some false) (cnd (iNe x.2.2.2.1 3) (some true) (bnd (Bx ((x.2.1.1,x.2.1.2),(x.2.2.1.1,x.2.2.1.2))) (fun z12=>(some z12)))))))) (cnd
 (iNe x.2.2.2.1 3) (some true) (bnd (Bx ((x.2.1.1,x.2.1.2),(x.2.2.1.1,x.2.2.1.2))) (fun z11=>(some z11))))) (cnd (iNe x.2.2.2.1 3) (some true) (bnd
 (Bx ((x.2.1.1,x.2.1.2),(x.2.2.1.1,x.2.2.1.2))) (fun z11=>(some z11))))))))) (bnd (Dl (x.1,((x.2.1.1,x.2.1.2),((x.2.2.1.1,x.2.2.1.2),
 (x.2.2.2.1,x.2.2.2.2))))) (fun z10=>(cnd z10 (cnd (Ag z6.2) (cnd (Ag x.2.2.2.2) (some false) (bnd (Cr (x.1,((x.2.1.1,x.2.1.2),((x.2.2.1.1,x.2.2.1.2),
 (x.2.2.2.1,x.2.2.2.2))))) (fun z11=>(cnd z11 (some false) (cnd (iNe x.2.2.2.1 3) (some true) (bnd (Bx ((x.2.1.1,x.2.1.2),(x.2.2.1.1,x.2.2.1.2))) (fun
 z12=>(some z12)))))))) (cnd (iNe x.2.2.2.1 3) (some true) (bnd (Bx ((x.2.1.1,x.2.1.2),(x.2.2.1.1,x.2.2.1.2))) (fun z11=>(some z11))))) (cnd
 (iNe x.2.2.2.1 3) (some true) (bnd (Bx ((x.2.1.1,x.2.1.2),(x.2.2.1.1,x.2.2.1.2))) (fun z11=>(some z11)))))))))))))))))))) (bnd (Hy (x.2.1.1,
 x.2.1.2)) (fun z5=>(bnd (Hy (x.2.2.1.1,x.2.2.1.2)) (fun z6=>(bnd (Dl (x.1,((x.2.1.1,x.2.1.2),((x.2.2.1.1,x.2.2.1.2),(x.2.2.2.1,
 x.2.2.2.2))))) (fun z7=>(cnd z7 (bnd (B8 (x.2.1.1,(1,5))) (fun z8=>(cnd (Ag z8) (some false) (bnd (Nx (x.2.1.1,x.2.1.2)) (fun z9
 => (cnd (Ag z9) (some false) (bnd (Cr (x.1,((x.2.1.1,x.2.1.2),((x.2.2.1.1,x.2.2.1.2),(x.2.2.2.1,x.2.2.2.2))))) (fun z10=>(cnd z10 (cnd (iNe x.2.2.1.1 0)
 (some false) (cnd (Ag z6.2) (some false) (bnd (Dl (x.1,((x.2.1.1,x.2.1.2),((x.2.2.1.1,x.2.2.1.2),(x.2.2.2.1,x.2.2.2.2))))) (fun z11=>(cnd z11 (cnd (Ag
 z5.2) (cnd (Ag x.2.2.2.2) (some false) (bnd (Cr (x.1,((x.2.1.1,x.2.1.2),((x.2.2.1.1,x.2.2.1.2),(x.2.2.2.1,x.2.2.2.2))))) (fun z12=>(cnd z12 (some false)
 (cnd (iNe x.2.2.2.1 3) (some true) (bnd (Bx ((x.2.1.1,x.2.1.2),(x.2.2.1.1,x.2.2.1.2))) (fun z13=>(some z13)))))))) (cnd (iNe x.2.2.2.1 3) (some true) (bnd
 (Bx ((x.2.1.1,x.2.1.2),(x.2.2.1.1,x.2.2.1.2))) (fun z12=>(some z12))))) (cnd (iNe x.2.2.2.1 3) (some true) (bnd (Bx ((x.2.1.1,x.2.1.2),
 (x.2.2.1.1,x.2.2.1.2))) (fun z12=>(some z12))))))))) (bnd (Dl (x.1,((x.2.1.1,x.2.1.2),((x.2.2.1.1,x.2.2.1.2),(x.2.2.2.1,x.2.2.2.2))))) (fun z11
 => (cnd z11 (cnd (Ag z5.2) (cnd (Ag x.2.2.2.2) (some false) (bnd (Cr (x.1,((x.2.1.1,x.2.1.2),((x.2.2.1.1,x.2.2.1.2),(x.2.2.2.1,x.2.2.2.2))))) (fun z12
 => (cnd z12 (some false) (cnd (iNe x.2.2.2.1 3) (some true) (bnd (Bx ((x.2.1.1,x.2.1.2),(x.2.2.1.1,x.2.2.1.2))) (fun z13=>(some z13)))))))) (cnd (iNe
 x.2.2.2.1 3) (some true) (bnd (Bx ((x.2.1.1,x.2.1.2),(x.2.2.1.1,x.2.2.1.2))) (fun z12=>(some z12))))) (cnd (iNe x.2.2.2.1 3) (some true) (bnd
 (Bx ((x.2.1.1,x.2.1.2),(x.2.2.1.1,x.2.2.1.2))) (fun z12=>(some z12)))))))))))))))) (bnd (Cr (x.1,((x.2.1.1,x.2.1.2),((x.2.2.1.1,x.2.2.1.2),
 (x.2.2.2.1,x.2.2.2.2))))) (fun z8=>(cnd z8 (cnd (iNe x.2.2.1.1 0) (some false) (cnd (Ag z6.2) (some false) (bnd (Dl (x.1,((x.2.1.1,x.2.1.2),((x.2.2.1.1,
 x.2.2.1.2),(x.2.2.2.1,x.2.2.2.2))))) (fun z9=>(cnd z9 (cnd (Ag z5.2) (cnd (Ag x.2.2.2.2) (some false) (bnd (Cr (x.1,((x.2.1.1,x.2.1.2),((x.2.2.1.1,
 x.2.2.1.2),(x.2.2.2.1,x.2.2.2.2))))) (fun z10=>(cnd z10 (some false) (cnd (iNe x.2.2.2.1 3) (some true) (bnd (Bx ((x.2.1.1,x.2.1.2),(x.2.2.1.1,
 x.2.2.1.2))) (fun z11=>(some z11)))))))) (cnd (iNe x.2.2.2.1 3) (some true) (bnd (Bx ((x.2.1.1,x.2.1.2),(x.2.2.1.1,x.2.2.1.2))) (fun z10=>(some
 z10))))) (cnd (iNe x.2.2.2.1 3) (some true) (bnd (Bx ((x.2.1.1,x.2.1.2),(x.2.2.1.1,x.2.2.1.2))) (fun z10=>(some z10))))))))) (bnd (Dl (x.1,
 ((x.2.1.1,x.2.1.2),((x.2.2.1.1,x.2.2.1.2),(x.2.2.2.1,x.2.2.2.2))))) (fun z9=>(cnd z9 (cnd (Ag z5.2) (cnd (Ag x.2.2.2.2) (some false) (bnd (Cr (x.1,
 ((x.2.1.1,x.2.1.2),((x.2.2.1.1,x.2.2.1.2),(x.2.2.2.1,x.2.2.2.2))))) (fun z10=>(cnd z10 (some false) (cnd (iNe x.2.2.2.1 3) (some true) (bnd (Bx
 ((x.2.1.1,x.2.1.2),(x.2.2.1.1,x.2.2.1.2))) (fun z11=>(some z11)))))))) (cnd (iNe x.2.2.2.1 3) (some true) (bnd (Bx ((x.2.1.1,x.2.1.2),(x.2.2.1.1,
 x.2.2.1.2))) (fun z10=>(some z10))))) (cnd (iNe x.2.2.2.1 3) (some true) (bnd (Bx ((x.2.1.1,x.2.1.2),(x.2.2.1.1,x.2.2.1.2))) (fun z10=>(some
 z10)))))))))))))))))))))))))))))
def Nz (x:Int):C6:=(bnd (B8 (x,(0,65535))) (fun z1=>(some z1)))
def Zjc (x:Jx):C6:=(cnd (iEq x.2.2.2.2.1 0) (cnd (iEq x.2.2.2.2.2.1 0) (cnd (iEq x.2.2.2.2.2.2 0) (some (iNe x.1 4)) (some false)) (some false)) (bnd
 (B8 (x.2.2.2.2.1,(1,9))) (fun z1=>(cnd z1 (bnd (Nz x.2.2.2.2.2.1) (fun z2=>(cnd z2 (bnd (B8 (x.2.2.2.2.2.2,(0,6))) (fun z3
 => (some z3))) (some false)))) (some false)))))
def U0 (x:Jx):C6:=(bnd (Zdb (x.2.1.1,((x.2.1.2.1.1,x.2.1.2.1.2),((x.2.1.2.2.1.1,x.2.1.2.2.1.2),(x.2.1.2.2.2.1,x.2.1.2.2.2.2))))) (fun
 z1=>(Ao (cnd (iEq x.1 1) (bnd (Jj (x.2.1.1,((x.2.1.2.1.1,x.2.1.2.1.2),((x.2.1.2.2.1.1,x.2.1.2.2.1.2),(x.2.1.2.2.2.1,x.2.1.2.2.2.2))))) (fun z2
 => (some (.inl (z2,((sEq x.2.2.1 []),(iEq x.2.2.2.1 0))))))) (cnd (iEq x.1 2) (bnd (R4 x.2.2.1) (fun z2=>(some (.inl (z1,(z2,(iEq x.2.2.2.1 0))))))) (cnd
 (iEq x.1 3) (bnd (B8 (x.2.2.2.1,(0,7))) (fun z2=>(some (.inl (z1,((sEq x.2.2.1 []),z2)))))) (some (.inl (z1,((sEq x.2.2.1 []),(iEq x.2.2.2.1 0)))))))) (fun
 (z2:(Bool×(Bool×Bool)))=>(bnd (B8 (x.1,(1,4))) (fun z3=>(cnd z3 (cnd z2.1 (cnd z2.2.1 (cnd z2.2.2 (bnd (Zjc (x.1,((x.2.1.1,((x.2.1.2.1.1,
 x.2.1.2.1.2),((x.2.1.2.2.1.1,x.2.1.2.2.1.2),(x.2.1.2.2.2.1,x.2.1.2.2.2.2)))),(x.2.2.1,(x.2.2.2.1,(x.2.2.2.2.1,(x.2.2.2.2.2.1,x.2.2.2.2.2.2))))))) (fun z4 =>
 (some z4))) (some false)) (some false)) (some false)) (some false))))))))
def J4 (x:D7):F9:=(chk (A0 (0+x.1.length) 1) (chk (A0 ((Al [] x.1).length+2) 1) (some (Al (Al [] x.1) [(u8 (Ai .u8 (Bi .i64 x.2
 8))),(u8 (Ai .u8 x.2))]))))
def R5 (x:((List UInt8)×(List UInt8))):F9:=(cnd (iGt (Ah x.2) 60) (chk (A0 (0+x.1.length) 1) (some (Al [] x.1))) (bnd (J4 (x.1,(Ah
 x.2))) (fun z1=>(chk (A0 (z1.length+x.2.length) 1) (some (Al z1 x.2))))))
def Zjb (x:Bool):(Option UInt8):=(cnd x (some (u8 1)) (some (u8 0)))
def U4 (x:Ydb):F9:=(chk (A0 (x.1.length+1) 1) (bnd (R5 ((Al x.1 [(u8 (Ai .u8 x.2.1))]),x.2.2)) (fun z1=>(some
 z1))))
def Yl (x:Yc1):F9:=(chk (A0 (0+x.1.length) 1) (bnd (Jj (x.2.1,((x.2.2.1.1,x.2.2.1.2),((x.2.2.2.1.1,x.2.2.2.1.2),(x.2.2.2.2.1,
 x.2.2.2.2.2))))) (fun z1=>(cnd (Ag z1) (some (Al [] x.1)) (bnd (R5 ((Al [] x.1),x.2.1)) (fun z2=>(bnd (Zjb x.2.2.2.2.2) (fun
 z3=>(chk (A0 (z2.length+2) 1) (Ao (bnd (Dl (x.2.1,((x.2.2.1.1,x.2.2.1.2),((x.2.2.2.1.1,x.2.2.2.1.2),(x.2.2.2.2.1,x.2.2.2.2.2))))) (fun z4
 => (cnd z4 (bnd (U4 ((Al z2 [(u8 (Ai .u8 x.2.2.2.2.1)),z3]),(x.2.2.1.1,x.2.2.1.2))) (fun z5=>(some (.inl z5)))) (some (.inl (Al z2 [(u8
 (Ai .u8 x.2.2.2.2.1)),z3])))))) (fun (z4:(List UInt8))=>(Ao (bnd (Cr (x.2.1,((x.2.2.1.1,x.2.2.1.2),((x.2.2.2.1.1,x.2.2.2.1.2),(x.2.2.2.2.1,
 x.2.2.2.2.2))))) (fun z5=>(cnd z5 (bnd (U4 (z4,(x.2.2.2.1.1,x.2.2.2.1.2))) (fun z6=>(some (.inl z6)))) (some (.inl z4))))) (fun (z5 :
 (List UInt8))=>(some z5))))))))))))))
def Zjw:(Int×Int)->Option Yc6:=fun (z3:(Int×Int))=>(cnd (iLt z3.2 8) (Ao (cnd (iGt (B9 .i64 z3.1 1) 65535) (some (.inl (K6 .i64 (B9 .i64
 z3.1 1) 69665))) (some (.inl (B9 .i64 z3.1 1)))) (fun (z4:Int)=>(some (.inl (z4,(Aj .i64 z3.2 1)))))) (some (.inr (.inl z3.1))))
def Zjx (x:(List UInt8)):(Int×Int)->Option Ziw:=fun (z1:(Int×Int))=>(cnd (iLt z1.2 (Ah x)) (Ao (bnd (idx x z1.2) (fun z2 =>
 (Aw (Zjw) ((K6 .i64 z1.1 (B9 .i64 (Ai .i64 (y2i z2)) 8)),0)))) (fun (z2:Int)=>(some (.inl (z2,(Aj .i64 z1.2 1)))))) (some (.inr (.inl z1.1))))
def Yo (x:(List UInt8)):(Option Int):=(Ao (Aw (Zjx x) (65535,0)) (fun (z1:Int)=>(some (Aq .i64 z1 65535))))
def Uz (x:Ycu):F9:=(bnd (U0 (x.2.2.1,((x.2.2.2.1.1,((x.2.2.2.1.2.1.1,x.2.2.2.1.2.1.2),((x.2.2.2.1.2.2.1.1,x.2.2.2.1.2.2.1.2),
 (x.2.2.2.1.2.2.2.1,x.2.2.2.1.2.2.2.2)))),(x.2.2.2.2.1,(x.2.2.2.2.2.1,(x.2.2.2.2.2.2.1,(x.2.2.2.2.2.2.2.1,x.2.2.2.2.2.2.2.2))))))) (fun z1=>(cnd (Ag z1) (some
 []) (bnd (Nz x.1) (fun z2=>(cnd (Ag z2) (some []) (bnd (Nz x.2.1) (fun z3=>(cnd (Ag z3) (some []) (al 3 (bnd (J4 ([],x.1)) (fun
 z4=>(bnd (J4 (z4,x.2.1)) (fun z5=>(chk (A0 (z5.length+1) 1) (Ao (cnd (iEq x.2.2.1 1) (bnd (Yl ((Al z5 [(u8 (Ai
 .u8 x.2.2.1))]),(x.2.2.2.1.1,((x.2.2.2.1.2.1.1,x.2.2.2.1.2.1.2),((x.2.2.2.1.2.2.1.1,x.2.2.2.1.2.2.1.2),(x.2.2.2.1.2.2.2.1,x.2.2.2.1.2.2.2.2)))))) (fun z6
 => (some (.inl z6)))) (cnd (iEq x.2.2.1 2) (bnd (R5 ((Al z5 [(u8 (Ai .u8 x.2.2.1))]),x.2.2.2.2.1)) (fun z6=>(some (.inl z6)))) (cnd (iEq x.2.2.1
 3) (chk (A0 ((Al z5 [(u8 (Ai .u8 x.2.2.1))]).length+1) 1) (some (.inl (Al (Al z5 [(u8 (Ai .u8 x.2.2.1))]) [(u8 (Ai .u8 x.2.2.2.2.2.1))])))) (some (.inl (Al
 z5 [(u8 (Ai .u8 x.2.2.1))])))))) (fun (z6:(List UInt8))=>(chk (A0 (z6.length+2) 1) (bnd (J4 ((Al z6 [(u8 (Ai .u8 x.2.2.2.2.2.2.1)),(u8 (Ai .u8
 x.2.2.2.2.2.2.2.2))]),x.2.2.2.2.2.2.2.1)) (fun z7=>(bnd (Yo z7) (fun z8=>(bnd (J4 (z7,z8)) (fun z9=>(some
 z9)))))))))))))))))))))))))
def U3 (x:Fk):Yde:=(cnd (iEq x.2.2.1 0) (some (false,((-1),true))) (cnd (iGt x.2.2.1 0) (some (true,((Ba .i64 x.2.2.1 1),x.2.2.2))) (some (true,
 (x.2.2.1,x.2.2.2)))))
def Mq (x:Yc3):(Option Ziu):=(cnd x.1.2.2.2 (some (x.1.2.1,(x.1.2.2.1,x.1.2.2.2))) (bnd (B8 (x.2.1,(0,(Ba .i64 (Ah x.1.1) 1)))) (fun
 z1=>(cnd (Ag z1) (some (x.1.2.1,(x.1.2.2.1,x.1.2.2.2))) (cnd (iGt (Ah x.2.2) 120) (some (x.1.2.1,(x.1.2.2.1,x.1.2.2.2))) (cnd (iGe (Ah x.1.2.1) 40) (some
 (x.1.2.1,(x.1.2.2.1,x.1.2.2.2))) (bnd (U3 (x.1.1,(x.1.2.1,(x.1.2.2.1,x.1.2.2.2)))) (fun z2=>(cnd (Ag z2.1) (some (x.1.2.1,(z2.2.1,z2.2.2))) (chk (A0
 (0+x.2.2.length) 1) (chk (A0 (x.1.2.1.length+1) 32) (some ((Al x.1.2.1 [(x.2.1,(Al [] x.2.2))]),(z2.2.1,z2.2.2))))))))))))))
def Lq (x:(List (List UInt8))×(List (Int×(List UInt8)))×Int×Bool):Option ((List (List UInt8))×(List (Int×(List UInt8)))×Int×Bool):=chk (decide ((-1<=x.2.2.1/\x.2.2.1<=1000)/\x.1.length<2^40/\x.2.1.length<2^40/\∀w∈x.2.1,0<=w.1/\w.1<=(x.1.length:Int)-1)) (some (flC x.1 x.2.1 x.2.2.1 x.2.2.2))
def Zc6 (x:(Int×Int)):F9:=(bnd (B8 (x.1,(1,60000))) (fun z1=>(cnd (Ag z1) (some []) (bnd (B8 (x.2,(0,30))) (fun z2=>(cnd (Ag z2) (some []) (bnd (J4 ([],x.1)) (fun z3=>(bnd (J4 (z3,x.2)) (fun z4=>(bnd (Yo z4) (fun z5 =>
 (bnd (J4 (z4,z5)) (fun z6=>(some z6)))))))))))))))
def Zd7 (x:tqX) (z1:Nn):Zis->Option (Zis ⊕ (Ziu ⊕ Zq2)):=fun (z2:Zis)=>(cnd (iLt z2.2.2.2 (Ah z1)) (bnd (U6 (x.2,z2.2.2.2))
 (fun z3=>(bnd (idx z1 z2.2.2.2) (fun z4=>(bnd (Uz (x.2,(z2.2.2.2,z4))) (fun z5=>(bnd (Mq ((x.1.1.1,(z2.1,(z2.2.1,
 z2.2.2.1))),(z3,z5))) (fun z6=>(some (.inl (z6.1,(z6.2.1,(z6.2.2,(Aj .i64 z2.2.2.2 1)))))))))))))) (some (.inr (.inl (z2.1,(z2.2.1,z2.2.2.1))))))
def P2 (x:tqX):(Option Zq2):=(bnd (Ym x.1.2.1) (fun z1=>(Ao (Aw (Zd7 x z1) (x.1.1.2.1,(x.1.1.2.2.1,(x.1.1.2.2.2,
 0)))) (fun (z2:Ziu)=>(bnd (Lq (x.1.1.1,z2)) (fun z3=>(bnd (Zc6 (x.2,(Ah z1))) (fun z4=>(bnd (Mq (z3,((De x.2
 2),z4))) (fun z5=>(bnd (Lq (z3.1,z5)) (fun z6=>(cnd (Ag z6.2.2.2) (some (z6.1,(z6.2.1,(z6.2.2.1,(z6.2.2.2,(x.1.2.1.2.1,(x.2,(Ah
 z1)))))))) (some (z6.1,(z6.2.1,(z6.2.2.1,(z6.2.2.2,(x.1.2.1.2.1,x.1.2.2)))))))))))))))))))
def Zc5 (x:Unit):tqU:=(bnd (Zc1 62) (fun z1=>(bnd (P2 ((z1,(([],(0,[])),(0,0))),1)) (fun z2=>(some ((z2.1,
 (z2.2.1,(z2.2.2.1,z2.2.2.2.1))),(([],(z2.2.2.2.2.1,[])),z2.2.2.2.2.2)))))))
def R7 (x:Lh):Xp:=(Ao (cnd (iLt x.2.1 (Ah x.1)) (bnd (idx x.1 x.2.1) (fun z1=>(some (.inl ((Aj .i64 x.2.1 1),(Aq .i64 (Aj
 .i64 (Aq .i64 (K6 .i64 (Bi .i64 (Aj .i64 (Dd .i64 x.2.2 6364136223846793005) 1442695040888963407) 33) (Bi .i64 (Aj .i64 (Dd .i64 x.2.2 6364136223846793005)
 1442695040888963407) 47)) 255) (Ai .i64 (y2i z1))) 255)))))) (some (.inl (x.2.1,(Aq .i64 (K6 .i64 (Bi .i64 (Aj .i64 (Dd .i64 x.2.2 6364136223846793005)
 1442695040888963407) 33) (Bi .i64 (Aj .i64 (Dd .i64 x.2.2 6364136223846793005) 1442695040888963407) 47)) 255))))) (fun (z1:(Int×Int))=>(some (z1.2,(z1.1,(Aj .i64
 (Dd .i64 x.2.2 6364136223846793005) 1442695040888963407))))))
def D8 (x:Zb7):Xp:=(cnd (iLe x.2 0) (some (0,(x.1.2.1,x.1.2.2))) (cnd (iLe x.2 256) (bnd (R7 (x.1.1,(x.1.2.1,x.1.2.2))) (fun z1
 => (chk (iNe x.2 0) (some ((De z1.1 x.2),(z1.2.1,z1.2.2)))))) (bnd (R7 (x.1.1,(x.1.2.1,x.1.2.2))) (fun z1=>(bnd (R7 (x.1.1,(z1.2.1,z1.2.2)))
 (fun z2=>(bnd (R7 (x.1.1,(z2.2.1,z2.2.2))) (fun z3=>(chk (iNe x.2 0) (some ((De (Aj .i64 (Aj .i64 (Dd .i64 z1.1 65536) (Dd .i64 z2.1
 256)) z3.1) x.2),(z3.2.1,z3.2.2))))))))))))
def Zdh (x:Lh):Xp:=(bnd (D8 ((x.1,(x.2.1,x.2.2)),5)) (fun z1=>(some ((Aj .i64 1 z1.1),(z1.2.1,z1.2.2)))))
def Zde (x:(Lh×Ik)):Zq5:=(bnd (D8 ((x.1.1,(x.1.2.1,x.1.2.2)),(Ah x.2))) (fun z1=>(bnd (idx x.2 z1.1) (fun z2=>(some (z2,(z1.2.1,z1.2.2)))))))
def Yv (x:Lh):Zq5:=(bnd (Zde ((x.1,(x.2.1,x.2.2)),[[97],[98],[99],[100],[101,53]])) (fun z1=>(some (z1.1,(z1.2.1,
 z1.2.2)))))
def Jk (x:(Lh×(List Int))):Xp:=(bnd (D8 ((x.1.1,(x.1.2.1,x.1.2.2)),(Ah x.2))) (fun z1=>(bnd (idx x.2 z1.1) (fun z2
 => (some (z2,(z1.2.1,z1.2.2)))))))
def Zdg (x:Lh):Xp:=(bnd (Jk ((x.1,(x.2.1,x.2.2)),[0,97,90,127,128,164,233,2047,2048,8364,1072,1102,1025,12354,12450,352,
 65535,65536,1114111])) (fun z1=>(some (z1.1,(z1.2.1,z1.2.2)))))
def Zdj (x:Zb7):Xp:=(cnd (iEq x.2 0) (bnd (Zdg (x.1.1,(x.1.2.1,x.1.2.2))) (fun z1=>(some (z1.1,(z1.2.1,z1.2.2))))) (cnd (iEq x.2
 5) (bnd (Jk ((x.1.1,(x.1.2.1,x.1.2.2)),[97,32,12353,12435,12449,12534,12354])) (fun z1=>(some (z1.1,(z1.2.1,z1.2.2))))) (bnd (Jk ((x.1.1,
 (x.1.2.1,x.1.2.2)),[65,97,32,164,192,200,228,255,163,128,130,189])) (fun z1=>(bnd (Lp (x.2,z1.1)) (fun z2=>(cnd (Ag z2.2)
 (some (120,(z1.2.1,z1.2.2))) (some (z2.1,(z1.2.1,z1.2.2))))))))))
def Zd9 (x:Yc7):Zq6->Option Ywp:=fun (z2:Zq6)=>(cnd (iGt z2.2.2.2 0) (bnd (Zdj ((x.1.1,(z2.1,z2.2.1)),x.2.1)) (fun z3 =>
 (bnd (Ny (z2.2.2.1,z3.1)) (fun z4=>(some (.inl (z3.2.1,(z3.2.2,(z4,(Ba .i64 z2.2.2.2 1)))))))))) (some (.inr (.inl (z2.1,(z2.2.1,
 z2.2.2.1))))))
def Yy (x:Yc7):Zq5:=(Ao (bnd (D8 ((x.1.1,(x.1.2.1,x.1.2.2)),(Aj .i64 x.2.2 1))) (fun z1=>(Aw (Zd9 x) (z1.2.1,
 (z1.2.2,([],z1.1)))))) (fun (z1:Ydf)=>(some (z1.2.2,(z1.1,z1.2.1)))))
def Zjv (x:(List UInt8)):Zra->Option (Zra ⊕ ((List Int) ⊕ Zq9)):=fun (z1:Zra)=>(cnd (iLt z1.2 (Ah x)) (bnd (Yj (x,z1.2)) (fun z2=>(cnd (Ag z2.2.2) (some (.inr (.inr ([],false)))) (chk (A0 (z1.1.length+1) 8) (some (.inl ((Al z1.1 [z2.1]),z2.2.1))))))) (some (.inr (.inl z1.1))))
def Zc9 (x:(List UInt8)):(Option Zq9):=(Ao (Aw (Zjv x) ([],0)) (fun (z1:(List Int))=>(some (z1,true))))
def Zja (x:Int):Lg:=(bnd (B8 (x,(12353,12435))) (fun z1=>(cnd z1 (some (164,((Aj .i64 (Ba .i64 x 12353) 161),true))) (bnd
 (B8 (x,(12449,12534))) (fun z2=>(cnd z2 (some (165,((Aj .i64 (Ba .i64 x 12449) 161),true))) (some (0,(0,false)))))))))
def Yk (x:D7):Uj:=(chk (A0 (0+x.1.length) 1) (bnd (B8 (x.2,(0,127))) (fun z1=>(cnd z1 (chk (A0 ((Al [] x.1).length+1)
 1) (some ((Al (Al [] x.1) [(u8 (Ai .u8 x.2))]),true))) (bnd (Zja x.2) (fun z2=>(cnd (Ag z2.2.2) (some ((Al [] x.1),false)) (chk (A0 ((Al []
 x.1).length+2) 1) (some ((Al (Al [] x.1) [(u8 (Ai .u8 z2.1)),(u8 (Ai .u8 z2.2.1))]),true))))))))))
def Zr3 (x:(Int×Int)):(Int)->Option ((Int) ⊕ (Unit ⊕ (Int×Bool))):=fun (z1:Int)=>(cnd (iLt z1 256) (bnd (Lp (x.1,z1)) (fun z2=>(cnd z2.2 (cnd (iEq z2.1 x.2) (some (.inr (.inr (z1,true)))) (some (.inl (Aj .i64 z1 1)))) (some (.inl (Aj .i64 z1 1)))))) (some (.inr (.inl ()))))
def Zc8 (x:(Int×Int)):Zb8:=(Ao (Aw (Zr3 x) 0) (fun (z1:Unit)=>(some (0,false))))
def Yx (x:Ziv):Uj:=(cnd (iEq x.1 0) (bnd (Ny (x.2.1,x.2.2)) (fun z1=>(bnd (R6 x.2.2) (fun z2=>(some
 (z1,z2)))))) (cnd (iEq x.1 5) (bnd (Yk (x.2.1,x.2.2)) (fun z1=>(some (z1.1,z1.2)))) (bnd (Zc8 (x.1,x.2.2)) (fun z1=>(cnd (Ag
 z1.2) (chk (A0 (0+x.2.1.length) 1) (some ((Al [] x.2.1),false))) (chk (A0 (0+x.2.1.length) 1) (chk (A0 ((Al [] x.2.1).length+1) 1) (some ((Al (Al [] x.2.1)
 [(u8 (Ai .u8 z1.1))]),true)))))))))
def Zjr (x:D6) (z1:Zq9):D7->Option Zq4:=fun (z3:D7)=>(cnd (iLt z3.2 (Ah z1.1)) (bnd (idx z1.1 z3.2) (fun z4=>(bnd (Yx
 (x.1,(z3.1,z4))) (fun z5=>(cnd (Ag z5.2) (some (.inr (.inr ([],false)))) (some (.inl (z5.1,(Aj .i64 z3.2 1))))))))) (some (.inr (.inl z3.1))))
def Zc3 (x:D6):Uj:=(bnd (Zc9 x.2) (fun z1=>(bnd (R8 x.1) (fun z2=>(cnd (Ag z2) (some ([],false)) (cnd (Ag
 z1.2) (some ([],false)) (Ao (Aw (Zjr x z1) ([],0)) (fun (z3:(List UInt8))=>(some (z3,true))))))))))
def Uy (x:D6):Yc8:=(bnd (Zc3 (x.1,x.2)) (fun z1=>(cnd (Ag z1.2) (some ((0,[]),false)) (cnd (iGt (Ah z1.1) 20) (some ((0,
 []),false)) (some ((x.1,z1.1),true))))))
def U1 (x:(Int×Ydb)):(Option Ywt):=(bnd (Uy (0,x.2.2.2)) (fun z1=>(bnd (B8 (x.1,(0,7))) (fun z2=>(cnd (Ag
 z2) (some (([],((0,[]),((0,[]),(0,false)))),1)) (bnd (R4 x.2.1) (fun z3=>(cnd (Ag z3) (some (([],((0,[]),((0,[]),(0,false)))),1)) (bnd
 (B8 (x.2.2.1,(1,5))) (fun z4=>(cnd (Ag z4) (some (([],((0,[]),((0,[]),(0,false)))),1)) (cnd (Ag z1.2) (some (([],((0,[]),((0,[]),(0,false)))),
 1)) (bnd (Uy (x.2.2.1,x.2.2.2)) (fun z5=>(Ao (Ao (cnd (iEq x.1 0) (some (.inl true)) (some (.inl (iEq x.1 7)))) (fun (z6:Bool)=>(cnd z6 (cnd (Ag
 z5.2) (some (.inr (([],((0,[]),((0,[]),(0,false)))),3))) (some (.inr ((x.2.1,((z5.1.1,z5.1.2),((0,[]),(1,false)))),0)))) (Ao (cnd (iEq x.1 4) (some (.inl true))
 (some (.inl (iEq x.1 5)))) (fun (z7:Bool)=>(cnd z7 (some (.inr ((x.2.1,((0,[]),((z1.1.1,z1.1.2),(2,false)))),0))) (cnd (iEq x.1 6) (cnd z5.2 (some (.inr ((x.2.1,
 ((z5.1.1,z5.1.2),((0,[]),(1,false)))),0))) (some (.inr ((x.2.1,((0,[]),((z1.1.1,z1.1.2),(2,true)))),0)))) (some (.inl ([],(0,([],(0,([],(0,false)))))))))))))))
 (fun (z6:Yc4)=>(cnd (Ag z5.2) (some ((x.2.1,((0,[]),((z1.1.1,z1.1.2),(2,true)))),0)) (some ((x.2.1,((z5.1.1,z5.1.2),((z1.1.1,z1.1.2),(3,false)))),
 0)))))))))))))))))))
def Yp (x:(D6×Int)):Yc8:=(bnd (Hy (x.1.1,x.1.2)) (fun z1=>(bnd (Uy (x.2,z1.1)) (fun z2=>(cnd (Ag z1.2)
 (bnd (N0 (x.1.1,x.1.2)) (fun z3=>(some ((z3.1,z3.2),false)))) (cnd (Ag z2.2) (bnd (N0 (x.1.1,x.1.2)) (fun z3=>(some ((z3.1,z3.2),
 false)))) (some ((z2.1.1,z2.1.2),true))))))))
def Yi (x:Ft):Zir:=(bnd (J5 (x.1,((x.2.1.1,x.2.1.2),((x.2.2.1.1,x.2.2.1.2),(x.2.2.2.1,x.2.2.2.2))))) (fun z1=>(bnd
 (Jj (x.1,((x.2.1.1,x.2.1.2),((x.2.2.1.1,x.2.2.1.2),(x.2.2.2.1,x.2.2.2.2))))) (fun z2=>(cnd (Ag z2) (some (z1.1,((z1.2.1.1,z1.2.1.2),((z1.2.2.1.1,
 z1.2.2.1.2),(z1.2.2.2.1,z1.2.2.2.2))))) (bnd (Cr (x.1,((x.2.1.1,x.2.1.2),((x.2.2.1.1,x.2.2.1.2),(x.2.2.2.1,x.2.2.2.2))))) (fun z3=>(cnd z3 (some (z1.1,
 ((z1.2.1.1,z1.2.1.2),((z1.2.2.1.1,z1.2.2.1.2),(z1.2.2.2.1,z1.2.2.2.2))))) (bnd (Yp ((x.2.1.1,x.2.1.2),0)) (fun z4=>(cnd (Ag z4.2) (some (z1.1,
 ((z1.2.1.1,z1.2.1.2),((z1.2.2.1.1,z1.2.2.1.2),(z1.2.2.2.1,true))))) (some (z1.1,((z1.2.1.1,z1.2.1.2),((z4.1.1,z4.1.2),(3,z1.2.2.2.2))))))))))))))))
def Yh (x:Ft):Zir:=(bnd (J5 (x.1,((x.2.1.1,x.2.1.2),((x.2.2.1.1,x.2.2.1.2),(x.2.2.2.1,x.2.2.2.2))))) (fun z1=>(bnd
 (Jj (x.1,((x.2.1.1,x.2.1.2),((x.2.2.1.1,x.2.2.1.2),(x.2.2.2.1,x.2.2.2.2))))) (fun z2=>(cnd (Ag z2) (some (z1.1,((z1.2.1.1,z1.2.1.2),((z1.2.2.1.1,
 z1.2.2.1.2),(z1.2.2.2.1,z1.2.2.2.2))))) (bnd (Cr (x.1,((x.2.1.1,x.2.1.2),((x.2.2.1.1,x.2.2.1.2),(x.2.2.2.1,x.2.2.2.2))))) (fun z3=>(cnd (Ag z3) (some
 (z1.1,((z1.2.1.1,z1.2.1.2),((z1.2.2.1.1,z1.2.2.1.2),(z1.2.2.2.1,z1.2.2.2.2))))) (bnd (Dl (x.1,((x.2.1.1,x.2.1.2),((x.2.2.1.1,x.2.2.1.2),(x.2.2.2.1,
 x.2.2.2.2))))) (fun z4=>(cnd z4 (some (x.1,((z1.2.1.1,z1.2.1.2),((0,[]),(1,false))))) (some (z1.1,((z1.2.1.1,z1.2.1.2),((z1.2.2.1.1,z1.2.2.1.2),(z1.2.2.2.1,
 true))))))))))))))))
def Zdk (x:Lh):Ywo:=(bnd (Zdh (x.1,(x.2.1,x.2.2))) (fun z1=>(bnd (Yv (x.1,(z1.2.1,z1.2.2))) (fun z2=>(bnd
 (D8 ((x.1,(z2.2.1,z2.2.2)),6)) (fun z3=>(cnd (iEq z3.1 0) (some ((z2.1,((3,[(u8 128),(u8 65)]),((0,[]),(1,true)))),(z3.2.1,z3.2.2))) (cnd (iEq
 z3.1 1) (bnd (Yy ((x.1,(z3.2.1,z3.2.2)),(z1.1,5))) (fun z4=>(bnd (U1 (0,(z2.1,(z1.1,z4.1)))) (fun z5=>(some ((z5.1.1,((z5.1.2.1.1,
 z5.1.2.1.2),((z5.1.2.2.1.1,z5.1.2.2.1.2),(z5.1.2.2.2.1,z5.1.2.2.2.2)))),(z4.2.1,z4.2.2))))))) (bnd (D8 ((x.1,(z3.2.1,z3.2.2)),8)) (fun z4=>(bnd
 (Jk ((x.1,(z4.2.1,z4.2.2)),[z1.1,z1.1,z1.1,0])) (fun z5=>(bnd (Yy ((x.1,(z5.2.1,z5.2.2)),(z5.1,5))) (fun z6=>(bnd (U1 (z4.1,
 (z2.1,(z1.1,z6.1)))) (fun z7=>(Ao (cnd (iNe z7.2 0) (bnd (U1 (5,(z2.1,(z1.1,[120])))) (fun z8=>(some (.inl (z8.1.1,(z8.1.2.1.1,(z8.1.2.1.2,
 (z8.1.2.2.1.1,(z8.1.2.2.1.2,(z8.1.2.2.2.1,z8.1.2.2.2.2)))))))))) (some (.inl (z7.1.1,(z7.1.2.1.1,(z7.1.2.1.2,(z7.1.2.2.1.1,(z7.1.2.2.1.2,(z7.1.2.2.2.1,
 z7.1.2.2.2.2))))))))) (fun (z8:Yc4)=>(bnd (D8 ((x.1,(z6.2.1,z6.2.2)),5)) (fun z9=>(cnd (iEq z9.1 0) (bnd (Yi (z8.1,((z8.2.1,z8.2.2.1),
 ((z8.2.2.2.1,z8.2.2.2.2.1),(z8.2.2.2.2.2.1,z8.2.2.2.2.2.2))))) (fun z10=>(some ((z10.1,((z10.2.1.1,z10.2.1.2),((z10.2.2.1.1,z10.2.2.1.2),(z10.2.2.2.1,
 z10.2.2.2.2)))),(z9.2.1,z9.2.2))))) (cnd (iEq z9.1 1) (bnd (Yh (z8.1,((z8.2.1,z8.2.2.1),((z8.2.2.2.1,z8.2.2.2.2.1),(z8.2.2.2.2.2.1,z8.2.2.2.2.2.2))))) (fun z10=>(some ((z10.1,((z10.2.1.1,z10.2.1.2),((z10.2.2.1.1,z10.2.2.1.2),(z10.2.2.2.1,z10.2.2.2.2)))),(z9.2.1,z9.2.2))))) (some ((z8.1,((z8.2.1,z8.2.2.1),
 ((z8.2.2.2.1,z8.2.2.2.2.1),(z8.2.2.2.2.2.1,z8.2.2.2.2.2.2)))),(z9.2.1,z9.2.2)))))))))))))))))))))))))
def Yw (x:Zb7):(Option Ywx):=(bnd (D8 ((x.1.1,(x.1.2.1,x.1.2.2)),x.2)) (fun z1=>(some ((iEq z1.1 0),(z1.2.1,z1.2.2)))))
def U5 (x:Lh):Ywe:=(bnd (D8 (x,4)) (fun z1=>(Ao (cnd (iEq (Aj .i64 1 z1.1) 1) (bnd (Zdk (x.1,z1.2)) (fun z2=>(some (.inl (z2.2.1,(z2.2.2,(z2.1.1,(z2.1.2.1.1,(z2.1.2.1.2,(z2.1.2.2.1.1,(z2.1.2.2.1.2,(z2.1.2.2.2.1,(z2.1.2.2.2.2,([],0)))))))))))))) (cnd (iEq (Aj .i64 1
 z1.1) 2) (bnd (Yv (x.1,z1.2)) (fun z2=>(some (.inl (z2.2.1,(z2.2.2,([],(0,([],(0,([],(0,(false,(z2.1,0)))))))))))))) (cnd (iEq (Aj .i64 1 z1.1) 3)
 (bnd (D8 ((x.1,z1.2),8)) (fun z2=>(some (.inl (z2.2.1,(z2.2.2,([],(0,([],(0,([],(0,(false,([],z2.1)))))))))))))) (some (.inl (z1.2.1,(z1.2.2,
 ([],(0,([],(0,([],(0,(false,([],0))))))))))))))) (fun (z2:(Int×(Int×((List UInt8)×(Int×((List UInt8)×(Int×((List UInt8)×(Int×(Bool×D7)))))))))) =>
 (Ao (cnd (iEq (Aj .i64 1 z1.1) 4) (bnd (D8 ((x.1,(z2.1,z2.2.1)),3)) (fun z3=>(bnd (Jk ((x.1,z3.2),[0,1,2,65535])) (fun z4=>(bnd
 (D8 ((x.1,z4.2),7)) (fun z5=>(some (.inl (z5.2.1,(z5.2.2,((Aj .i64 1 z3.1),(z4.1,z5.1)))))))))))) (bnd (Yw ((x.1,(z2.1,z2.2.1)),2)) (fun
 z3=>(cnd z3.1 (bnd (D8 ((x.1,z3.2),3)) (fun z4=>(bnd (Jk ((x.1,z4.2),[0,1,2,65535])) (fun z5=>(bnd (D8 ((x.1,
 z5.2),7)) (fun z6=>(some (.inl (z6.2.1,(z6.2.2,((Aj .i64 1 z4.1),(z5.1,z6.1)))))))))))) (some (.inl (z3.2.1,(z3.2.2,(0,(0,0)))))))))) (fun (z3:(Int×(Int
 × Jd)))=>(some (((Aj .i64 1 z1.1),((z2.2.2.1,((z2.2.2.2.1,z2.2.2.2.2.1),((z2.2.2.2.2.2.1,z2.2.2.2.2.2.2.1),(z2.2.2.2.2.2.2.2.1,z2.2.2.2.2.2.2.2.2.1)))),
 (z2.2.2.2.2.2.2.2.2.2.1,(z2.2.2.2.2.2.2.2.2.2.2,z3.2.2)))),(z3.1,z3.2.1)))))))))
def Yee (x:Ef):Uh->Option tqF:=fun (z1:Uh)=>(cnd (iLt z1.2 (Ah x.1)) (bnd (idx x.1 z1.2) (fun z2=>(bnd (J5 (z2.1,
 ((z2.2.1.1,z2.2.1.2),((z2.2.2.1.1,z2.2.2.1.2),(z2.2.2.2.1,z2.2.2.2.2))))) (fun z3=>(chk (A0 (z1.1.length+1) 96) (some (.inl ((Al z1.1 [(z3.1,((z3.2.1.1,
 z3.2.1.2),((z3.2.2.1.1,z3.2.2.1.2),(z3.2.2.2.1,z3.2.2.2.2))))]),(Aj .i64 z1.2 1))))))))) (some (.inr (.inl z1.1))))
def Yq (x:Ef):Ycx:=(al 2 (chk (A0 (0+x.2.2.length) 24) (Ao (Aw (Yee x) ([],0)) (fun (z1:Fs)=>(some (z1,(x.2.1,(Al []
 x.2.2))))))))
def Yr (x:Jd):C6:=(bnd (B8 (x.1,(1,9))) (fun z1=>(cnd z1 (bnd (Nz x.2.1) (fun z2=>(cnd z2 (bnd (B8
 (x.2.2,(0,6))) (fun z3=>(some z3))) (some false)))) (some false))))
def Zd3 (x:Ef):(Int)->Option Rn:=fun (z1:Int)=>(cnd (iLt z1 (Ah x.1)) (bnd (idx x.1 z1) (fun z2=>(bnd (Jj (z2.1,
 ((z2.2.1.1,z2.2.1.2),((z2.2.2.1.1,z2.2.2.1.2),(z2.2.2.2.1,z2.2.2.2.2))))) (fun z3=>(cnd (Ag z3) (some (.inr (.inr false))) (cnd (iGt z1 0) (bnd (idx x.1 (Ba
 .i64 z1 1)) (fun z4=>(bnd (idx x.1 z1) (fun z5=>(cnd (Ag (sLt z4.1 z5.1)) (some (.inr (.inr false))) (some (.inl (Aj .i64 z1 1)))))))) (some (.inl (Aj
 .i64 z1 1))))))))) (some (.inr (.inl ()))))
def Zd4 (x:Ef):(Int)->Option Rn:=fun (z2:Int)=>(cnd (iLt z2 (Ah x.2.2)) (bnd (idx x.2.2 z2) (fun z3=>(bnd (Yr (z3.1,
 (z3.2.1,z3.2.2))) (fun z4=>(cnd (Ag z4) (some (.inr (.inr false))) (cnd (iGt z2 0) (bnd (idx x.2.2 (Ba .i64 z2 1)) (fun z5=>(bnd (idx x.2.2 z2) (fun
 z6=>(cnd (iGe z5.1 z6.1) (some (.inr (.inr false))) (some (.inl (Aj .i64 z2 1)))))))) (some (.inl (Aj .i64 z2 1))))))))) (some (.inr (.inl ()))))
def U2 (x:Ef):C6:=(Ao (Aw (Zd3 x) 0) (fun (z1:Unit)=>(Ao (Aw (Zd4 x) 0) (fun (z2:Unit)=>(cnd (iLe (Ah x.1) 8)
 (bnd (B8 (x.2.1,(0,7))) (fun z3=>(some z3))) (some false))))))
def Zd5 (x:Zio):Zq0->Option (Zq0 ⊕ Ycr):=fun (z1:Zq0)=>(cnd (iLt z1.2.2.2 (Ah z1.1)) (Ao (Ao (cnd (Ag z1.2.2.1) (bnd (idx z1.1
 z1.2.2.2) (fun z2=>(cnd (Ag (sLt z2.1 x.2.1)) (bnd (J5 x.2) (fun z3=>(chk (A0 (z1.2.1.length+1) 96) (some (.inl ((Al z1.2.1 [z3]),
 true)))))) (some (.inl (z1.2.1,z1.2.2.1)))))) (some (.inl (z1.2.1,z1.2.2.1)))) (fun (z2:Xn)=>(bnd (idx z1.1 z1.2.2.2) (fun z3=>(cnd (Ag (sEq z3.1 x.2.1))
 (bnd (idx z1.1 z1.2.2.2) (fun z4=>(chk (Hl z4.2.1.2) (chk (Hl z4.2.2.1.2) (bnd (idx z1.1 (Int.ofNat (nOf z1.2.2.2))) (fun z5=>(bnd (idx (Bq z1.1
 (nOf z1.2.2.2) (z5.1,((z5.2.1.1,none),z5.2.2))) (Int.ofNat (nOf z1.2.2.2))) (fun z6=>(chk (A0 (z2.1.length+1) 96) (some (.inl ((Bq (Bq z1.1 (nOf z1.2.2.2)
 (z5.1,((z5.2.1.1,none),z5.2.2))) (nOf z1.2.2.2) (z6.1,(z6.2.1,((z6.2.2.1.1,none),z6.2.2.2)))),((Al z2.1 [(z4.1,((z4.2.1.1,(Jo z4.2.1.2)),((z4.2.2.1.1,(Jo
 z4.2.2.1.2)),z4.2.2.2)))]),z2.2))))))))))))) (some (.inl (z1.1,z2)))))))) (fun (z2:(Rm×Xn))=>(some (.inl (z2.1,(z2.2.1,(z2.2.2,(Aj .i64 z1.2.2.2 1)))))))) (some
 (.inr (.inl (z1.2.1,z1.2.2.1)))))
def Yt (x:Zio):Yc2:=(Ao (Aw (Zd5 x) (x.1,([],(false,0)))) (fun (z1:Xn)=>(Ao (cnd (Ag z1.2) (bnd (J5 x.2) (fun z2=>(chk (A0 (z1.1.length+1) 96) (some (.inl (Al z1.1 [z2])))))) (some (.inl z1.1))) (fun (z2:Fs)=>(some z2)))))
def Zju (x:Ycw):(Int)->Option ((Int) ⊕ Int):=fun (z1:Int)=>(cnd (iLt z1 (Ah x.1.1)) (bnd (idx x.1.1 z1) (fun z2=>(cnd (sEq z2.1 x.2)
 (some (.inr z1)) (some (.inl (Aj .i64 z1 1)))))) (some (.inr (-1))))
def Yn (x:Ycw):(Option Int):=(Aw (Zju x) 0)
def Zjy (x:Zb5):Zb6->Option Ycz:=fun (z1:Zb6)=>(cnd (iLt z1.2.2 (Ah x.1)) (Ao (Ao (cnd (Ag z1.2.1) (bnd (idx x.1 z1.2.2) (fun z2=>(cnd (iGe z2.1 x.2.1) (chk (A0 (z1.1.length+1) 24) (some (.inl ((Al z1.1 [x.2]),true)))) (some (.inl (z1.1,z1.2.1)))))) (some (.inl (z1.1,z1.2.1)))) (fun (z2 :
 Ui)=>(bnd (idx x.1 z1.2.2) (fun z3=>(cnd (iNe z3.1 x.2.1) (bnd (idx x.1 z1.2.2) (fun z4=>(chk (A0 (z2.1.length+1) 24) (some (.inl ((Al z2.1 [z4]),
 z2.2)))))) (some (.inl z2))))))) (fun (z2:Ui)=>(some (.inl (z2.1,(z2.2,(Aj .i64 z1.2.2 1))))))) (some (.inr (.inl (z1.1,z1.2.1)))))
def Ys (x:Zb5):Ydd:=(Ao (Aw (Zjy x) ([],(false,0))) (fun (z1:Ui)=>(Ao (cnd (Ag z1.2) (chk (A0 (z1.1.length+1) 24)
 (some (.inl (Al z1.1 [x.2])))) (some (.inl z1.1))) (fun (z2:Jc)=>(some z2)))))
def Zcz (x:tqH):Ycv:=(bnd (Yq x.1) (fun z1=>(bnd (U2 x.1) (fun z2=>(cnd (Ag z2) (some (z1,false)) (bnd
 (U0 x.2) (fun z3=>(cnd (Ag z3) (some (z1,false)) (Ao (cnd (iEq x.2.1 1) (bnd (cvL (.P .S (.P (.P (.I .i64) (.L .Y)) (.P (.P (.I .i64) (.L .Y)) (.P (.I
 .i64) .B)))) (.P .S (.P (.P (.I .i64) (.H .Y)) (.P (.P (.I .i64) (.H .Y)) (.P (.I .i64) .B)))) z1.1) (fun z4=>(bnd (Yt (z4,x.2.2.1)) (fun z5=>(some
 (.inl (z5,z1.2.1))))))) (cnd (iEq x.2.1 2) (bnd (Yn (z1,x.2.2.2.1)) (fun z4=>(cnd (iGe z4 0) (chk (Di 0 z4 (Ah z1.1)) (chk (Jn 0 ((nOf z4)-0)
 z1.1.length) (chk (A0 (0+(Br ((nOf z4)-0) z1.1).length) 96) (chk (Di (Aj .i64 z4 1) (Ah (mvW (.P .S (.P (.P (.I .i64) (.L .Y)) (.P (.P (.I .i64) (.L .Y)) (.P (.I
 .i64) .B)))) 0 ((nOf z4)-0) z1.1)) (Ah (mvW (.P .S (.P (.P (.I .i64) (.L .Y)) (.P (.P (.I .i64) (.L .Y)) (.P (.I .i64) .B)))) 0 ((nOf z4)-0) z1.1))) (chk (Jn (nOf (Aj
 .i64 z4 1)) ((nOf (Ah (mvW (.P .S (.P (.P (.I .i64) (.L .Y)) (.P (.P (.I .i64) (.L .Y)) (.P (.I .i64) .B)))) 0 ((nOf z4)-0) z1.1)))-(nOf (Aj .i64 z4 1))) (mvW (.P .S (.P
 (.P (.I .i64) (.L .Y)) (.P (.P (.I .i64) (.L .Y)) (.P (.I .i64) .B)))) 0 ((nOf z4)-0) z1.1).length) (bnd (cvL (.P .S (.P (.P (.I .i64) (.H .Y)) (.P (.P (.I .i64) (.H .Y)) (.P
 (.I .i64) .B)))) (.P .S (.P (.P (.I .i64) (.L .Y)) (.P (.P (.I .i64) (.L .Y)) (.P (.I .i64) .B)))) (Br ((nOf (Ah (mvW (.P .S (.P (.P (.I .i64) (.L .Y)) (.P (.P (.I .i64) (.L
 .Y)) (.P (.I .i64) .B)))) 0 ((nOf z4)-0) z1.1)))-(nOf (Aj .i64 z4 1))) (Dw (nOf (Aj .i64 z4 1)) (mvW (.P .S (.P (.P (.I .i64) (.L .Y)) (.P (.P (.I .i64) (.L .Y)) (.P
 (.I .i64) .B)))) 0 ((nOf z4)-0) z1.1)))) (fun z5=>(chk (A0 ((Al [] (Br ((nOf z4)-0) z1.1)).length+z5.length) 96) (some (.inl ((Al (Al [] (Br ((nOf
 z4)-0) z1.1)) z5),z1.2.1))))))))))) (some (.inl (z1.1,z1.2.1)))))) (cnd (iEq x.2.1 3) (some (.inl (z1.1,x.2.2.2.2.1))) (some (.inl (z1.1,z1.2.1)))))) (fun (z4:Uh) =>
 (Ao (cnd (iNe x.2.2.2.2.2.1 0) (bnd (Ys (z1.2.2,x.2.2.2.2.2)) (fun z5=>(some (.inl z5)))) (some (.inl z1.2.2))) (fun (z5:Jc)=>(bnd (U2 (z4.1,
 (z4.2,z5))) (fun z6=>(cnd (Ag z6) (bnd (Yq x.1) (fun z7=>(some (z7,false)))) (some ((z4.1,(z4.2,z5)),true)))))))))))))))))
def Yu (x:tqE):(Option tqV):=(al 1 (bnd (Zcz (x.1.2.1,x.2)) (fun z1=>(cnd (Ag z1.2) (some (false,x.1)) (Ao (cnd (iEq x.1.2.2.2
 30) (cnd (iLt x.1.2.2.1 60000) (bnd (P2 (x.1,(Aj .i64 x.1.2.2.1 1))) (fun z2=>(some (.inl z2)))) (some (.inl (x.1.1.1,(x.1.1.2.1,(x.1.1.2.2.1,
 (x.1.1.2.2.2,(x.1.2.1.2.1,x.1.2.2)))))))) (some (.inl (x.1.1.1,(x.1.1.2.1,(x.1.1.2.2.1,(x.1.1.2.2.2,(x.1.2.1.2.1,x.1.2.2)))))))) (fun (z2:Zq2)=>(cnd z2.2.2.2.1 (some
 (false,((z2.1,(z2.2.1,(z2.2.2.1,z2.2.2.2.1))),((x.1.2.1.1,(z2.2.2.2.2.1,x.1.2.1.2.2)),z2.2.2.2.2.2)))) (cnd (iEq z2.2.2.2.2.2.2 30) (some (false,((z2.1,(z2.2.1,
 (z2.2.2.1,z2.2.2.2.1))),((x.1.2.1.1,(z2.2.2.2.2.1,x.1.2.1.2.2)),z2.2.2.2.2.2)))) (bnd (U6 z2.2.2.2.2.2) (fun z3=>(bnd (Uz (z2.2.2.2.2.2.1,
 (z2.2.2.2.2.2.2,x.2))) (fun z4=>(bnd (Mq ((z2.1,(z2.2.1,(z2.2.2.1,z2.2.2.2.1))),(z3,z4))) (fun z5=>(bnd (Lq (z2.1,z5))
 (fun z6=>(cnd z6.2.2.2 (some (false,(z6,((x.1.2.1.1,(z2.2.2.2.2.1,x.1.2.1.2.2)),z2.2.2.2.2.2)))) (some (true,(z6,(z1.1,(z2.2.2.2.2.2.1,(Aj .i64
 z2.2.2.2.2.2.2 1)))))))))))))))))))))))
def Zd6 (x:Zb7):tqN->Option (tqN ⊕ (tqP ⊕ tqQ)):=fun (z3:tqN)=>(cnd (iGt z3.2.2.2.2.2.2.2.2.2.2.2 0) (bnd (U5 (x.1.1,(z3.1,z3.2.1)))
 (fun z4=>(bnd (Yu (((z3.2.2.1,(z3.2.2.2.1,(z3.2.2.2.2.1,z3.2.2.2.2.2.1))),((z3.2.2.2.2.2.2.1,(z3.2.2.2.2.2.2.2.1,z3.2.2.2.2.2.2.2.2.1)),
 (z3.2.2.2.2.2.2.2.2.2.1,z3.2.2.2.2.2.2.2.2.2.2.1))),z4.1)) (fun z5=>(some (.inl (z4.2.1,(z4.2.2,(z5.2.1.1,(z5.2.1.2.1,(z5.2.1.2.2.1,(z5.2.1.2.2.2,(z5.2.2.1.1,
 (z5.2.2.1.2.1,(z5.2.2.1.2.2,(z5.2.2.2.1,(z5.2.2.2.2,(Ba .i64 z3.2.2.2.2.2.2.2.2.2.2.2 1)))))))))))))))))) (some (.inr (.inl (z3.1,(z3.2.1,(z3.2.2.1,(z3.2.2.2.1,
 (z3.2.2.2.2.1,(z3.2.2.2.2.2.1,(z3.2.2.2.2.2.2.1,(z3.2.2.2.2.2.2.2.1,(z3.2.2.2.2.2.2.2.2.1,(z3.2.2.2.2.2.2.2.2.2.1,z3.2.2.2.2.2.2.2.2.2.2.1))))))))))))))
def Zdc (x:Zb7):tqM:=(bnd (Zc5 ()) (fun z1=>(Ao (bnd (D8 (x.1,(Aj .i64 x.2 1))) (fun z2=>(Aw
 (Zd6 x) (z2.2.1,(z2.2.2,(z1.1.1,(z1.1.2.1,(z1.1.2.2.1,(z1.1.2.2.2,(z1.2.1.1,(z1.2.1.2.1,(z1.2.1.2.2,(z1.2.2.1,(z1.2.2.2,z2.1)))))))))))))) (fun (z2:tqP) =>
 (some (((z2.2.2.1,(z2.2.2.2.1,(z2.2.2.2.2.1,z2.2.2.2.2.2.1))),((z2.2.2.2.2.2.2.1,(z2.2.2.2.2.2.2.2.1,z2.2.2.2.2.2.2.2.2.1)),z2.2.2.2.2.2.2.2.2.2)),(z2.1,z2.2.1)))))))
def Sa (x:Ik):D7->Option (D7 ⊕ ((List UInt8) ⊕ (List UInt8))):=fun (z1:D7)=>(cnd (iLt z1.2 (Ah x)) (bnd (idx x z1.2) (fun z2=>(chk (A0 (z1.1.length+z2.length) 1) (some (.inl ((Al z1.1 z2),(Aj .i64 z1.2 1))))))) (some (.inr (.inl z1.1))))
def Fv (x:Ik):F9:=(Ao (Aw (Sa x) ([],0)) (fun (z1:(List UInt8))=>(some z1)))
def Zdx (x:Fk):Pr->Option Zip:=fun (z1:Pr)=>(cnd (iLt z1.2 (Ah x.1)) (bnd (idx x.1 z1.2) (fun z2=>(bnd (Fv
 [z2]) (fun z3=>(chk (A0 (z1.1.length+1) 24) (some (.inl ((Al z1.1 [z3]),(Aj .i64 z1.2 1))))))))) (some (.inr (.inl z1.1))))
def Zdy (x:Fk):Zq7->Option Ywj:=fun (z2:Zq7)=>(cnd (iLt z2.2 (Ah x.2.1)) (bnd (idx x.2.1 z2.2) (fun z3=>(bnd (Fv
 [z3.2]) (fun z4=>(chk (A0 (z2.1.length+1) 32) (some (.inl ((Al z2.1 [(z3.1,z4)]),(Aj .i64 z2.2 1))))))))) (some (.inr (.inl z2.1))))
def J2 (x:Fk):Xo:=(Ao (Aw (Zdx x) ([],0)) (fun (z1:Ik)=>(Ao (Aw (Zdy x) ([],0)) (fun (z2:Ps)=>(some
 (z1,(z2,(x.2.2.1,x.2.2.2))))))))
def Yd (x:D6):(Option D6):=(bnd (Fv [x.2]) (fun z1=>(some (x.1,z1))))
def P1 (x:Ft):Zir:=(bnd (Yd x.2.1) (fun z1=>(bnd (Yd x.2.2.1) (fun z2=>(some (x.1,(z1,(z2,
 x.2.2.2))))))))
def Yed (x:Ef):Uh->Option tqF:=fun (z1:Uh)=>(cnd (iLt z1.2 (Ah x.1)) (bnd (idx x.1 z1.2) (fun z2=>(bnd (P1 (z2.1,
 ((z2.2.1.1,z2.2.1.2),((z2.2.2.1.1,z2.2.2.1.2),(z2.2.2.2.1,z2.2.2.2.2))))) (fun z3=>(chk (A0 (z1.1.length+1) 96) (some (.inl ((Al z1.1 [(z3.1,((z3.2.1.1,
 z3.2.1.2),((z3.2.2.1.1,z3.2.2.1.2),(z3.2.2.2.1,z3.2.2.2.2))))]),(Aj .i64 z1.2 1))))))))) (some (.inr (.inl z1.1))))
def Uu (x:Ef):Ycx:=(al 2 (chk (A0 (0+x.2.2.length) 24) (Ao (Aw (Yed x) ([],0)) (fun (z1:Fs)=>(some (z1,(x.2.1,(Al []
 x.2.2))))))))
def Ut (x:Nm):tqU:=(bnd (J2 x.1) (fun z1=>(bnd (Uu x.2.1) (fun z2=>(some (z1,(z2,x.2.2)))))))
def Lo (x:Zit):C6:=(cnd (iEq x.1.1 x.2.1) (some (sEq x.1.2 x.2.2)) (some false))
def Zcx (x:Ycs):C6:=(cnd (sEq x.1.1 x.2.1) (bnd (Lo ((x.1.2.1.1,x.1.2.1.2),(x.2.2.1.1,x.2.2.1.2))) (fun z1=>(cnd z1 (bnd
 (Lo ((x.1.2.2.1.1,x.1.2.2.1.2),(x.2.2.2.1.1,x.2.2.2.1.2))) (fun z2=>(cnd z2 (cnd (iEq x.1.2.2.2.1 x.2.2.2.2.1) (some (bEq x.1.2.2.2.2 x.2.2.2.2.2)) (some
 false)) (some false)))) (some false)))) (some false))
def Cq (x:Jd):C6:=(cnd (iGe x.1 x.2.1) (some (iLe x.1 x.2.2)) (some false))
def Yec (x:(List UInt8)):(Int)->Option Rn:=fun (z1:Int)=>(cnd (iLt z1 (Ah x)) (bnd (idx x z1) (fun z2=>(bnd (Cq ((Ai
 .i64 (y2i z2)),(97,122))) (fun z3=>(cnd (Ag z3) (bnd (idx x z1) (fun z4=>(bnd (Cq ((Ai .i64 (y2i z4)),(48,57))) (fun z5=>(cnd
 (Ag z5) (some (.inr (.inr false))) (some (.inl (Aj .i64 z1 1)))))))) (some (.inl (Aj .i64 z1 1)))))))) (some (.inr (.inl ()))))
def X8 (x:(List UInt8)):C6:=(Ao (Aw (Yec x) 0) (fun (z1:Unit)=>(bnd (Cq ((Ah x),(1,6))) (fun z2=>(some
 z2)))))
def Zcv (x:Int):C6:=(bnd (Cq (x,(0,5))) (fun z1=>(some z1)))
def Xy (x:D6):C6:=(bnd (Zcv x.1) (fun z1=>(cnd z1 (some (iLe (Ah x.2) 20)) (some false))))
def N1 (x:(List UInt8)):(Option (Int×Int)):=(cnd (iLt (Ah x) 1) (some (65533,0)) (bnd (idx x 0) (fun z1=>(chk (iLe 0 (y2i
 z1)) (chk (iLt (y2i z1) 256) (bnd (idx Qq (Int.ofNat (0+((nOf (y2i z1))*1)))) (fun z2=>(cnd (iGe (y2i z2) (y2i (u8 240))) (bnd (idx x 0) (fun z3 =>
 (some ((iOr .i32 (Zmx .i32 (Ai .i32 (y2i z3)) (Bi .i32 (B9 .i32 (Ai .i32 (y2i z2)) 31) 31)) (Aq .i32 65533 (Bi .i32 (B9 .i32 (Ai .i32 (y2i z2)) 31) 31))),
 1)))) (chk (iLe 0 (y2i (u8 (Bi .u8 (y2i z2) 4)))) (chk (iLt (y2i (u8 (Bi .u8 (y2i z2) 4))) 16) (bnd (idx V0 (Int.ofNat (0+((nOf (y2i (u8 (Bi .u8 (y2i z2) 4))))*2))))
 (fun z3=>(bnd (idx V0 (Int.ofNat ((0+((nOf (y2i (u8 (Bi .u8 (y2i z2) 4))))*2))+1))) (fun z4=>(cnd (iLt (Ah x) (Ai .i64 (y2i (u8 (Aq .u8
 (y2i z2) (y2i (u8 7))))))) (some (65533,1)) (bnd (idx x 1) (fun z5=>(cnd (iLt (y2i z5) (y2i z3)) (some (65533,1)) (cnd (iLt (y2i z4) (y2i z5)) (some (65533,1))
 (cnd (iLe (Ai .i64 (y2i (u8 (Aq .u8 (y2i z2) (y2i (u8 7)))))) 2) (some ((iOr .i32 (B9 .i32 (Ai .i32 (y2i (u8 (Aq .u8 (y2i z1) (y2i (u8 31)))))) 6) (Ai .i32 (y2i
 (u8 (Aq .u8 (y2i z5) (y2i (u8 63))))))),2)) (bnd (idx x 2) (fun z6=>(cnd (iLt (y2i z6) (y2i (u8 128))) (some (65533,1)) (cnd (iLt (y2i (u8 191)) (y2i z6)) (some
 (65533,1)) (cnd (iLe (Ai .i64 (y2i (u8 (Aq .u8 (y2i z2) (y2i (u8 7)))))) 3) (some ((iOr .i32 (iOr .i32 (B9 .i32 (Ai .i32 (y2i (u8 (Aq .u8 (y2i z1) (y2i (u8 15))))))
 12) (B9 .i32 (Ai .i32 (y2i (u8 (Aq .u8 (y2i z5) (y2i (u8 63)))))) 6)) (Ai .i32 (y2i (u8 (Aq .u8 (y2i z6) (y2i (u8 63))))))),3)) (bnd (idx x 3) (fun z7 =>
 (cnd (iLt (y2i z7) (y2i (u8 128))) (some (65533,1)) (cnd (iLt (y2i (u8 191)) (y2i z7)) (some (65533,1)) (some ((iOr .i32 (iOr .i32 (iOr .i32 (B9 .i32 (Ai .i32 (y2i (u8
 (Aq .u8 (y2i z1) (y2i (u8 7)))))) 18) (B9 .i32 (Ai .i32 (y2i (u8 (Aq .u8 (y2i z5) (y2i (u8 63)))))) 12)) (B9 .i32 (Ai .i32 (y2i (u8 (Aq .u8 (y2i z6) (y2i (u8
 63)))))) 6)) (Ai .i32 (y2i (u8 (Aq .u8 (y2i z7) (y2i (u8 63))))))),4)))))))))))))))))))))))))))))))
def Y6 (x:(List UInt8)):(Int)->Option ((Int) ⊕ (Unit ⊕ (Int×Int))):=fun (z1:Int)=>(cnd (iLt z1 (Ah x)) (bnd (idx x z1) (fun z2=>(cnd (iLt (y2i z2) (y2i (u8 128))) (some (.inr (.inr ((Ai .i32 (y2i z2)),1)))) (some (.inr (.inl ())))))) (some (.inr (.inl ()))))
def Zdm (x:(List UInt8)):(Option (Int×Int)):=(Ao (Aw (Y6 x) 0) (fun (z1:Unit)=>(bnd (N1 x) (fun
 z2=>(some (z2.1,z2.2))))))
def Zcr (x:D7):Lg:=(cnd (iLt x.2 0) (some (0,(0,false))) (cnd (iGe x.2 (Ah x.1)) (some (0,(0,false))) (chk (Di x.2 (Ah x.1) (Ah x.1))
 (chk (Tu (nOf x.2) (Br ((nOf (Ah x.1))-(nOf x.2)) (Dw (nOf x.2) x.1)).length) (bnd (Zdm (Br ((nOf (Ah x.1))-(nOf x.2)) (Dw (nOf x.2) x.1)))
 (fun z1=>(cnd (iEq z1.1 65533) (cnd (iLt z1.2 2) (some (0,(0,false))) (some ((Ai .i64 z1.1),((Aj .i64 x.2 z1.2),true)))) (some ((Ai .i64 z1.1),
 ((Aj .i64 x.2 z1.2),true))))))))))
def Zi5 (x:(Int×Int)):Zb8:=(cnd (iEq x.1 164) (bnd (Cq (x.2,(161,243))) (fun z1=>(cnd z1 (some ((Ba .i64 (Aj .i64 12353
 x.2) 161),true)) (cnd (iEq x.1 165) (bnd (Cq (x.2,(161,246))) (fun z2=>(cnd z2 (some ((Ba .i64 (Aj .i64 12449 x.2) 161),true)) (some (0,false)))))
 (some (0,false)))))) (cnd (iEq x.1 165) (bnd (Cq (x.2,(161,246))) (fun z1=>(cnd z1 (some ((Ba .i64 (Aj .i64 12449 x.2) 161),true)) (some (0,false)))))
 (some (0,false))))
def Zcq (x:D7):Lg:=(cnd (iLt x.2 0) (some (0,(0,false))) (cnd (iGe x.2 (Ah x.1)) (some (0,(0,false))) (bnd (idx x.1 x.2) (fun z1 =>
 (cnd (iLe (y2i z1) (y2i (u8 127))) (bnd (idx x.1 x.2) (fun z2=>(some ((Ai .i64 (y2i z2)),((Aj .i64 x.2 1),true))))) (cnd (iEq (Aj .i64 x.2 1) (Ah x.1))
 (some (0,(0,false))) (bnd (idx x.1 x.2) (fun z2=>(bnd (idx x.1 (Aj .i64 x.2 1)) (fun z3=>(bnd (Zi5 ((Ai .i64 (y2i z2)),(Ai .i64 (y2i
 z3)))) (fun z4=>(cnd (Ag z4.2) (some (0,(0,false))) (some (z4.1,((Aj .i64 x.2 2),true))))))))))))))))
def Zrw (x:Int):(Option Int):=(cnd (iEq x 164) (some 8364) (cnd (iEq x 166) (some 352) (cnd (iEq x 168) (some 353) (cnd (iEq x 180) (some 381) (cnd
 (iEq x 184) (some 382) (cnd (iEq x 188) (some 338) (cnd (iEq x 189) (some 339) (cnd (iEq x 190) (some 376) (some x)))))))))
def Zrv (x:Int):(Option Int):=(cnd (iGe x 224) (chk (iLe 0 (Ba .i64 x 224)) (chk (iLt (Ba .i64 x 224) 32) (bnd (idx [1102,1072,1073,1094,1076,
 1077,1092,1075,1093,1080,1081,1082,1083,1084,1085,1086,1087,1103,1088,1089,1090,1091,1078,1074,1100,1099,1079,1096,1101,1097,1095,1098] (Int.ofNat (0 +
 ((nOf (Ba .i64 x 224))*1)))) (fun z1=>(some (Ba .i64 z1 32)))))) (cnd (iGe x 192) (chk (iLe 0 (Ba .i64 x 192)) (chk (iLt (Ba .i64 x 192) 32) (bnd (idx [1102,
 1072,1073,1094,1076,1077,1092,1075,1093,1080,1081,1082,1083,1084,1085,1086,1087,1103,1088,1089,1090,1091,1078,1074,1100,1099,1079,1096,1101,1097,
 1095,1098] (Int.ofNat (0+((nOf (Ba .i64 x 192))*1)))) (fun z1=>(some z1))))) (cnd (iEq x 163) (some 1105) (cnd (iEq x 179) (some 1025) (some 0)))))
def Zrx (x:Int):(Option Int):=(cnd (iGe x 160) (some x) (chk (iLe 0 (Ba .i64 x 128)) (chk (iLt (Ba .i64 x 128) 32) (bnd (idx [8364,0,8218,402,
 8222,8230,8224,8225,710,8240,352,8249,338,0,381,0,0,8216,8217,8220,8221,8226,8211,8212,732,8482,353,8250,339,0,382,376] (Int.ofNat (0+((nOf (Ba
 .i64 x 128))*1)))) (fun z1=>(some z1))))))
def Rv (x:(Int×Int)):Zb8:=(bnd (Cq (x.1,(1,4))) (fun z1=>(cnd (Ag z1) (some (0,false)) (bnd (Cq (x.2,(0,255)))
 (fun z2=>(cnd (Ag z2) (some (0,false)) (cnd (iLe x.2 127) (some (x.2,true)) (Ao (cnd (iEq x.1 2) (bnd (Zrw x.2) (fun z3=>(some (.inl z3))))
 (cnd (iEq x.1 3) (bnd (Zrv x.2) (fun z3=>(some (.inl z3)))) (cnd (iEq x.1 4) (bnd (Zrx x.2) (fun z3=>(some (.inl z3)))) (some (.inl x.2)))))
 (fun (z3:Int)=>(some (z3,(iNe z3 0))))))))))))
def Zcy (x:Ziv):Lg:=(cnd (iEq x.1 0) (bnd (Zcr (x.2.1,x.2.2)) (fun z1=>(some (z1.1,(z1.2.1,z1.2.2))))) (cnd (iEq x.1 5) (bnd
 (Zcq (x.2.1,x.2.2)) (fun z1=>(some (z1.1,(z1.2.1,z1.2.2))))) (bnd (idx x.2.1 x.2.2) (fun z1=>(bnd (Rv (x.1,(Ai .i64 (y2i z1))))
 (fun z2=>(some (z2.1,((Aj .i64 x.2.2 1),z2.2)))))))))
def Zi7 (x:Int):C6:=(bnd (Cq (x,(0,1114111))) (fun z1=>(cnd z1 (bnd (Cq (x,(55296,57343))) (fun z2=>(some
 (Ag z2)))) (some false))))
def Zje (x:D7):F9:=(cnd (iLe (Ai .u32 x.2) 2047) (chk (A0 (x.1.length+2) 1) (some (Al x.1 [(u8 (iOr .u8 (y2i (u8 192)) (y2i
 (u8 (Ai .u8 (Bi .i32 x.2 6)))))),(u8 (iOr .u8 (y2i (u8 128)) (y2i (u8 (Aq .u8 (y2i (u8 (Ai .u8 x.2))) (y2i (u8 63)))))))]))) (Ao (cnd (iLt (Ai .u32 x.2) 55296)
 (some (.inl true)) (cnd (iLt 57343 (Ai .u32 x.2)) (some (.inl (iLe (Ai .u32 x.2) 65535))) (some (.inl false)))) (fun (z1:Bool)=>(cnd z1 (chk (A0 (x.1.length+3) 1)
 (some (Al x.1 [(u8 (iOr .u8 (y2i (u8 224)) (y2i (u8 (Ai .u8 (Bi .i32 x.2 12)))))),(u8 (iOr .u8 (y2i (u8 128)) (y2i (u8 (Aq .u8 (y2i (u8 (Ai .u8 (Bi .i32 x.2 6))))
 (y2i (u8 63))))))),(u8 (iOr .u8 (y2i (u8 128)) (y2i (u8 (Aq .u8 (y2i (u8 (Ai .u8 x.2))) (y2i (u8 63)))))))]))) (cnd (iGt (Ai .u32 x.2) 65535) (cnd (iLe (Ai .u32 x.2)
 1114111) (chk (A0 (x.1.length+4) 1) (some (Al x.1 [(u8 (iOr .u8 (y2i (u8 240)) (y2i (u8 (Ai .u8 (Bi .i32 x.2 18)))))),(u8 (iOr .u8 (y2i (u8 128)) (y2i (u8 (Aq .u8
 (y2i (u8 (Ai .u8 (Bi .i32 x.2 12)))) (y2i (u8 63))))))),(u8 (iOr .u8 (y2i (u8 128)) (y2i (u8 (Aq .u8 (y2i (u8 (Ai .u8 (Bi .i32 x.2 6)))) (y2i (u8 63))))))),(u8 (iOr
 .u8 (y2i (u8 128)) (y2i (u8 (Aq .u8 (y2i (u8 (Ai .u8 x.2))) (y2i (u8 63)))))))]))) (chk (A0 (x.1.length+3) 1) (some (Al x.1 [(u8 239),(u8 191),(u8 189)])))) (chk
 (A0 (x.1.length+3) 1) (some (Al x.1 [(u8 239),(u8 191),(u8 189)]))))))))
def Zjd (x:D7):F9:=(cnd (iLe (Ai .u32 x.2) 127) (chk (A0 (x.1.length+1) 1) (some (Al x.1 [(u8 (Ai .u8 x.2))]))) (bnd
 (Zje (x.1,x.2)) (fun z1=>(some z1))))
def Zct (x:D7):F9:=(bnd (Fv [x.1]) (fun z1=>(bnd (Zi7 x.2) (fun z2=>(cnd (Ag z2) (some z1) (bnd
 (Zjd (z1,(Ai .i32 x.2))) (fun z3=>(some z3))))))))
def Zjj (x:D6):D7->Option Zq4:=fun (z2:D7)=>(cnd (iLt z2.2 (Ah x.2)) (bnd (Zcy (x.1,(x.2,z2.2))) (fun z3=>(cnd (Ag
 z3.2.2) (some (.inr (.inr ([],false)))) (bnd (Zct (z2.1,z3.1)) (fun z4=>(some (.inl (z4,z3.2.1)))))))) (some (.inr (.inl z2.1))))
def Zcp (x:D6):Uj:=(bnd (Zcv x.1) (fun z1=>(cnd (Ag z1) (some ([],false)) (Ao (Aw (Zjj x) ([],0)) (fun (z2 :
 (List UInt8))=>(some (z2,true)))))))
def Rw (x:D6):Uj:=(bnd (Xy (x.1,x.2)) (fun z1=>(cnd (Ag z1) (some ([],false)) (bnd (Zcp (x.1,x.2)) (fun z2
 => (some (z2.1,z2.2)))))))
def Zi6 (x:Zit):C6:=(bnd (Rw (x.1.1,x.1.2)) (fun z1=>(bnd (Rw (x.2.1,x.2.2)) (fun z2=>(cnd z1.2 (cnd
 z2.2 (some (sEq z1.1 z2.1)) (some false)) (some false))))))
def Ln (x:Ft):C6:=(bnd (X8 x.1) (fun z1=>(cnd (Ag z1) (some false) (bnd (Cq (x.2.2.2.1,(1,3))) (fun z2 =>
 (cnd (Ag z2) (some false) (bnd (Rw (x.2.1.1,x.2.1.2)) (fun z3=>(bnd (Rw (x.2.2.1.1,x.2.2.1.2)) (fun z4=>(bnd (Lo
 ((x.2.1.1,x.2.1.2),(0,[]))) (fun z5=>(Ao (cnd (iNe x.2.2.2.1 2) (bnd (Xy (x.2.1.1,x.2.1.2)) (fun z6=>(cnd z6 (cnd (iNe x.2.1.1 0) (cnd z3.2
 (some (.inl true)) (cnd x.2.2.2.2 (some (.inl (iEq x.2.2.2.1 1))) (some (.inl false)))) (some (.inl false))) (some (.inl false))))) (some (.inl z5))) (fun (z6:Bool)=>(bnd
 (Lo ((x.2.2.1.1,x.2.2.1.2),(0,[]))) (fun z7=>(Ao (cnd (iNe x.2.2.2.1 1) (cnd (iEq x.2.2.1.1 0) (some (.inl z4.2)) (some (.inl false))) (some (.inl
 z7))) (fun (z8:Bool)=>(cnd z6 (cnd z8 (cnd (iNe x.2.2.2.1 3) (some true) (bnd (Zi6 ((x.2.1.1,x.2.1.2),(x.2.2.1.1,x.2.2.1.2))) (fun z9=>(some z9))))
 (some false)) (some false))))))))))))))))))))
def Nv (x:Int):C6:=(bnd (Cq (x,(0,65535))) (fun z1=>(some z1)))
def P0 (x:Jx):C6:=(bnd (Zcx ((x.2.1.1,((x.2.1.2.1.1,x.2.1.2.1.2),((x.2.1.2.2.1.1,x.2.1.2.2.1.2),(x.2.1.2.2.2.1,x.2.1.2.2.2.2)))),([],
 ((0,[]),((0,[]),(0,false)))))) (fun z1=>(Ao (cnd (iEq x.1 1) (bnd (Ln (x.2.1.1,((x.2.1.2.1.1,x.2.1.2.1.2),((x.2.1.2.2.1.1,x.2.1.2.2.1.2),
 (x.2.1.2.2.2.1,x.2.1.2.2.2.2))))) (fun z2=>(cnd z2 (cnd (sEq x.2.2.1 []) (some (.inl (iEq x.2.2.2.1 0))) (some (.inl false))) (some (.inl false))))) (cnd (iEq x.1 2)
 (cnd z1 (bnd (X8 x.2.2.1) (fun z2=>(cnd z2 (some (.inl (iEq x.2.2.2.1 0))) (some (.inl false))))) (some (.inl false))) (cnd (iEq x.1 3) (cnd z1 (cnd (sEq
 x.2.2.1 []) (bnd (Cq (x.2.2.2.1,(0,7))) (fun z2=>(some (.inl z2)))) (some (.inl false))) (some (.inl false))) (cnd (iEq x.1 4) (cnd z1 (cnd (sEq x.2.2.1 [])
 (cnd (iEq x.2.2.2.1 0) (some (.inl (iNe x.2.2.2.2.1 0))) (some (.inl false))) (some (.inl false))) (some (.inl false))) (some (.inl false)))))) (fun (z2:Bool)=>(cnd (iEq
 x.2.2.2.2.1 0) (cnd z2 (cnd (iEq x.2.2.2.2.2.1 0) (some (iEq x.2.2.2.2.2.2 0)) (some false)) (some false)) (cnd z2 (bnd (Cq (x.2.2.2.2.1,(1,9))) (fun z3 =>
 (cnd z3 (bnd (Nv x.2.2.2.2.2.1) (fun z4=>(cnd z4 (bnd (Cq (x.2.2.2.2.2.2,(0,6))) (fun z5=>(some z5))) (some false)))) (some false))))
 (some false)))))))
def Zdv (x:Ef):(Int)->Option Rn:=fun (z1:Int)=>(cnd (iLt z1 (Ah x.1)) (bnd (idx x.1 z1) (fun z2=>(bnd (Ln (z2.1,
 ((z2.2.1.1,z2.2.1.2),((z2.2.2.1.1,z2.2.2.1.2),(z2.2.2.2.1,z2.2.2.2.2))))) (fun z3=>(cnd (Ag z3) (some (.inr (.inr false))) (cnd (iGt z1 0) (bnd (idx x.1 (Ba
 .i64 z1 1)) (fun z4=>(cnd (Ag (sLt z4.1 z2.1)) (some (.inr (.inr false))) (some (.inl (Aj .i64 z1 1)))))) (some (.inl (Aj .i64 z1 1))))))))) (some (.inr (.inl
 ()))))
def Zdw (x:Ef):(Int)->Option Rn:=fun (z2:Int)=>(cnd (iLt z2 (Ah x.2.2)) (bnd (idx x.2.2 z2) (fun z3=>(bnd (Cq (z3.1,(1,
 9))) (fun z4=>(cnd (Ag z4) (some (.inr (.inr false))) (bnd (Nv z3.2.1) (fun z5=>(cnd (Ag z5) (some (.inr (.inr false))) (bnd (Cq
 (z3.2.2,(0,6))) (fun z6=>(cnd (Ag z6) (some (.inr (.inr false))) (cnd (iGt z2 0) (bnd (idx x.2.2 (Ba .i64 z2 1)) (fun z7=>(cnd (iGe z7.1 z3.1) (some
 (.inr (.inr false))) (some (.inl (Aj .i64 z2 1)))))) (some (.inl (Aj .i64 z2 1))))))))))))))) (some (.inr (.inl ()))))
def Nu (x:Ef):C6:=(Ao (Aw (Zdv x) 0) (fun (z1:Unit)=>(Ao (Aw (Zdw x) 0) (fun (z2:Unit)=>(cnd (iLe (Ah x.1) 8)
 (bnd (Cq (x.2.1,(0,7))) (fun z3=>(some z3))) (some false))))))
def Zdz (x:Zio):Zq1->Option (Zq1 ⊕ Ycr):=fun (z1:Zq1)=>(cnd (iLt z1.2.2.2 (Ah x.1)) (Ao (bnd (idx z1.2.2.1 z1.2.2.2) (fun z2
 => (chk (Hl z2.2.1.2) (chk (Hl z2.2.2.1.2) (Ao (cnd (Ag z1.2.1) (cnd (Ag (sLt z2.1 x.2.1)) (bnd (P1 x.2) (fun z3=>(chk (A0 (z1.1.length+1)
 96) (some (.inl ((Al z1.1 [z3]),true)))))) (some (.inl (z1.1,z1.2.1)))) (some (.inl (z1.1,z1.2.1)))) (fun (z3:Xn)=>(cnd (Ag (sEq z2.1 x.2.1)) (bnd (idx z1.2.2.1
 (Int.ofNat (nOf z1.2.2.2))) (fun z4=>(bnd (idx (Bq z1.2.2.1 (nOf z1.2.2.2) (z4.1,((z4.2.1.1,none),z4.2.2))) (Int.ofNat (nOf z1.2.2.2))) (fun z5=>(chk
 (A0 (z3.1.length+1) 96) (some (.inl ((Al z3.1 [(z2.1,((z2.2.1.1,(Jo z2.2.1.2)),((z2.2.2.1.1,(Jo z2.2.2.1.2)),z2.2.2.2)))]),(z3.2,(Bq (Bq z1.2.2.1 (nOf
 z1.2.2.2) (z4.1,((z4.2.1.1,none),z4.2.2))) (nOf z1.2.2.2) (z5.1,(z5.2.1,((z5.2.2.1.1,none),z5.2.2.2))))))))))))) (some (.inl (z3.1,(z3.2,z1.2.2.1))))))))))) (fun (z2 :
 (Fs×(Bool×Rm)))=>(some (.inl (z2.1,(z2.2.1,(z2.2.2,(Aj .i64 z1.2.2.2 1)))))))) (some (.inr (.inl (z1.1,z1.2.1)))))
def Ye (x:Zio):Yc2:=(Ao (Aw (Zdz x) ([],(false,(x.1,0)))) (fun (z1:Xn)=>(Ao (cnd (Ag z1.2) (bnd (P1 x.2) (fun
 z2=>(chk (A0 (z1.1.length+1) 96) (some (.inl (Al z1.1 [z2])))))) (some (.inl z1.1))) (fun (z2:Fs)=>(some z2)))))
def Xx (x:(Ft×Jx)):(Option Ywm):=(some ((sEq x.1.1 x.2.2.2.1),(x.2.1,(x.2.2.1.1,(x.2.2.1.2.1.1,(x.2.2.1.2.2.1.1,(x.2.2.1.2.2.2.1,
 (x.2.2.1.2.2.2.2,x.2.2.2))))))))
def Zjz (x:tqR):Ziq->Option (Ziq ⊕ Yc0):=fun (z1:Ziq)=>(cnd (iLt z1.2.2.2.2.2.2.2.2.2.2.2 (Ah x.1)) (bnd (idx x.1
 z1.2.2.2.2.2.2.2.2.2.2.2) (fun z2=>(bnd (Xx (z2,(z1.1,((z1.2.1,((z1.2.2.1,x.2.2.1.2.1.2),((z1.2.2.2.1,x.2.2.1.2.2.1.2),(z1.2.2.2.2.1,
 z1.2.2.2.2.2.1)))),(z1.2.2.2.2.2.2.1,(z1.2.2.2.2.2.2.2.1,(z1.2.2.2.2.2.2.2.2.1,(z1.2.2.2.2.2.2.2.2.2.1,z1.2.2.2.2.2.2.2.2.2.2.1)))))))) (fun z3=>(cnd z3.1 (some
 (.inr (z1.2.2.2.2.2.2.2.2.2.2.2,z3.2))) (some (.inl (z3.2.1,(z3.2.2.1,(z3.2.2.2.1,(z3.2.2.2.2.1,(z3.2.2.2.2.2.1,(z3.2.2.2.2.2.2.1,(z3.2.2.2.2.2.2.2.1,
 (z3.2.2.2.2.2.2.2.2.1,(z3.2.2.2.2.2.2.2.2.2.1,(z3.2.2.2.2.2.2.2.2.2.2.1,(z3.2.2.2.2.2.2.2.2.2.2.2,(Aj .i64 z1.2.2.2.2.2.2.2.2.2.2.2 1))))))))))))))))))) (some (.inr ((-1),
 (z1.1,(z1.2.1,(z1.2.2.1,(z1.2.2.2.1,(z1.2.2.2.2.1,(z1.2.2.2.2.2.1,(z1.2.2.2.2.2.2.1,(z1.2.2.2.2.2.2.2.1,(z1.2.2.2.2.2.2.2.2.1,(z1.2.2.2.2.2.2.2.2.2.1,
 z1.2.2.2.2.2.2.2.2.2.2.1))))))))))))))
def Zdl (x:tqR):(Option Yc0):=(Aw (Zjz x) (x.2.1,(x.2.2.1.1,(x.2.2.1.2.1.1,(x.2.2.1.2.2.1.1,
 (x.2.2.1.2.2.2.1,(x.2.2.1.2.2.2.2,(x.2.2.2.1,(x.2.2.2.2.1,(x.2.2.2.2.2.1,(x.2.2.2.2.2.2.1,(x.2.2.2.2.2.2.2,0))))))))))))
def Y5 (x:tqL):tqS->Option (tqS ⊕ (tqZ ⊕ Ycq)):=fun (z3:tqS)=>(cnd (iLt z3.2.2.2.2.2.2.2.2.2.2.2.2.2 (Ah z3.1)) (Ao (bnd
 (idx z3.1 z3.2.2.2.2.2.2.2.2.2.2.2.2.2) (fun z4=>(chk (Hl z4.2.1.2) (chk (Hl z4.2.2.1.2) (bnd (Xx ((z4.1,((z4.2.1.1,(Jo z4.2.1.2)),((z4.2.2.1.1,
 (Jo z4.2.2.1.2)),z4.2.2.2))),(z3.2.1,((z3.2.2.1,((z3.2.2.2.1,x.2.2.1.2.1.2),((z3.2.2.2.2.1,x.2.2.1.2.2.1.2),(z3.2.2.2.2.2.1,z3.2.2.2.2.2.2.1)))),(z3.2.2.2.2.2.2.2.1,
 (z3.2.2.2.2.2.2.2.2.1,(z3.2.2.2.2.2.2.2.2.2.1,(z3.2.2.2.2.2.2.2.2.2.2.1,z3.2.2.2.2.2.2.2.2.2.2.2.1)))))))) (fun z5=>(cnd (Ag z5.1) (bnd (idx z3.1
 z3.2.2.2.2.2.2.2.2.2.2.2.2.1) (fun z6=>(chk (nNe (nOf z3.2.2.2.2.2.2.2.2.2.2.2.2.1) (nOf z3.2.2.2.2.2.2.2.2.2.2.2.2.2)) (bnd (idx z3.1 (Int.ofNat (nOf
 z3.2.2.2.2.2.2.2.2.2.2.2.2.2))) (fun z7=>(chk (nEq (nOf z3.2.2.2.2.2.2.2.2.2.2.2.2.2) (nOf z3.2.2.2.2.2.2.2.2.2.2.2.2.2)) (chk (nEq (nOf z3.2.2.2.2.2.2.2.2.2.2.2.2.2)
 (nOf z3.2.2.2.2.2.2.2.2.2.2.2.2.2)) (some (.inl ((Bq (Bq z3.1 (nOf z3.2.2.2.2.2.2.2.2.2.2.2.2.1) (z4.1,((z4.2.1.1,(some (Jo z4.2.1.2))),((z4.2.2.1.1,(some (Jo
 z4.2.2.1.2))),z4.2.2.2)))) (nOf z3.2.2.2.2.2.2.2.2.2.2.2.2.2) (z7.1,((z7.2.1.1,none),((z7.2.2.1.1,none),z7.2.2.2)))),(z5.2.1,(z5.2.2.1,(z5.2.2.2.1,(z5.2.2.2.2.1,
 (z5.2.2.2.2.2.1,(z5.2.2.2.2.2.2.1,(z5.2.2.2.2.2.2.2.1,(z5.2.2.2.2.2.2.2.2.1,(z5.2.2.2.2.2.2.2.2.2.1,(z5.2.2.2.2.2.2.2.2.2.2.1,(z5.2.2.2.2.2.2.2.2.2.2.2,(Aj .i64
 z3.2.2.2.2.2.2.2.2.2.2.2.2.1 1)))))))))))))))))))))) (some (.inl (z3.1,(z5.2.1,(z5.2.2.1,(z5.2.2.2.1,(z5.2.2.2.2.1,(z5.2.2.2.2.2.1,(z5.2.2.2.2.2.2.1,(z5.2.2.2.2.2.2.2.1,
 (z5.2.2.2.2.2.2.2.2.1,(z5.2.2.2.2.2.2.2.2.2.1,(z5.2.2.2.2.2.2.2.2.2.2.1,(z5.2.2.2.2.2.2.2.2.2.2.2,z3.2.2.2.2.2.2.2.2.2.2.2.2.1))))))))))))))))))))) (fun (z4:tqZ)=>(some
 (.inl (z4.1,(z4.2.1,(z4.2.2.1,(z4.2.2.2.1,(z4.2.2.2.2.1,(z4.2.2.2.2.2.1,(z4.2.2.2.2.2.2.1,(z4.2.2.2.2.2.2.2.1,(z4.2.2.2.2.2.2.2.2.1,(z4.2.2.2.2.2.2.2.2.2.1,
 (z4.2.2.2.2.2.2.2.2.2.2.1,(z4.2.2.2.2.2.2.2.2.2.2.2.1,(z4.2.2.2.2.2.2.2.2.2.2.2.2,(Aj .i64 z3.2.2.2.2.2.2.2.2.2.2.2.2.2 1)))))))))))))))))) (some (.inr (.inl (z3.1,(z3.2.1,
 (z3.2.2.1,(z3.2.2.2.1,(z3.2.2.2.2.1,(z3.2.2.2.2.2.1,(z3.2.2.2.2.2.2.1,(z3.2.2.2.2.2.2.2.1,(z3.2.2.2.2.2.2.2.2.1,(z3.2.2.2.2.2.2.2.2.2.1,(z3.2.2.2.2.2.2.2.2.2.2.1,
 (z3.2.2.2.2.2.2.2.2.2.2.2.1,z3.2.2.2.2.2.2.2.2.2.2.2.2.1))))))))))))))))
def Yz (x:tqL):(Option Ycq):=(bnd (cvL (.P .S (.P (.P (.I .i64) (.H .Y)) (.P (.P (.I .i64) (.H .Y)) (.P (.I .i64) .B)))) (.P .S (.P
 (.P (.I .i64) (.L .Y)) (.P (.P (.I .i64) (.L .Y)) (.P (.I .i64) .B)))) x.1) (fun z1=>(bnd (Zdl (z1,x.2)) (fun z2=>(cnd (iEq z2.1
 (-1)) (bnd (cvL (.P .S (.P (.P (.I .i64) (.H .Y)) (.P (.P (.I .i64) (.H .Y)) (.P (.I .i64) .B)))) (.P .S (.P (.P (.I .i64) (.L .Y)) (.P (.P (.I .i64) (.L .Y)) (.P (.I .i64)
 .B)))) x.1) (fun z3=>(some (z3,z2.2)))) (Ao (Aw (Y5 x) (x.1,(z2.2.1,(z2.2.2.1,(z2.2.2.2.1,(z2.2.2.2.2.1,(z2.2.2.2.2.2.1,
 (z2.2.2.2.2.2.2.1,(z2.2.2.2.2.2.2.2.1,(z2.2.2.2.2.2.2.2.2.1,(z2.2.2.2.2.2.2.2.2.2.1,(z2.2.2.2.2.2.2.2.2.2.2.1,(z2.2.2.2.2.2.2.2.2.2.2.2,(z2.1,(Aj .i64 z2.1
 1))))))))))))))) (fun (z3:tqZ)=>(chk (Di z3.2.2.2.2.2.2.2.2.2.2.2.2 (Ah z3.1) (Ah z3.1)) (chk (nEq ((nOf z3.2.2.2.2.2.2.2.2.2.2.2.2)+((nOf (Ah z3.1))-(nOf
 z3.2.2.2.2.2.2.2.2.2.2.2.2))) z3.1.length) (chk (Di 0 z3.2.2.2.2.2.2.2.2.2.2.2.2 (Ah (Al (Br (nOf z3.2.2.2.2.2.2.2.2.2.2.2.2) z3.1) (I2 ((nOf (Ah z3.1))-(nOf
 z3.2.2.2.2.2.2.2.2.2.2.2.2)) ([],((0,none),((0,none),(0,false)))))))) (chk (Jn 0 ((nOf z3.2.2.2.2.2.2.2.2.2.2.2.2)-0) (Al (Br (nOf z3.2.2.2.2.2.2.2.2.2.2.2.2)
 z3.1) (I2 ((nOf (Ah z3.1))-(nOf z3.2.2.2.2.2.2.2.2.2.2.2.2)) ([],((0,none),((0,none),(0,false)))))).length) (bnd (cvL (.P .S (.P (.P (.I .i64) (.H .Y)) (.P (.P (.I
 .i64) (.H .Y)) (.P (.I .i64) .B)))) (.P .S (.P (.P (.I .i64) (.L .Y)) (.P (.P (.I .i64) (.L .Y)) (.P (.I .i64) .B)))) (Br ((nOf z3.2.2.2.2.2.2.2.2.2.2.2.2)-0) (Al (Br
 (nOf z3.2.2.2.2.2.2.2.2.2.2.2.2) z3.1) (I2 ((nOf (Ah z3.1))-(nOf z3.2.2.2.2.2.2.2.2.2.2.2.2)) ([],((0,none),((0,none),(0,false)))))))) (fun z4=>(some (z4,
 (z3.2.1,(z3.2.2.1,(z3.2.2.2.1,(z3.2.2.2.2.1,(z3.2.2.2.2.2.1,(z3.2.2.2.2.2.2.1,(z3.2.2.2.2.2.2.2.1,(z3.2.2.2.2.2.2.2.2.1,(z3.2.2.2.2.2.2.2.2.2.1,
 (z3.2.2.2.2.2.2.2.2.2.2.1,z3.2.2.2.2.2.2.2.2.2.2.2.1)))))))))))))))))))))))))
def Zjp (x:Zb5):Zb6->Option Ycz:=fun (z1:Zb6)=>(cnd (iLt z1.2.2 (Ah x.1)) (Ao (bnd (idx x.1 z1.2.2) (fun z2=>(Ao (cnd
 (Ag z1.2.1) (cnd (iGe z2.1 x.2.1) (chk (A0 (z1.1.length+1) 24) (some (.inl ((Al z1.1 [x.2]),true)))) (some (.inl (z1.1,z1.2.1)))) (some (.inl (z1.1,z1.2.1)))) (fun (z3
 : Ui)=>(cnd (iNe z2.1 x.2.1) (chk (A0 (z3.1.length+1) 24) (some (.inl ((Al z3.1 [z2]),z3.2)))) (some (.inl z3))))))) (fun (z2:Ui)=>(some (.inl (z2.1,(z2.2,
 (Aj .i64 z1.2.2 1))))))) (some (.inr (.inl (z1.1,z1.2.1)))))
def Uv (x:Zb5):Ydd:=(Ao (Aw (Zjp x) ([],(false,0))) (fun (z1:Ui)=>(Ao (cnd (Ag z1.2) (chk (A0 (z1.1.length+1) 24)
 (some (.inl (Al z1.1 [x.2])))) (some (.inl z1.1))) (fun (z2:Jc)=>(some z2)))))
def Uq (x:tqH):Ycv:=(bnd (Uu x.1) (fun z1=>(bnd (P0 x.2) (fun z2=>(cnd (Ag z2) (some (z1,false)) (bnd
 (Nu x.1) (fun z3=>(cnd (Ag z3) (some (z1,false)) (Ao (cnd (iEq x.2.1 1) (bnd (cvL (.P .S (.P (.P (.I .i64) (.L .Y)) (.P (.P (.I .i64) (.L .Y)) (.P (.I
 .i64) .B)))) (.P .S (.P (.P (.I .i64) (.H .Y)) (.P (.P (.I .i64) (.H .Y)) (.P (.I .i64) .B)))) z1.1) (fun z4=>(bnd (Ye (z4,x.2.2.1)) (fun z5 =>
 (some (.inl (x.2.1,(x.2.2.1.1,(x.2.2.1.2.1.1,(x.2.2.1.2.2.1.1,(x.2.2.1.2.2.2.1,(x.2.2.1.2.2.2.2,(x.2.2.2.1,(x.2.2.2.2.1,(x.2.2.2.2.2.1,(x.2.2.2.2.2.2.1,
 (x.2.2.2.2.2.2.2,(z5,z1.2.1)))))))))))))))))) (cnd (iEq x.2.1 2) (bnd (cvL (.P .S (.P (.P (.I .i64) (.L .Y)) (.P (.P (.I .i64) (.L .Y)) (.P (.I .i64) .B)))) (.P .S (.P (.P (.I
 .i64) (.H .Y)) (.P (.P (.I .i64) (.H .Y)) (.P (.I .i64) .B)))) z1.1) (fun z4=>(bnd (Yz (z4,x.2)) (fun z5=>(some (.inl (z5.2.1,
 (z5.2.2.1,(z5.2.2.2.1,(z5.2.2.2.2.1,(z5.2.2.2.2.2.1,(z5.2.2.2.2.2.2.1,(z5.2.2.2.2.2.2.2.1,(z5.2.2.2.2.2.2.2.2.1,(z5.2.2.2.2.2.2.2.2.2.1,(z5.2.2.2.2.2.2.2.2.2.2.1,
 (z5.2.2.2.2.2.2.2.2.2.2.2,(z5.1,z1.2.1)))))))))))))))))) (cnd (iEq x.2.1 3) (some (.inl (x.2.1,(x.2.2.1.1,(x.2.2.1.2.1.1,(x.2.2.1.2.2.1.1,(x.2.2.1.2.2.2.1,
 (x.2.2.1.2.2.2.2,(x.2.2.2.1,(x.2.2.2.2.1,(x.2.2.2.2.2.1,(x.2.2.2.2.2.2.1,(x.2.2.2.2.2.2.2,(z1.1,x.2.2.2.2.1)))))))))))))) (some (.inl (x.2.1,(x.2.2.1.1,(x.2.2.1.2.1.1,
 (x.2.2.1.2.2.1.1,(x.2.2.1.2.2.2.1,(x.2.2.1.2.2.2.2,(x.2.2.2.1,(x.2.2.2.2.1,(x.2.2.2.2.2.1,(x.2.2.2.2.2.2.1,(x.2.2.2.2.2.2.2,(z1.1,z1.2.1))))))))))))))))) (fun (z4:(Int
 × ((List UInt8)×(Int×(Int×(Int×(Bool×((List UInt8)×(Int×(Int×(Int×(Int×Uh))))))))))))=>(Ao (cnd (iGt z4.2.2.2.2.2.2.2.2.1 0) (bnd (Uv
 (z1.2.2,(z4.2.2.2.2.2.2.2.2.1,(z4.2.2.2.2.2.2.2.2.2.1,z4.2.2.2.2.2.2.2.2.2.2.1)))) (fun z5=>(some (.inl z5)))) (some (.inl z1.2.2))) (fun (z5:Jc)=>(bnd
 (Nu (z4.2.2.2.2.2.2.2.2.2.2.2.1,(z4.2.2.2.2.2.2.2.2.2.2.2.2,z5))) (fun z6=>(cnd (Ag z6) (bnd (Uu x.1) (fun z7=>(some (z7,false))))
 (some ((z4.2.2.2.2.2.2.2.2.2.2.2.1,(z4.2.2.2.2.2.2.2.2.2.2.2.2,z5)),true)))))))))))))))))
def Zdo (x:Fk):(Int)->Option Rn:=fun (z3:Int)=>(cnd (iLt z3 (Ah x.1)) (bnd (idx x.1 z3) (fun z4=>(cnd (iGt (Ah z4) 120)
 (some (.inr (.inr false))) (some (.inl (Aj .i64 z3 1)))))) (some (.inr (.inl ()))))
def Zdp (x:Fk):(Int)->Option ((Int) ⊕ Bool):=fun (z4:Int)=>(cnd (iLt z4 (Ah x.2.1)) (bnd (idx x.2.1 z4) (fun z5=>(bnd (Cq
 (z5.1,(0,(Ba .i64 (Ah x.1) 1)))) (fun z6=>(cnd (Ag z6) (some (.inr false)) (cnd (iGt (Ah z5.2) 120) (some (.inr false)) (some (.inl (Aj .i64 z4 1)))))))))
 (some (.inr true)))
def Jh (x:Fk):C6:=(bnd (Cq ((Ah x.1),(1,64))) (fun z1=>(cnd (Ag z1) (some false) (cnd (iGt (Ah x.2.1) 40) (some false)
 (bnd (Cq (x.2.2.1,((-1),1000))) (fun z2=>(cnd (Ag z2) (some false) (Ao (Aw (Zdo x) 0) (fun (z3:Unit)=>(Aw (Zdp x) 0))))))))))
def Rz (x:Nm):C6:=(bnd (Jh (x.1.1,(x.1.2.1,(x.1.2.2.1,x.1.2.2.2)))) (fun z1=>(cnd z1 (cnd (iEq (Ah x.1.1) 62) (cnd (iEq
 (Ah x.1.2.1) 0) (bnd (Nu (x.2.1.1,(x.2.1.2.1,x.2.1.2.2))) (fun z2=>(cnd z2 (bnd (Cq (x.2.2.1,(1,60000))) (fun z3=>(cnd z3 (bnd
 (Cq (x.2.2.2,(0,30))) (fun z4=>(some z4))) (some false)))) (some false)))) (cnd x.1.2.2.2 (bnd (Nu (x.2.1.1,(x.2.1.2.1,x.2.1.2.2))) (fun z2
 => (cnd z2 (bnd (Cq (x.2.2.1,(1,60000))) (fun z3=>(cnd z3 (bnd (Cq (x.2.2.2,(0,30))) (fun z4=>(some z4))) (some false)))) (some
 false)))) (some false))) (some false)) (some false))))
def Zjk (x:Ef):Pp->Option tqC:=fun (z1:Pp)=>(cnd (iLt z1.2 (Ah x.1)) (bnd (idx x.1 z1.2) (fun z2=>(bnd (P1 (z2.1,
 ((z2.2.1.1,z2.2.1.2),((z2.2.2.1.1,z2.2.2.1.2),(z2.2.2.2.1,z2.2.2.2.2))))) (fun z3=>(chk (A0 (z1.1.length+1) 152) (some (.inl ((Al z1.1 [(1,((z3.1,
 ((z3.2.1.1,z3.2.1.2),((z3.2.2.1.1,z3.2.2.1.2),(z3.2.2.2.1,z3.2.2.2.2)))),([],(0,(0,(0,0))))))]),(Aj .i64 z1.2 1))))))))) (some (.inr (.inl z1.1))))
def Zjl (x:Ef):Pp->Option tqC:=fun (z2:Pp)=>(cnd (iLt z2.2 (Ah x.2.2)) (bnd (idx x.2.2 z2.2) (fun z3=>(chk (A0 (z2.1.length +
 1) 152) (some (.inl ((Al z2.1 [(4,(([],((0,[]),((0,[]),(0,false)))),([],(0,(z3.1,(z3.2.1,z3.2.2))))))]),(Aj .i64 z2.2 1))))))) (some (.inr (.inl z2.1))))
def Zcu (x:Ef):Yct:=(Ao (Aw (Zjk x) ([(3,(([],((0,[]),((0,[]),(0,false)))),([],(x.2.1,(0,(0,0))))))],0)) (fun (z1:Nn)
 => (Ao (Aw (Zjl x) (z1,0)) (fun (z2:Nn)=>(some z2)))))
def Mp (x:(Int×Int)):(Option Int):=(some (Aj .i64 (Aj .i64 2 (Dd .i64 30 (De x.1 2))) x.2))
def J1 (x:D7):F9:=(bnd (Fv [x.1,[(u8 (Ai .u8 (Aq .i64 (Bi .i64 x.2 8) 255))),(u8 (Ai .u8 (Aq .i64 x.2 255)))]]) (fun z1=>(some z1)))
def Nt (x:((List UInt8)×(List UInt8))):F9:=(cnd (iGt (Ah x.2) 60) (bnd (Fv [x.1]) (fun z1=>(some z1))) (bnd (J1
 (x.1,(Ah x.2))) (fun z1=>(bnd (Fv [z1,x.2]) (fun z2=>(some z2))))))
def Zi8 (x:Bool):(Option UInt8):=(cnd x (some (u8 1)) (some (u8 0)))
def Ya (x:Yc1):F9:=(bnd (Fv [x.1]) (fun z1=>(bnd (Ln (x.2.1,((x.2.2.1.1,x.2.2.1.2),((x.2.2.2.1.1,x.2.2.2.1.2),
 (x.2.2.2.2.1,x.2.2.2.2.2))))) (fun z2=>(cnd (Ag z2) (some z1) (bnd (Nt (z1,x.2.1)) (fun z3=>(bnd (Zi8 x.2.2.2.2.2) (fun z4=>(chk (A0 (z3.length+2) 1) (Ao (cnd (iNe x.2.2.2.2.1 2) (chk (A0 ((Al z3 [(u8 (Ai .u8 x.2.2.2.2.1)),z4]).length+1) 1) (bnd (Nt ((Al (Al z3
 [(u8 (Ai .u8 x.2.2.2.2.1)),z4]) [(u8 (Ai .u8 x.2.2.1.1))]),x.2.2.1.2)) (fun z5=>(some (.inl z5))))) (some (.inl (Al z3 [(u8 (Ai .u8 x.2.2.2.2.1)),
 z4])))) (fun (z5:(List UInt8))=>(Ao (cnd (iNe x.2.2.2.2.1 1) (chk (A0 (z5.length+1) 1) (bnd (Nt ((Al z5 [(u8 (Ai .u8 x.2.2.2.1.1))]),x.2.2.2.1.2)) (fun
 z6=>(some (.inl z6))))) (some (.inl z5))) (fun (z6:(List UInt8))=>(some z6)))))))))))))))
def Zjm:(Int×Int)->Option Yc6:=fun (z3:(Int×Int))=>(cnd (iLt z3.2 8) (Ao (cnd (iGt (Dd .i64 z3.1 2) 65535) (some (.inl (K6 .i64 (Dd .i64
 z3.1 2) 69665))) (some (.inl (Dd .i64 z3.1 2)))) (fun (z4:Int)=>(some (.inl (z4,(Aj .i64 z3.2 1)))))) (some (.inr (.inl z3.1))))
def Zjn (x:(List UInt8)):(Int×Int)->Option Ziw:=fun (z1:(Int×Int))=>(cnd (iLt z1.2 (Ah x)) (Ao (bnd (idx x z1.2) (fun z2 =>
 (Aw (Zjm) ((K6 .i64 z1.1 (Dd .i64 256 (Ai .i64 (y2i z2)))),0)))) (fun (z2:Int)=>(some (.inl (z2,(Aj .i64 z1.2 1)))))) (some (.inr (.inl z1.1))))
def Us (x:(List UInt8)):(Option Int):=(Ao (Aw (Zjn x) (65535,0)) (fun (z1:Int)=>(some (Aq .i64 z1 65535))))
def Ry (x:Ycu):F9:=(bnd (P0 (x.2.2.1,((x.2.2.2.1.1,((x.2.2.2.1.2.1.1,x.2.2.2.1.2.1.2),((x.2.2.2.1.2.2.1.1,x.2.2.2.1.2.2.1.2),
 (x.2.2.2.1.2.2.2.1,x.2.2.2.1.2.2.2.2)))),(x.2.2.2.2.1,(x.2.2.2.2.2.1,(x.2.2.2.2.2.2.1,(x.2.2.2.2.2.2.2.1,x.2.2.2.2.2.2.2.2))))))) (fun z1=>(cnd (Ag z1) (some
 []) (bnd (Nv x.1) (fun z2=>(cnd (Ag z2) (some []) (bnd (Nv x.2.1) (fun z3=>(cnd (Ag z3) (some []) (al 2 (bnd (J1 ([],x.1)) (fun
 z4=>(bnd (J1 (z4,x.2.1)) (fun z5=>(chk (A0 (z5.length+1) 1) (Ao (cnd (iEq x.2.2.1 1) (bnd (Ya ((Al z5 [(u8 (Ai
 .u8 x.2.2.1))]),(x.2.2.2.1.1,((x.2.2.2.1.2.1.1,x.2.2.2.1.2.1.2),((x.2.2.2.1.2.2.1.1,x.2.2.2.1.2.2.1.2),(x.2.2.2.1.2.2.2.1,x.2.2.2.1.2.2.2.2)))))) (fun z6
 => (some (.inl z6)))) (cnd (iEq x.2.2.1 2) (bnd (Nt ((Al z5 [(u8 (Ai .u8 x.2.2.1))]),x.2.2.2.2.1)) (fun z6=>(some (.inl z6)))) (cnd (iEq x.2.2.1
 3) (chk (A0 ((Al z5 [(u8 (Ai .u8 x.2.2.1))]).length+1) 1) (some (.inl (Al (Al z5 [(u8 (Ai .u8 x.2.2.1))]) [(u8 (Ai .u8 x.2.2.2.2.2.1))])))) (some (.inl (Al
 z5 [(u8 (Ai .u8 x.2.2.1))])))))) (fun (z6:(List UInt8))=>(chk (A0 (z6.length+2) 1) (bnd (J1 ((Al z6 [(u8 (Ai .u8 x.2.2.2.2.2.2.1)),(u8 (Ai .u8
 x.2.2.2.2.2.2.2.2))]),x.2.2.2.2.2.2.2.1)) (fun z7=>(bnd (Us z7) (fun z8=>(bnd (J1 (z7,z8)) (fun z9=>(some
 z9)))))))))))))))))))))))))
def Yc (x:Fk):(Option Yc5):=(cnd (iEq x.2.2.1 0) (some ((x.1,(x.2.1,((-1),true))),false)) (Ao (cnd (iGt x.2.2.1 0) (some (.inl (Ba .i64
 x.2.2.1 1))) (some (.inl x.2.2.1))) (fun (z1:Int)=>(some ((x.1,(x.2.1,(z1,x.2.2.2))),true)))))
def Ji (x:Yc3):Xo:=(bnd (J2 (x.1.1,(x.1.2.1,(x.1.2.2.1,x.1.2.2.2)))) (fun z1=>(bnd (Jh (x.1.1,(x.1.2.1,(x.1.2.2.1,
 x.1.2.2.2)))) (fun z2=>(cnd (Ag z2) (some (z1.1,(z1.2.1,(z1.2.2.1,z1.2.2.2)))) (cnd x.1.2.2.2 (some (z1.1,(z1.2.1,(z1.2.2.1,z1.2.2.2)))) (bnd (Cq
 (x.2.1,(0,(Ba .i64 (Ah x.1.1) 1)))) (fun z3=>(cnd (Ag z3) (some (z1.1,(z1.2.1,(z1.2.2.1,z1.2.2.2)))) (cnd (iGt (Ah x.2.2) 120) (some (z1.1,(z1.2.1,
 (z1.2.2.1,z1.2.2.2)))) (cnd (iEq (Ah x.1.2.1) 40) (some (z1.1,(z1.2.1,(z1.2.2.1,z1.2.2.2)))) (bnd (Yc (z1.1,(z1.2.1,(z1.2.2.1,z1.2.2.2)))) (fun z4 =>
 (Ao (cnd z4.2 (bnd (Fv [x.2.2]) (fun z5=>(chk (A0 (z4.1.2.1.length+1) 32) (some (.inl (Al z4.1.2.1 [(x.2.1,z5)])))))) (some (.inl z4.1.2.1)))
 (fun (z5:Ps)=>(some (z4.1.1,(z5,(z4.1.2.2.1,z4.1.2.2.2)))))))))))))))))))
def Zdr (z3:Yc5):Pr->Option Zip:=fun (z4:Pr)=>(cnd (iLt z4.2 (Ah z3.1.2.1)) (bnd (idx z3.1.2.1 z4.2) (fun z5=>(bnd
 (Fv [z5.2]) (fun z6=>(bnd (idx z4.1 z5.1) (fun z7=>(some (.inl ((Bq z4.1 (nOf z5.1) z6),(Aj .i64 z4.2 1)))))))))) (some (.inr
 (.inl z4.1))))
def Lm (x:Fk):Xo:=(bnd (J2 (x.1,(x.2.1,(x.2.2.1,x.2.2.2)))) (fun z1=>(bnd (Jh (x.1,(x.2.1,(x.2.2.1,x.2.2.2))))
 (fun z2=>(cnd (Ag z2) (some (z1.1,(z1.2.1,(z1.2.2.1,z1.2.2.2)))) (cnd x.2.2.2 (some (z1.1,(z1.2.1,(z1.2.2.1,z1.2.2.2)))) (bnd (Yc (z1.1,(z1.2.1,
 (z1.2.2.1,z1.2.2.2)))) (fun z3=>(cnd (Ag z3.2) (some (z3.1.1,(z3.1.2.1,(z3.1.2.2.1,z3.1.2.2.2)))) (Ao (Aw (Zdr z3) (z3.1.1,0)) (fun (z4:Ik)
 => (some (z4,([],(z3.1.2.2.1,z3.1.2.2.2)))))))))))))))
def X7 (x:(Int×Int)):F9:=(bnd (Cq (x.1,(1,60000))) (fun z1=>(cnd (Ag z1) (some []) (bnd (Cq (x.2,(0,30))) (fun z2=>(cnd (Ag z2) (some []) (bnd (J1 ([],x.1)) (fun z3=>(bnd (J1 (z3,x.2)) (fun z4=>(bnd (Us z4) (fun z5
 => (bnd (J1 (z4,z5)) (fun z6=>(some z6)))))))))))))))
def Zjo (x:tqT):Zq3->Option (Zq3 ⊕ Fk):=fun (z5:Zq3)=>(cnd (iLt z5.2.2.2.2 (Ah x.2.2)) (bnd (idx x.2.2 z5.2.2.2.2) (fun z6=>(bnd
 (Mp (x.2.1,z5.2.2.2.2)) (fun z7=>(bnd (Ry (x.2.1,(z5.2.2.2.2,z6))) (fun z8=>(bnd (Ji ((z5.1,(z5.2.1,(z5.2.2.1,
 z5.2.2.2.1))),(z7,z8))) (fun z9=>(some (.inl (z9.1,(z9.2.1,(z9.2.2.1,(z9.2.2.2,(Aj .i64 z5.2.2.2.2 1))))))))))))))) (Mc (bnd (Lm (z5.1,(z5.2.1,
 (z5.2.2.1,z5.2.2.2.1)))) (fun z6=>(bnd (X7 (x.2.1,(Ah x.2.2))) (fun z7=>(bnd (Ji (z6,((De x.2.1 2),z7))) (fun z8
 => (bnd (Lm z8) (fun z9=>(some z9)))))))))))
def Zcw (x:tqT):Xo:=(cnd (iLt 0 (Ah x.2.2)) (bnd (idx x.2.2 0) (fun z1=>(bnd (Mp (x.2.1,0)) (fun z2=>(bnd (Ry
 (x.2.1,(0,z1))) (fun z3=>(bnd (Ji (x.1,(z2,z3))) (fun z4=>(Aw (Zjo x) (z4.1,(z4.2.1,(z4.2.2.1,(z4.2.2.2,(Aj .i64 0
 1)))))))))))))) (bnd (Lm x.1) (fun z1=>(bnd (X7 (x.2.1,(Ah x.2.2))) (fun z2=>(bnd (Ji (z1,((De x.2.1 2),z2)))
 (fun z3=>(bnd (Lm z3) (fun z4=>(some z4))))))))))
def Rx (x:Nm):tqU:=(bnd (Ut x) (fun z1=>(bnd (Rz x) (fun z2=>(cnd (Ag z2) (some z1) (cnd x.1.2.2.2 (some z1)
 (cnd (iEq x.2.2.1 60000) (some z1) (bnd (Zcu x.2.1) (fun z3=>(bnd (Zcw (x.1,((Aj .i64 x.2.2.1 1),z3))) (fun z4=>(Ao (cnd (Ag z4.2.2.2)
 (some (.inl ((Aj .i64 x.2.2.1 1),(Ah z3)))) (some (.inl z1.2.2))) (fun (z5:(Int×Int))=>(some (z4,(z1.2.1,z5))))))))))))))))
def Zco (x:tqE):tqO:=(bnd (Ut x.1) (fun z1=>(bnd (Uq (x.1.2.1,x.2)) (fun z2=>(bnd (Rz x.1) (fun z3=>(cnd (Ag z3) (some (z1,false)) (cnd x.1.1.2.2.2 (some (z1,false)) (cnd (Ag z2.2) (some (z1,false)) (Ao (cnd (iEq z1.2.2.2 30) (bnd (Rx z1) (fun z4=>(some (.inl (z4.1.1,(z4.1.2.1,(z4.1.2.2.1,(z4.1.2.2.2,(z4.2.1.1,(z4.2.1.2.1,(z4.2.1.2.2,z4.2.2))))))))))) (some (.inl (z1.1.1,(z1.1.2.1,(z1.1.2.2.1,
 (z1.1.2.2.2,(z1.2.1.1,(z1.2.1.2.1,(z1.2.1.2.2,z1.2.2)))))))))) (fun (z4:Zb3)=>(cnd z4.2.2.2.1 (some (((z4.1,(z4.2.1,(z4.2.2.1,z4.2.2.2.1))),((z4.2.2.2.2.1,
 (z4.2.2.2.2.2.1,z4.2.2.2.2.2.2.1)),z4.2.2.2.2.2.2.2)),false)) (cnd (iEq z4.2.2.2.2.2.2.2.2 30) (some (((z4.1,(z4.2.1,(z4.2.2.1,z4.2.2.2.1))),((z4.2.2.2.2.1,
 (z4.2.2.2.2.2.1,z4.2.2.2.2.2.2.1)),z4.2.2.2.2.2.2.2)),false)) (bnd (Mp z4.2.2.2.2.2.2.2) (fun z5=>(bnd (Ry (z4.2.2.2.2.2.2.2.1,
 (z4.2.2.2.2.2.2.2.2,x.2))) (fun z6=>(bnd (Ji ((z4.1,(z4.2.1,(z4.2.2.1,z4.2.2.2.1))),(z5,z6))) (fun z7=>(bnd (Lm z7) (fun
 z8=>(cnd z8.2.2.2 (some ((z8,((z4.2.2.2.2.1,(z4.2.2.2.2.2.1,z4.2.2.2.2.2.2.1)),z4.2.2.2.2.2.2.2)),false)) (some ((z8,(z2.1,(z4.2.2.2.2.2.2.2.1,(Aj .i64
 z4.2.2.2.2.2.2.2.2 1)))),true))))))))))))))))))))))))
def Zdt (x:Zb4):(Int)->Option ((Int) ⊕ (Unit ⊕ (List UInt8))):=fun (z3:Int)=>(cnd (iGe z3 0) (bnd (idx x.1.2.1 z3) (fun z4=>(cnd (iEq
 z4.1 x.2) (bnd (idx x.1.2.1 z3) (fun z5=>(bnd (Fv [z5.2]) (fun z6=>(some (.inr (.inr z6))))))) (some (.inl (Ba .i64 z3 1)))))) (some (.inr
 (.inl ()))))
def Ur (x:Zb4):F9:=(bnd (Jh (x.1.1,(x.1.2.1,(x.1.2.2.1,x.1.2.2.2)))) (fun z1=>(cnd (Ag z1) (some []) (bnd (Cq (x.2,
 (0,(Ba .i64 (Ah x.1.1) 1)))) (fun z2=>(cnd (Ag z2) (some []) (Ao (Aw (Zdt x) (Ba .i64 (Ah x.1.2.1) 1)) (fun (z3:Unit)=>(bnd (idx x.1.1
 x.2) (fun z4=>(bnd (Fv [z4]) (fun z5=>(some z5)))))))))))))
def X6 (x:D7):Lg:=(cnd (iLt x.2 0) (some (0,(0,false))) (cnd (iGt x.2 (Ba .i64 (Ah x.1) 2)) (some (0,(0,false))) (bnd (idx x.1 x.2) (fun z1=>(bnd (idx x.1 (Aj .i64 x.2 1)) (fun z2=>(some ((iOr .i64 (B9 .i64 (Ai .i64 (y2i z1)) 8) (Ai .i64 (y2i z2))),((Aj .i64 x.2 2),true)))))))))
def Io (x:Pq):Lg:=(bnd (X6 (x.1,x.2.1)) (fun z1=>(cnd x.2.2 (some (0,(x.2.1,true))) (cnd (Ag z1.2.2) (some (0,(x.2.1,
 true))) (some (z1.1,(z1.2.1,x.2.2)))))))
def Nw (x:Pq):Yde:=(bnd (Io (x.1,(x.2.1,x.2.2))) (fun z1=>(cnd (Ag z1.2.2) (chk (Di 0 x.2.1 (Ah x.1)) (bnd (Us
 (Br ((nOf x.2.1)-0) x.1)) (fun z2=>(cnd (iEq z1.1 z2) (some ((iEq z1.2.1 (Ah x.1)),(z1.2.1,z1.2.2))) (some (false,(z1.2.1,z1.2.2))))))) (some (false,
 (z1.2.1,z1.2.2))))))
def X3 (x:(List UInt8)):Lg:=(bnd (Io (x,(0,false))) (fun z1=>(bnd (Io (x,(z1.2.1,z1.2.2))) (fun z2 =>
 (bnd (Nw (x,(z2.2.1,z2.2.2))) (fun z3=>(cnd (Ag z3.1) (some (0,(0,false))) (bnd (Cq (z1.1,(1,60000))) (fun z4=>(cnd (Ag z4)
 (some (0,(0,false))) (bnd (Cq (z2.1,(0,30))) (fun z5=>(cnd (Ag z5) (some (0,(0,false))) (some (z1.1,(z2.1,true))))))))))))))))
def Hc (x:Pq):Lg:=(cnd x.2.2 (some (0,(x.2.1,true))) (cnd (iLt x.2.1 0) (some (0,(x.2.1,true))) (cnd (iGe x.2.1 (Ah x.1)) (some (0,(x.2.1,
 true))) (bnd (idx x.1 (Ba .i64 (Aj .i64 x.2.1 1) 1)) (fun z1=>(some ((Ai .i64 (y2i z1)),((Aj .i64 x.2.1 1),x.2.2))))))))
def Zcs (x:D7):Yc9:=(bnd (X6 (x.1,x.2)) (fun z1=>(cnd (Ag z1.2.2) (some ([],(0,false))) (cnd (iGt z1.1 60) (some ([],(0,
 false))) (cnd (iGt z1.1 (Ba .i64 (Ah x.1) z1.2.1)) (some ([],(0,false))) (chk (Di z1.2.1 (Aj .i64 z1.2.1 z1.1) (Ah x.1)) (some ((Br ((nOf (Aj .i64 z1.2.1
 z1.1))-(nOf z1.2.1)) (Dw (nOf z1.2.1) x.1)),((Aj .i64 z1.2.1 z1.1),true)))))))))
def Mo (x:Pq):Yc9:=(bnd (Zcs (x.1,x.2.1)) (fun z1=>(cnd x.2.2 (some ([],(x.2.1,true))) (cnd (Ag z1.2.2) (some ([],(x.2.1,
 true))) (some (z1.1,(z1.2.1,x.2.2)))))))
def J3 (x:Pq):Ywu:=(bnd (Hc (x.1,(x.2.1,x.2.2))) (fun z1=>(bnd (Mo (x.1,(z1.2.1,z1.2.2))) (fun z2 =>
 (some ((z1.1,z2.1),(z2.2.1,z2.2.2)))))))
def R1 (x:Pq):Ywn:=(bnd (Mo (x.1,(x.2.1,x.2.2))) (fun z1=>(bnd (Hc (x.1,(z1.2.1,z1.2.2))) (fun z2 =>
 (bnd (Hc (x.1,(z2.2.1,z2.2.2))) (fun z3=>(Ao (cnd (iNe (Aq .i64 z2.1 1) 0) (bnd (J3 (x.1,(z3.2.1,z3.2.2))) (fun z4=>(some
 (.inl (z4.2.1,(z4.2.2,(z4.1.1,z4.1.2))))))) (some (.inl (z3.2.1,(z3.2.2,(0,[])))))) (fun (z4:Ydc)=>(Ao (cnd (iNe (Aq .i64 z2.1 2) 0) (bnd (J3 (x.1,
 (z4.1,z4.2.1))) (fun z5=>(some (.inl (z5.2.1,(z5.2.2,(z5.1.1,z5.1.2))))))) (some (.inl (z4.1,(z4.2.1,(0,[])))))) (fun (z5:Ydc)=>(cnd z5.2.1 (some (([],
 ((0,[]),((0,[]),(0,false)))),(z5.1,true))) (cnd (iGt z3.1 1) (some (([],((0,[]),((0,[]),(0,false)))),(z5.1,true))) (bnd (Ln (z1.1,((z4.2.2.1,z4.2.2.2),
 ((z5.2.2.1,z5.2.2.2),(z2.1,(iEq z3.1 1)))))) (fun z6=>(cnd (Ag z6) (some (([],((0,[]),((0,[]),(0,false)))),(z5.1,true))) (some ((z1.1,((z4.2.2.1,
 z4.2.2.2),((z5.2.2.1,z5.2.2.2),(z2.1,(iEq z3.1 1))))),(z5.1,z5.2.1))))))))))))))))))
def X5 (x:(List UInt8)):Ywd:=(bnd (Io (x,(0,false))) (fun z1=>(bnd (Io (x,(z1.2.1,z1.2.2))) (fun z2 =>
 (bnd (Hc (x,(z2.2.1,z2.2.2))) (fun z3=>(Ao (cnd (iEq z3.1 1) (bnd (R1 (x,(z3.2.1,z3.2.2))) (fun z4=>(some (.inl (z4.1.1,
 (z4.1.2.1.1,(z4.1.2.1.2,(z4.1.2.2.1.1,(z4.1.2.2.1.2,(z4.1.2.2.2.1,(z4.1.2.2.2.2,([],(0,(z4.2.1,z4.2.2)))))))))))))) (cnd (iEq z3.1 2) (bnd (Mo (x,(z3.2.1,
 z3.2.2))) (fun z4=>(some (.inl ([],(0,([],(0,([],(0,(false,(z4.1,(0,(z4.2.1,z4.2.2)))))))))))))) (cnd (iEq z3.1 3) (bnd (Hc (x,(z3.2.1,z3.2.2)))
 (fun z4=>(some (.inl ([],(0,([],(0,([],(0,(false,([],(z4.1,(z4.2.1,z4.2.2)))))))))))))) (some (.inl ([],(0,([],(0,([],(0,(false,([],(0,(z3.2.1,
 z3.2.2))))))))))))))) (fun (z4:Ywl)=>(bnd (Hc (x,(z4.2.2.2.2.2.2.2.2.2.1,z4.2.2.2.2.2.2.2.2.2.2))) (fun z5=>(bnd (Hc (x,(z5.2.1,z5.2.2)))
 (fun z6=>(bnd (Io (x,(z6.2.1,z6.2.2))) (fun z7=>(bnd (Nw (x,(z7.2.1,z7.2.2))) (fun z8=>(cnd (Ag z8.1) (some (0,(0,
 ((0,(([],((0,[]),((0,[]),(0,false)))),([],(0,(0,(0,0)))))),false)))) (bnd (P0 (z3.1,((z4.1,((z4.2.1,z4.2.2.1),((z4.2.2.2.1,z4.2.2.2.2.1),
 (z4.2.2.2.2.2.1,z4.2.2.2.2.2.2.1)))),(z4.2.2.2.2.2.2.2.1,(z4.2.2.2.2.2.2.2.2.1,(z5.1,(z7.1,z6.1))))))) (fun z9=>(cnd (Ag z9) (some (0,(0,((0,(([],((0,[]),
 ((0,[]),(0,false)))),([],(0,(0,(0,0)))))),false)))) (some (z1.1,(z2.1,((z3.1,((z4.1,((z4.2.1,z4.2.2.1),((z4.2.2.2.1,z4.2.2.2.2.1),(z4.2.2.2.2.2.1,
 z4.2.2.2.2.2.2.1)))),(z4.2.2.2.2.2.2.2.1,(z4.2.2.2.2.2.2.2.2.1,(z5.1,(z7.1,z6.1)))))),true))))))))))))))))))))))))
def Zdu (x:Zb4):tqI->Option tqB:=fun (z2:tqI)=>(cnd (iLt z2.2.2.2.2.2.2 30) (al 3 (bnd (Mp (x.2,z2.2.2.2.2.2.2)) (fun z3 =>
 (bnd (Ur (x.1,z3)) (fun z4=>(bnd (X5 z4) (fun z5=>(cnd (Ag z5.2.2.2) (some (.inr (.inr ((z2.2.2.2.1,(z2.2.2.2.2.1,
 z2.2.2.2.2.2.1)),z2.2.2.2.2.2.2)))) (cnd (iNe z5.1 x.2) (some (.inr (.inr ((z2.2.2.2.1,(z2.2.2.2.2.1,z2.2.2.2.2.2.1)),z2.2.2.2.2.2.2)))) (cnd (iNe z5.2.1 z2.2.2.2.2.2.2)
 (some (.inr (.inr ((z2.2.2.2.1,(z2.2.2.2.2.1,z2.2.2.2.2.2.1)),z2.2.2.2.2.2.2)))) (bnd (Uq ((z2.2.2.2.1,(z2.2.2.2.2.1,z2.2.2.2.2.2.1)),z5.2.2.1)) (fun z6 =>
 (cnd (Ag z6.2) (some (.inr (.inr ((z2.2.2.2.1,(z2.2.2.2.2.1,z2.2.2.2.2.2.1)),z2.2.2.2.2.2.2)))) (some (.inl (z2.1,(z2.2.1,(z2.2.2.1,(z6.1.1,(z6.1.2.1,(z6.1.2.2,(Aj
 .i64 z2.2.2.2.2.2.2 1)))))))))))))))))))))) (some (.inr (.inl (z2.1,(z2.2.1,(z2.2.2.1,(z2.2.2.2.1,(z2.2.2.2.2.1,z2.2.2.2.2.2.1)))))))))
def Yb (x:Zb4):Ywh:=(bnd (Cq (x.2,(1,60000))) (fun z1=>(cnd (Ag z1) (some (([],(0,[])),0)) (Ao (Aw (Zdu x)
 ([],(0,([],([],(0,([],0))))))) (fun (z2:tqJ)=>(some (z2.2.2.2,30)))))))
def Zds (x:Fk):tqY->Option tqA:=fun (z1:tqY)=>(cnd (iLt z1.2.2.2.2.2.2.2.2.2 2) (Ao (bnd (Ur (x,z1.2.2.2.2.2.2.2.2.2)) (fun z2=>(bnd (X3 z2) (fun z3=>(cnd (Ag z3.2.2) (some (.inl (z1.1,(z1.2.1,(z1.2.2.1,(z1.2.2.2.1,(z1.2.2.2.2.1,(z1.2.2.2.2.2.1,
 (z1.2.2.2.2.2.2.1,(z1.2.2.2.2.2.2.2.1,z1.2.2.2.2.2.2.2.2.1)))))))))) (cnd (iNe (De z3.1 2) z1.2.2.2.2.2.2.2.2.2) (some (.inl (z1.1,(z1.2.1,(z1.2.2.1,(z1.2.2.2.1,
 (z1.2.2.2.2.1,(z1.2.2.2.2.2.1,(z1.2.2.2.2.2.2.1,(z1.2.2.2.2.2.2.2.1,z1.2.2.2.2.2.2.2.2.1)))))))))) (cnd (iLe z3.1 z1.2.2.2.2.2.2.2.1) (some (.inl (z1.1,(z1.2.1,(z1.2.2.1,
 (z1.2.2.2.1,(z1.2.2.2.2.1,(z1.2.2.2.2.2.1,(z1.2.2.2.2.2.2.1,(z1.2.2.2.2.2.2.2.1,z1.2.2.2.2.2.2.2.2.1)))))))))) (bnd (Yb (x,z3.1)) (fun z4=>(cnd (iGe z4.2
 z3.2.1) (bnd (J2 x) (fun z5=>(some (.inl (z5.1,(z5.2.1,(z5.2.2.1,(z5.2.2.2,(z4.1.1,(z4.1.2.1,(z4.1.2.2,(z3.1,z4.2)))))))))))) (some (.inl (z1.1,
 (z1.2.1,(z1.2.2.1,(z1.2.2.2.1,(z1.2.2.2.2.1,(z1.2.2.2.2.2.1,(z1.2.2.2.2.2.2.1,(z1.2.2.2.2.2.2.2.1,z1.2.2.2.2.2.2.2.2.1)))))))))))))))))))) (fun (z2:Zb3)=>(some (.inl
 (z2.1,(z2.2.1,(z2.2.2.1,(z2.2.2.2.1,(z2.2.2.2.2.1,(z2.2.2.2.2.2.1,(z2.2.2.2.2.2.2.1,(z2.2.2.2.2.2.2.2.1,(z2.2.2.2.2.2.2.2.2,(Aj .i64 z1.2.2.2.2.2.2.2.2.2
 1)))))))))))))) (some (.inr (.inl (z1.1,(z1.2.1,(z1.2.2.1,(z1.2.2.2.1,(z1.2.2.2.2.1,(z1.2.2.2.2.2.1,(z1.2.2.2.2.2.2.1,(z1.2.2.2.2.2.2.2.1,z1.2.2.2.2.2.2.2.2.1))))))))))))
def X9 (x:Fk):tqO:=(Ao (Aw (Zds x) ([],([],(0,(false,([],(0,([],(0,(0,0)))))))))) (fun (z1:Zb3)=>(cnd (iEq z1.2.2.2.2.2.2.2.1
 0) (some ((([],([],(0,false))),(([],(0,[])),(0,0))),false)) (bnd (Rz ((z1.1,(z1.2.1,(z1.2.2.1,z1.2.2.2.1))),((z1.2.2.2.2.1,(z1.2.2.2.2.2.1,
 z1.2.2.2.2.2.2.1)),z1.2.2.2.2.2.2.2))) (fun z2=>(cnd (Ag z2) (some ((([],([],(0,false))),(([],(0,[])),(0,0))),false)) (bnd (Rx ((z1.1,(z1.2.1,
 (z1.2.2.1,z1.2.2.2.1))),((z1.2.2.2.2.1,(z1.2.2.2.2.2.1,z1.2.2.2.2.2.2.1)),z1.2.2.2.2.2.2.2))) (fun z3=>(some (z3,true))))))))))
def Zda (x:Pq):Lg:=(cnd x.2.2 (some (0,(x.2.1,true))) (cnd (iGe x.2.1 (Ah x.1)) (some (0,(x.2.1,true))) (bnd (idx x.1 (Ba .i64 (Aj .i64
 x.2.1 1) 1)) (fun z1=>(some ((Ai .i64 (y2i z1)),((Aj .i64 x.2.1 1),x.2.2)))))))
def Yf (x:Zit):C6:=(cnd (iEq x.1.1 x.2.1) (some (sEq x.1.2 x.2.2)) (some false))
def Yg (x:Ycs):C6:=(cnd (sEq x.1.1 x.2.1) (bnd (Yf (x.1.2.1,x.2.2.1)) (fun z1=>(cnd z1 (bnd (Yf (x.1.2.2.1,
 x.2.2.2.1)) (fun z2=>(cnd z2 (cnd (iEq x.1.2.2.2.1 x.2.2.2.2.1) (some (bEq x.1.2.2.2.2 x.2.2.2.2.2)) (some false)) (some false)))) (some false)))) (some false))
def Zd0 (x:tqK):(Int)->Option Rn:=fun (z1:Int)=>(cnd (iLt z1 (Ah x.1.1)) (bnd (idx x.1.1 z1) (fun z2=>(bnd (idx x.2.1 z1) (fun z3=>(bnd (Yg (z2,z3)) (fun z4=>(cnd (Ag z4) (some (.inr (.inr false))) (some (.inl (Aj .i64 z1 1)))))))))) (some (.inr (.inl ()))))
def Zd1 (x:tqK):(Int)->Option ((Int) ⊕ Bool):=fun (z2:Int)=>(cnd (iLt z2 (Ah x.1.2.2)) (bnd (idx x.1.2.2 z2) (fun z3=>(bnd (idx
 x.2.2.2 z2) (fun z4=>(cnd (Ag (zEq [z3.1,z3.2.1,z3.2.2] [z4.1,z4.2.1,z4.2.2])) (some (.inr false)) (some (.inl (Aj .i64 z2 1)))))))) (some (.inr true)))
def Ux (x:tqK):C6:=(cnd (iNe (Ah x.1.1) (Ah x.2.1)) (some false) (cnd (iNe x.1.2.1 x.2.2.1) (some false) (cnd (iNe (Ah x.1.2.2) (Ah x.2.2.2))
 (some false) (Ao (Aw (Zd0 x) 0) (fun (z1:Unit)=>(Aw (Zd1 x) 0))))))
def Zc2 (x:(List UInt8)):(Option tqD):=(bnd (Zdd x) (fun z1=>(bnd (Jk ((x,(0,z1)),[8,8,36])) (fun z2=>(bnd
 (Zdc ((x,z2.2),z2.1)) (fun z3=>(bnd (U5 (x,z3.2)) (fun z4=>(bnd (D8 ((x,z4.2),256)) (fun z5=>(some (z3.1,(z4.1,
 z5.1)))))))))))))
def Zdq (z1:Fk) (z3:Int):Pr->Option Zip:=fun (z4:Pr)=>(cnd (iLt z4.2 (Ah z1.2.1)) (Ao (bnd (idx z1.2.1 z4.2) (fun z5 =>
 (cnd (iLt z4.2 30) (chk (iLe 0 z4.2) (cnd (iEq (Aq .i64 (Bi .i64 z3 z4.2) 1) 1) (bnd (Fv [z5.2]) (fun z6=>(bnd (idx z4.1 z5.1) (fun z7=>(some (.inl (Bq z4.1 (nOf z5.1) z6))))))) (some (.inl z4.1)))) (some (.inl z4.1))))) (fun (z5:Ik)=>(some (.inl (z5,(Aj .i64 z4.2 1)))))) (some (.inr (.inl
 z4.1))))
def Xz (x:Zb4):Xo:=(bnd (J2 x.1) (fun z1=>(bnd (Jh x.1) (fun z2=>(cnd (Ag z2) (some z1) (Ao (bnd
 (Cq (x.2,(0,1073741823))) (fun z3=>(cnd (Ag z3) (some (.inl 0)) (some (.inl x.2))))) (fun (z3:Int)=>(Ao (Aw (Zdq z1 z3) (z1.1,0)) (fun
 (z4:Ik)=>(some (z4,([],((-1),false)))))))))))))
def R3 (x:D7):(Option Int):=(cnd (iLt x.2 (Ah x.1)) (bnd (idx x.1 x.2) (fun z1=>(some (Ai .i64 (y2i z1))))) (some (De (Aj .i64 (Dd
 .i64 x.2 31) (Dd .i64 (Ah x.1) 7)) 256)))
def Zi9 (x:(List UInt8)):C6:=(bnd (Uw x) (fun z1=>(cnd z1 (some true) (bnd (Zc2 x) (fun z2=>(bnd (R3 (x,2))
 (fun z3=>(bnd (Zco (((z2.1.1.1,(z2.1.1.2.1,((De z3 8),z2.1.1.2.2.2))),z2.1.2),z2.2.1)) (fun z4=>(bnd (Uq (z2.1.2.1,z2.2.1)) (fun z5=>(bnd (Xz (z4.1.1,z2.2.2)) (fun z6=>(bnd (R3 (x,3)) (fun z7=>(bnd (X9 (z6.1,(z6.2.1,((De z7 24),z6.2.2.2)))) (fun z8=>(al 4 (bnd (R3 (x,4)) (fun z9=>(bnd (R3 (x,5)) (fun z10=>(bnd (Xz (z8.1.1,(Aj .i64 (Dd .i64 z9 256) z10))) (fun z11
 => (bnd (X9 z11) (fun z12=>(cnd (Ag z8.2) (some false) (cnd (Ag z12.2) (some false) (cnd z12.1.1.2.2.2 (some false) (cnd z4.2 (cnd z5.2 (bnd (Ux
 (z12.1.2.1,z5.1)) (fun z13=>(some z13))) (some false)) (bnd (Ux (z12.1.2.1,z2.1.2.1)) (fun z13=>(cnd z13 (some true) (cnd z5.2 (bnd (Ux
 (z12.1.2.1,z5.1)) (fun z14=>(some z14))) (some false)))))))))))))))))))))))))))))))))))
end
end Go.Vs
