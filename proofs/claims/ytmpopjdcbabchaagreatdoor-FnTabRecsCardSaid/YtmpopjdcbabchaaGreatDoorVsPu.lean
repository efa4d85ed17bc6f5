import Derived.Test.YtmpopjdcbabchaaGreatDoorVsW5
set_option linter.all false
namespace Go.Vs
noncomputable section
def gFirst:List UInt8:=[240,240,240,240,240,240,240,240,240,240,240,240,240,240,240,240,240,240,240,240,240,240,240,240,240,240,240,240,240,240,
 240,240,240,240,240,240,240,240,240,240,240,240,240,240,240,240,240,240,240,240,240,240,240,240,240,240,240,240,240,240,240,240,240,240,240,
 240,240,240,240,240,240,240,240,240,240,240,240,240,240,240,240,240,240,240,240,240,240,240,240,240,240,240,240,240,240,240,240,240,240,240,
 240,240,240,240,240,240,240,240,240,240,240,240,240,240,240,240,240,240,240,240,240,240,240,240,240,240,240,240,241,241,241,241,241,241,241,
 241,241,241,241,241,241,241,241,241,241,241,241,241,241,241,241,241,241,241,241,241,241,241,241,241,241,241,241,241,241,241,241,241,241,241,
 241,241,241,241,241,241,241,241,241,241,241,241,241,241,241,241,241,241,241,241,241,241,241,241,2,2,2,2,2,2,2,2,2,2,2,2,2,2,2,2,2,2,2,
 2,2,2,2,2,2,2,2,2,2,2,19,3,3,3,3,3,3,3,3,3,3,3,3,35,3,3,52,4,4,4,68,241,241,241,241,241,241,241,241,241,241,241]
def gAcc:List UInt8:=[128,191,160,191,128,159,144,191,128,143,0,0,0,0,0,0,0,0,0,0,0,0,0,0,0,0,0,0,0,0,0,0]
instance glbI:Glb:=⟨[(0,gFirst),(1,gAcc)]⟩
def Zbb (x:(List UInt8)):(Option Bool):=(some (iGt (lLen x) 1048576))
def Zcr (x:(List UInt8)):(Int×Int)->Option ((Int×Int) ⊕ (Int ⊕ Int)):=fun (z1:(Int×Int))=>(cnd (iLt z1.2 (lLen x)) (cnd (iLt z1.2 4000) (bnd
 (idx x z1.2) (fun z2=>(some (.inl ((iAnd .i64 (iAdd .i64 (iAdd .i64 (iMul .i64 z1.1 137) (iConv .i64 (y2i z2))) 11) 1073741823),(iAdd .i64 z1.2 1)))))) (some (.inr
 (.inl z1.1)))) (some (.inr (.inl z1.1))))
def Zcs (x:(List UInt8)):(Option Int):=(joinX (loopX (Zcr x) ((iAdd .i64 953953 (lLen x)),0)) (fun (z1:Int)=>(some z1)))
def Zu (x:((List UInt8)×(Int×Int))):(Option (Int×(Int×Int))):=(joinX (cnd (iLt x.2.1 (lLen x.1)) (bnd (idx x.1 x.2.1) (fun z1=>(some
 (.inl ((iAdd .i64 x.2.1 1),(iAnd .i64 (iAdd .i64 (iAnd .i64 (iXor .i64 (iShr .i64 (iAdd .i64 (iMul .i64 x.2.2 6364136223846793005) 1442695040888963407) 33) (iShr .i64 (iAdd .i64
 (iMul .i64 x.2.2 6364136223846793005) 1442695040888963407) 47)) 255) (iConv .i64 (y2i z1))) 255)))))) (some (.inl (x.2.1,(iAnd .i64 (iXor .i64 (iShr .i64 (iAdd .i64 (iMul .i64
 x.2.2 6364136223846793005) 1442695040888963407) 33) (iShr .i64 (iAdd .i64 (iMul .i64 x.2.2 6364136223846793005) 1442695040888963407) 47)) 255))))) (fun (z1:(Int×Int)) =>
 (some (z1.2,(z1.1,(iAdd .i64 (iMul .i64 x.2.2 6364136223846793005) 1442695040888963407))))))
def Ze (x:(((List UInt8)×(Int×Int))×Int)):(Option (Int×(Int×Int))):=(cnd (iLe x.2 0) (some (0,(x.1.2.1,x.1.2.2))) (cnd (iLe x.2 256) (bnd
 (Zu (x.1.1,(x.1.2.1,x.1.2.2))) (fun z1=>(chk (iNe x.2 0) (some ((iRem z1.1 x.2),(z1.2.1,z1.2.2)))))) (bnd (Zu (x.1.1,(x.1.2.1,
 x.1.2.2))) (fun z1=>(bnd (Zu (x.1.1,(z1.2.1,z1.2.2))) (fun z2=>(bnd (Zu (x.1.1,(z2.2.1,z2.2.2))) (fun z3=>(chk (iNe x.2 0) (some ((iRem (iAdd .i64 (iAdd .i64 (iMul .i64 z1.1 65536) (iMul .i64 z2.1 256)) z3.1) x.2),(z3.2.1,z3.2.2))))))))))))
def Zct (x:((List UInt8)×(Int×Int))):(Option (Int×(Int×Int))):=(bnd (Ze ((x.1,(x.2.1,x.2.2)),5)) (fun z1 =>
 (some ((iAdd .i64 1 z1.1),(z1.2.1,z1.2.2)))))
def Zcu (x:(((List UInt8)×(Int×Int))×(List (List UInt8)))):(Option ((List UInt8)×(Int×Int))):=(bnd (Ze ((x.1.1,(x.1.2.1,x.1.2.2)),
 (lLen x.2))) (fun z1=>(bnd (idx x.2 z1.1) (fun z2=>(some (z2,(z1.2.1,z1.2.2)))))))
def Zbk (x:((List UInt8)×(Int×Int))):(Option ((List UInt8)×(Int×Int))):=(bnd (Zcu ((x.1,(x.2.1,x.2.2)),[[97],[98],[99],[100],[101,
 53]])) (fun z1=>(some (z1.1,(z1.2.1,z1.2.2)))))
def Zj (x:(((List UInt8)×(Int×Int))×(List Int))):(Option (Int×(Int×Int))):=(bnd (Ze ((x.1.1,(x.1.2.1,x.1.2.2)),(lLen x.2))) (fun
 z1=>(bnd (idx x.2 z1.1) (fun z2=>(some (z2,(z1.2.1,z1.2.2)))))))
def Zcv (x:((List UInt8)×(Int×Int))):(Option (Int×(Int×Int))):=(bnd (Zj ((x.1,(x.2.1,x.2.2)),[0,97,90,127,128,164,233,2047,
 2048,8364,1072,1102,1025,12354,12450,352,65535,65536,1114111])) (fun z1=>(some (z1.1,(z1.2.1,z1.2.2)))))
def Zb (x:(Int×(Int×Int))):(Option Bool):=(cnd (iGe x.1 x.2.1) (some (iLe x.1 x.2.2)) (some false))
def Zfa (x:Int):(Option Int):=(cnd (iEq x 164) (some 8364) (cnd (iEq x 166) (some 352) (cnd (iEq x 168) (some 353) (cnd (iEq x 180) (some 381) (cnd (iEq
 x 184) (some 382) (cnd (iEq x 188) (some 338) (cnd (iEq x 189) (some 339) (cnd (iEq x 190) (some 376) (some x)))))))))
def Zfb (x:Int):(Option Int):=(cnd (iGe x 224) (bnd (idx [1102,1072,1073,1094,1076,1077,1092,1075,1093,1080,1081,1082,1083,1084,1085,1086,
 1087,1103,1088,1089,1090,1091,1078,1074,1100,1099,1079,1096,1101,1097,1095,1098] (iSub .i64 x 224)) (fun z1=>(some (iSub .i64 z1 32)))) (cnd (iGe x 192)
 (bnd (idx [1102,1072,1073,1094,1076,1077,1092,1075,1093,1080,1081,1082,1083,1084,1085,1086,1087,1103,1088,1089,1090,1091,1078,1074,1100,1099,1079,1096,
 1101,1097,1095,1098] (iSub .i64 x 192)) (fun z1=>(some z1))) (cnd (iEq x 163) (some 1105) (cnd (iEq x 179) (some 1025) (some (-1))))))
def Zfc (x:Int):(Option Int):=(cnd (iGe x 160) (some x) (bnd (idx [8364,(-1),8218,402,8222,8230,8224,8225,710,8240,352,8249,338,(-1),381,
 (-1),(-1),8216,8217,8220,8221,8226,8211,8212,732,8482,353,8250,339,(-1),382,376] (iSub .i64 x 128)) (fun z1=>(some z1))))
def Zl (x:(Int×Int)):(Option (Int×Bool)):=(bnd (Zb (x.1,(1,4))) (fun z1=>(cnd (bNot z1) (some (0,false)) (bnd (Zb (x.2,
 (0,255))) (fun z2=>(cnd (bNot z2) (some (0,false)) (joinX (cnd (iGe x.2 128) (cnd (iEq x.1 2) (bnd (Zfa x.2) (fun z3=>(some (.inl z3)))) (cnd (iEq
 x.1 3) (bnd (Zfb x.2) (fun z3=>(some (.inl z3)))) (cnd (iEq x.1 4) (bnd (Zfc x.2) (fun z3=>(some (.inl z3)))) (some (.inl x.2))))) (some (.inl
 x.2))) (fun (z3:Int)=>(cnd (iLt z3 0) (some (0,false)) (some (z3,true)))))))))))
def Zcw (x:(((List UInt8)×(Int×Int))×Int)):(Option (Int×(Int×Int))):=(cnd (iEq x.2 0) (bnd (Zcv (x.1.1,(x.1.2.1,x.1.2.2))) (fun z1=>(some (z1.1,(z1.2.1,z1.2.2))))) (cnd (iEq x.2 5) (bnd (Zj ((x.1.1,(x.1.2.1,x.1.2.2)),[97,32,12353,12435,12449,12534,12354])) (fun z1=>(some (z1.1,(z1.2.1,z1.2.2))))) (bnd (Zj ((x.1.1,(x.1.2.1,x.1.2.2)),[65,97,32,164,192,200,228,255,163,128,130,189])) (fun z1=>(bnd (Zl (x.2,z1.1)) (fun z2=>(cnd (bNot z2.2) (some (120,(z1.2.1,z1.2.2))) (some (z2.1,(z1.2.1,z1.2.2))))))))))
def Zv (x:Int):(Option Bool):=(bnd (Zb (x,(0,1114111))) (fun z1=>(cnd z1 (bnd (Zb (x,(55296,57343))) (fun z2 =>
 (some (bNot z2)))) (some false))))
def Zn (x:((List UInt8)×Int)):(Option (List UInt8)):=(chk (room (0+x.1.length) 1) (bnd (Zv x.2) (fun z1=>(cnd (bNot z1) (some
 (lApp [] x.1)) (cnd (iLe x.2 127) (chk (room ((lApp [] x.1).length+1) 1) (some (lApp (lApp [] x.1) [(u8 (iConv .u8 x.2))]))) (cnd (iLe x.2 2047) (chk (room ((lApp []
 x.1).length+2) 1) (some (lApp (lApp [] x.1) [(u8 (iConv .u8 (iOr .i64 192 (iShr .i64 x.2 6)))),(u8 (iConv .u8 (iOr .i64 128 (iAnd .i64 x.2 63))))]))) (cnd (iLe x.2 65535) (chk
 (room ((lApp [] x.1).length+3) 1) (some (lApp (lApp [] x.1) [(u8 (iConv .u8 (iOr .i64 224 (iShr .i64 x.2 12)))),(u8 (iConv .u8 (iOr .i64 128 (iAnd .i64 (iShr .i64 x.2 6)
 63)))),(u8 (iConv .u8 (iOr .i64 128 (iAnd .i64 x.2 63))))]))) (chk (room ((lApp [] x.1).length+4) 1) (some (lApp (lApp [] x.1) [(u8 (iConv .u8 (iOr .i64 240 (iShr .i64 x.2
 18)))),(u8 (iConv .u8 (iOr .i64 128 (iAnd .i64 (iShr .i64 x.2 12) 63)))),(u8 (iConv .u8 (iOr .i64 128 (iAnd .i64 (iShr .i64 x.2 6) 63)))),(u8 (iConv .u8 (iOr .i64 128 (iAnd
 .i64 x.2 63))))]))))))))))
def Zcx (x:(((List UInt8)×(Int×Int))×(Int×Int))):(Int×(Int×((List UInt8)×Int)))->Option ((Int×(Int×((List UInt8)×Int))) ⊕ ((Int ×
 (Int×(List UInt8))) ⊕ ((List UInt8)×(Int×Int)))):=fun (z2:(Int×(Int×((List UInt8)×Int))))=>(cnd (iGt z2.2.2.2 0) (bnd (Zcw ((x.1.1,(z2.1,z2.2.1)),
 x.2.1)) (fun z3=>(bnd (Zn (z2.2.2.1,z3.1)) (fun z4=>(some (.inl (z3.2.1,(z3.2.2,(z4,(iSub .i64 z2.2.2.2 1))))))))))
 (some (.inr (.inl (z2.1,(z2.2.1,z2.2.2.1))))))
def Zbl (x:(((List UInt8)×(Int×Int))×(Int×Int))):(Option ((List UInt8)×(Int×Int))):=(joinX (bnd (Ze ((x.1.1,(x.1.2.1,x.1.2.2)),
 (iAdd .i64 x.2.2 1))) (fun z1=>(loopX (Zcx x) (z1.2.1,(z1.2.2,([],z1.1)))))) (fun (z1:(Int×(Int×(List UInt8))))=>(some (z1.2.2,
 (z1.1,z1.2.1)))))
def Zcy (x:UInt8):(Option Int):=(cnd (iLt (y2i x) (y2i (u8 128))) (some 1) (bnd (Zb ((iConv .i64 (y2i x)),(194,223))) (fun z1=>(cnd z1
 (some 2) (bnd (Zb ((iConv .i64 (y2i x)),(224,239))) (fun z2=>(cnd z2 (some 3) (bnd (Zb ((iConv .i64 (y2i x)),(240,244))) (fun z3=>(cnd z3
 (some 4) (some 0)))))))))))
def Zo (x:((List UInt8)×Int)) (z3:Int):(Int×Int)->Option ((Int×Int) ⊕ (Int ⊕ (Int×(Int×Bool)))):=fun (z6:(Int×Int))=>(cnd (iLt
 z6.2 z3) (bnd (idx x.1 (iAdd .i64 x.2 z6.2)) (fun z7=>(cnd (iNe (y2i (u8 (iAnd .u8 (y2i z7) (y2i (u8 192))))) (y2i (u8 128))) (some (.inr (.inr (0,(0,false)))))
 (bnd (idx x.1 (iAdd .i64 x.2 z6.2)) (fun z8=>(some (.inl ((iOr .i64 (iShl .i64 z6.1 6) (iConv .i64 (y2i (u8 (iAnd .u8 (y2i z8) (y2i (u8 63))))))),(iAdd .i64 z6.2
 1))))))))) (some (.inr (.inl z6.1))))
def Zbm (x:((List UInt8)×Int)):(Option (Int×(Int×Bool))):=(bnd (Zb (x.2,(0,(iSub .i64 (lLen x.1) 1)))) (fun z1=>(cnd (bNot z1)
 (some (0,(0,false))) (bnd (idx x.1 x.2) (fun z2=>(bnd (Zcy z2) (fun z3=>(cnd (iEq z3 0) (some (0,(0,false))) (cnd (iGt z3 (iSub .i64 (lLen x.1)
 x.2)) (some (0,(0,false))) (bnd (idx x.1 x.2) (fun z4=>(joinX (cnd (iGt z3 1) (chk (iLe 0 (iConv .u64 z3)) (some (.inl (iAnd .i64 (iConv .i64 (y2i z4)) (iShr .i64
 127 (iConv .u64 z3)))))) (some (.inl (iConv .i64 (y2i z4))))) (fun (z5:Int)=>(joinX (loopX (Zo x z3) (z5,1)) (fun (z6:Int)=>(bnd (Zv z6) (fun z7=>(cnd (bNot z7) (some (0,(0,false))) (bnd (Zn ([],z6)) (fun z8=>(chk (within x.2 (iAdd .i64 x.2 z3) (lLen x.1)) (cnd (bNot (sEq z8 (lTake
 ((nOf (iAdd .i64 x.2 z3))-(nOf x.2)) (lDrop (nOf x.2) x.1)))) (some (0,(0,false))) (some (z6,((iAdd .i64 x.2 z3),true)))))))))))))))))))))))))
def Zei (x:(List UInt8)):((List Int)×Int)->Option (((List Int)×Int) ⊕ ((List Int) ⊕ ((List Int)×Bool))):=fun (z1:((List Int)×Int))=>(cnd
 (iLt z1.2 (lLen x)) (bnd (Zbm (x,z1.2)) (fun z2=>(cnd (bNot z2.2.2) (some (.inr (.inr ([],false)))) (chk (room (z1.1.length+1) 8) (some
 (.inl ((lApp z1.1 [z2.1]),z2.2.1))))))) (some (.inr (.inl z1.1))))
def Zcz (x:(List UInt8)):(Option ((List Int)×Bool)):=(joinX (loopX (Zei x) ([],0)) (fun (z1:(List Int))=>(some (z1,true))))
def Zw (x:Int):(Option Bool):=(bnd (Zb (x,(0,5))) (fun z1=>(some z1)))
def Zej (x:Int):(Option (Int×(Int×Bool))):=(bnd (Zb (x,(12353,12435))) (fun z1=>(cnd z1 (some (164,((iAdd .i64 (iSub .i64 x
 12353) 161),true))) (bnd (Zb (x,(12449,12534))) (fun z2=>(cnd z2 (some (165,((iAdd .i64 (iSub .i64 x 12449) 161),true))) (some (0,(0,false)))))))))
def Zbn (x:((List UInt8)×Int)):(Option ((List UInt8)×Bool)):=(chk (room (0+x.1.length) 1) (bnd (Zb (x.2,(0,127))) (fun z1=>(cnd
 z1 (chk (room ((lApp [] x.1).length+1) 1) (some ((lApp (lApp [] x.1) [(u8 (iConv .u8 x.2))]),true))) (bnd (Zej x.2) (fun z2=>(cnd (bNot
 z2.2.2) (some ((lApp [] x.1),false)) (chk (room ((lApp [] x.1).length+2) 1) (some ((lApp (lApp [] x.1) [(u8 (iConv .u8 z2.1)),(u8 (iConv .u8 z2.2.1))]),true))))))))))
def Zfd (x:(Int×Int)):(Int)->Option ((Int) ⊕ (Unit ⊕ (Int×Bool))):=fun (z1:Int)=>(cnd (iLt z1 256) (bnd (Zl (x.1,z1)) (fun z2=>(cnd z2.2 (cnd (iEq z2.1 x.2) (some (.inr (.inr (z1,true)))) (some (.inl (iAdd .i64 z1 1)))) (some (.inl (iAdd .i64 z1 1)))))) (some (.inr (.inl ()))))
def Zda (x:(Int×Int)):(Option (Int×Bool)):=(joinX (loopX (Zfd x) 0) (fun (z1:Unit)=>(some (0,false))))
def Zbo (x:(Int×((List UInt8)×Int))):(Option ((List UInt8)×Bool)):=(cnd (iEq x.1 0) (bnd (Zn (x.2.1,x.2.2)) (fun z1 =>
 (bnd (Zv x.2.2) (fun z2=>(some (z1,z2)))))) (cnd (iEq x.1 5) (bnd (Zbn (x.2.1,x.2.2)) (fun z1=>(some (z1.1,z1.2)))) (bnd
 (Zda (x.1,x.2.2)) (fun z1=>(cnd (bNot z1.2) (chk (room (0+x.2.1.length) 1) (some ((lApp [] x.2.1),false))) (chk (room (0+x.2.1.length) 1) (chk
 (room ((lApp [] x.2.1).length+1) 1) (some ((lApp (lApp [] x.2.1) [(u8 (iConv .u8 z1.1))]),true)))))))))
def Zek (x:(Int×(List UInt8))) (z1:((List Int)×Bool)):((List UInt8)×Int)->Option (((List UInt8)×Int) ⊕ ((List UInt8) ⊕ ((List UInt8)×Bool)))
 := fun (z3:((List UInt8)×Int))=>(cnd (iLt z3.2 (lLen z1.1)) (bnd (idx z1.1 z3.2) (fun z4=>(bnd (Zbo (x.1,(z3.1,z4))) (fun z5 =>
 (cnd (bNot z5.2) (some (.inr (.inr ([],false)))) (some (.inl (z5.1,(iAdd .i64 z3.2 1))))))))) (some (.inr (.inl z3.1))))
def Zdb (x:(Int×(List UInt8))):(Option ((List UInt8)×Bool)):=(bnd (Zcz x.2) (fun z1=>(bnd (Zw x.1) (fun z2=>(cnd (bNot z2) (some ([],false)) (cnd (bNot z1.2) (some ([],false)) (joinX (loopX (Zek x z1) ([],0)) (fun (z3:(List UInt8))=>(some (z3,true))))))))))
def Zbc (x:(Int×(List UInt8))):(Option ((Int×(List UInt8))×Bool)):=(bnd (Zdb (x.1,x.2)) (fun z1=>(cnd (bNot
 z1.2) (some ((0,[]),false)) (cnd (iGt (lLen z1.1) 20) (some ((0,[]),false)) (some ((x.1,z1.1),true))))))
def Zbp (x:(List UInt8)):(Int)->Option ((Int) ⊕ (Unit ⊕ Bool)):=fun (z1:Int)=>(cnd (iLt z1 (lLen x)) (bnd (idx x z1) (fun z2=>(bnd
 (Zb ((iConv .i64 (y2i z2)),(97,122))) (fun z3=>(cnd (bNot z3) (bnd (idx x z1) (fun z4=>(bnd (Zb ((iConv .i64 (y2i z4)),(48,57))) (fun z5=>(cnd (bNot z5) (some (.inr (.inr false))) (some (.inl (iAdd .i64 z1 1)))))))) (some (.inl (iAdd .i64 z1 1)))))))) (some (.inr (.inl ()))))
def Zx (x:(List UInt8)):(Option Bool):=(joinX (loopX (Zbp x) 0) (fun (z1:Unit)=>(bnd (Zb ((lLen x),(1,6))) (fun z2 =>
 (some z2)))))
def Zbd (x:(Int×((List UInt8)×(Int×(List UInt8))))):(Option (((List UInt8)×((Int×(List UInt8))×((Int×(List UInt8))×(Int×Bool))))×Int))
 := (bnd (Zbc (0,x.2.2.2)) (fun z1=>(bnd (Zb (x.1,(0,7))) (fun z2=>(cnd (bNot z2) (some (([],((0,[]),((0,[]),
 (0,false)))),1)) (bnd (Zx x.2.1) (fun z3=>(cnd (bNot z3) (some (([],((0,[]),((0,[]),(0,false)))),1)) (bnd (Zb (x.2.2.1,(1,5))) (fun z4=>(cnd (bNot z4) (some (([],((0,[]),((0,[]),(0,false)))),1)) (cnd (bNot z1.2) (some (([],((0,[]),((0,[]),(0,false)))),1)) (bnd (Zbc (x.2.2.1,
 x.2.2.2)) (fun z5=>(joinX (joinX (cnd (iEq x.1 0) (some (.inl true)) (some (.inl (iEq x.1 7)))) (fun (z6:Bool)=>(cnd z6 (cnd (bNot z5.2)
 (some (.inr (([],((0,[]),((0,[]),(0,false)))),3))) (some (.inr ((x.2.1,((z5.1.1,z5.1.2),((0,[]),(1,false)))),0)))) (joinX (cnd (iEq x.1 4) (some (.inl true)) (some
 (.inl (iEq x.1 5)))) (fun (z7:Bool)=>(cnd z7 (some (.inr ((x.2.1,((0,[]),((z1.1.1,z1.1.2),(2,false)))),0))) (cnd (iEq x.1 6) (cnd z5.2 (some (.inr ((x.2.1,((z5.1.1,
 z5.1.2),((0,[]),(1,false)))),0))) (some (.inr ((x.2.1,((0,[]),((z1.1.1,z1.1.2),(2,true)))),0)))) (some (.inl ([],(0,([],(0,([],(0,false))))))))))))))) (fun (z6
 : ((List UInt8)×(Int×((List UInt8)×(Int×((List UInt8)×(Int×Bool)))))))=>(cnd (bNot z5.2) (some ((x.2.1,((0,[]),((z1.1.1,z1.1.2),(2,true)))),0)) (some
 ((x.2.1,((z5.1.1,z5.1.2),((z1.1.1,z1.1.2),(3,false)))),0)))))))))))))))))))
def Zp (x:(Int×(List UInt8))):(Option (Int×(List UInt8))):=(chk (room (0+x.2.length) 1) (some (x.1,(lApp [] x.2))))
def Zg (x:((List UInt8)×((Int×(List UInt8))×((Int×(List UInt8))×(Int×Bool))))):(Option ((List UInt8)×((Int×(List UInt8))×((Int×(List
 UInt8))×(Int×Bool))))):=(bnd (Zp (x.2.1.1,x.2.1.2)) (fun z1=>(bnd (Zp (x.2.2.1.1,x.2.2.1.2)) (fun z2
 => (some (x.1,((z1.1,z1.2),((z2.1,z2.2),(x.2.2.2.1,x.2.2.2.2)))))))))
def Zd (x:((List UInt8)×((Int×(List UInt8))×((Int×(List UInt8))×(Int×Bool))))):(Option Bool):=(some (iEq (iAnd .i64 x.2.2.2.1 1) 1))
def Zs (x:(Int×(List UInt8))):(Option Bool):=(cnd (iEq x.1 0) (some (iEq (lLen x.2) 0)) (some false))
def Zc (x:((List UInt8)×((Int×(List UInt8))×((Int×(List UInt8))×(Int×Bool))))):(Option Bool):=(some (iEq (iAnd .i64 x.2.2.2.1 2) 2))
def Zq (x:(Int×(List UInt8))):(Option Bool):=(bnd (Zw x.1) (fun z1=>(cnd z1 (some (iLe (lLen x.2) 20)) (some false))))
def Zdc (x:(Int×Int)):(Option (Int×Bool)):=(cnd (iEq x.1 164) (bnd (Zb (x.2,(161,243))) (fun z1=>(cnd z1 (some ((iSub .i64 (iAdd
 .i64 12353 x.2) 161),true)) (cnd (iEq x.1 165) (bnd (Zb (x.2,(161,246))) (fun z2=>(cnd z2 (some ((iSub .i64 (iAdd .i64 12449 x.2) 161),true)) (some (0,
 false))))) (some (0,false)))))) (cnd (iEq x.1 165) (bnd (Zb (x.2,(161,246))) (fun z1=>(cnd z1 (some ((iSub .i64 (iAdd .i64 12449 x.2) 161),true)) (some (0,
 false))))) (some (0,false))))
def Zdd (x:((List UInt8)×Int)):(Option (Int×(Int×Bool))):=(bnd (Zb (x.2,(0,(iSub .i64 (lLen x.1) 1)))) (fun z1=>(cnd (bNot z1)
 (some (0,(0,false))) (bnd (idx x.1 x.2) (fun z2=>(cnd (iLt (y2i z2) (y2i (u8 128))) (bnd (idx x.1 x.2) (fun z3=>(some ((iConv .i64 (y2i z3)),((iAdd
 .i64 x.2 1),true))))) (cnd (iGe (iAdd .i64 x.2 1) (lLen x.1)) (some (0,(0,false))) (bnd (idx x.1 x.2) (fun z3=>(bnd (idx x.1 (iAdd .i64 x.2 1)) (fun z4
 => (bnd (Zdc ((iConv .i64 (y2i z3)),(iConv .i64 (y2i z4)))) (fun z5=>(cnd (bNot z5.2) (some (0,(0,false))) (some (z5.1,((iAdd .i64 x.2 2),
 true)))))))))))))))))
def Zde (x:(Int×((List UInt8)×Int))):(Option (Int×(Int×Bool))):=(cnd (iEq x.1 0) (bnd (Zbm (x.2.1,x.2.2)) (fun z1=>(some (z1.1,(z1.2.1,z1.2.2))))) (cnd (iEq x.1 5) (bnd (Zdd (x.2.1,x.2.2)) (fun z1=>(some (z1.1,(z1.2.1,z1.2.2))))) (bnd (idx
 x.2.1 x.2.2) (fun z1=>(bnd (Zl (x.1,(iConv .i64 (y2i z1)))) (fun z2=>(some (z2.1,((iAdd .i64 x.2.2 1),z2.2)))))))))
def Zel (x:(Int×(List UInt8))):((List UInt8)×Int)->Option (((List UInt8)×Int) ⊕ ((List UInt8) ⊕ ((List UInt8)×Bool))):=fun (z2:((List UInt8)
 × Int))=>(cnd (iLt z2.2 (lLen x.2)) (bnd (Zde (x.1,(x.2,z2.2))) (fun z3=>(cnd (bNot z3.2.2) (some (.inr (.inr ([],false)))) (bnd
 (Zn (z2.1,z3.1)) (fun z4=>(some (.inl (z4,z3.2.1)))))))) (some (.inr (.inl z2.1))))
def Zdf (x:(Int×(List UInt8))):(Option ((List UInt8)×Bool)):=(bnd (Zw x.1) (fun z1=>(cnd (bNot z1) (some ([],false)) (joinX (loopX
 (Zel x) ([],0)) (fun (z2:(List UInt8))=>(some (z2,true)))))))
def Zh (x:(Int×(List UInt8))):(Option ((List UInt8)×Bool)):=(bnd (Zq (x.1,x.2)) (fun z1=>(cnd (bNot z1) (some ([],false))
 (bnd (Zdf (x.1,x.2)) (fun z2=>(some (z2.1,z2.2)))))))
def Za (x:((Int×(List UInt8))×(Int×(List UInt8)))):(Option Bool):=(bnd (Zh (x.1.1,x.1.2)) (fun z1=>(bnd
 (Zh (x.2.1,x.2.2)) (fun z2=>(cnd z1.2 (cnd z2.2 (some (sEq z1.1 z2.1)) (some false)) (some false))))))
def Zm (x:((List UInt8)×((Int×(List UInt8))×((Int×(List UInt8))×(Int×Bool))))):(Option Bool):=(bnd (Zx x.1) (fun z1=>(cnd
 (bNot z1) (some false) (bnd (Zb (x.2.2.2.1,(1,3))) (fun z2=>(cnd (bNot z2) (some false) (bnd (Zd (x.1,((x.2.1.1,x.2.1.2),((x.2.2.1.1,x.2.2.1.2),
 (x.2.2.2.1,x.2.2.2.2))))) (fun z3=>(cnd (bNot z3) (bnd (Zs (x.2.1.1,x.2.1.2)) (fun z4=>(cnd (bNot z4) (some false) (bnd (Zc (x.1,
 ((x.2.1.1,x.2.1.2),((x.2.2.1.1,x.2.2.1.2),(x.2.2.2.1,x.2.2.2.2))))) (fun z5=>(cnd (bNot z5) (bnd (Zs (x.2.2.1.1,x.2.2.1.2)) (fun z6=>(cnd
 (bNot z6) (some false) (bnd (Zh (x.2.1.1,x.2.1.2)) (fun z7=>(bnd (Zh (x.2.2.1.1,x.2.2.1.2)) (fun z8 =>
 (bnd (Zd (x.1,((x.2.1.1,x.2.1.2),((x.2.2.1.1,x.2.2.1.2),(x.2.2.2.1,x.2.2.2.2))))) (fun z9=>(cnd z9 (bnd (Zb (x.2.1.1,(1,5))) (fun z10 =>
 (cnd (bNot z10) (some false) (bnd (Zq (x.2.1.1,x.2.1.2)) (fun z11=>(cnd (bNot z11) (some false) (bnd (Zc (x.1,((x.2.1.1,x.2.1.2),((x.2.2.1.1,
 x.2.2.1.2),(x.2.2.2.1,x.2.2.2.2))))) (fun z12=>(cnd z12 (cnd (iNe x.2.2.1.1 0) (some false) (cnd (bNot z8.2) (some false) (bnd (Zd (x.1,((x.2.1.1,x.2.1.2),
 ((x.2.2.1.1,x.2.2.1.2),(x.2.2.2.1,x.2.2.2.2))))) (fun z13=>(cnd z13 (cnd (bNot z7.2) (cnd (bNot x.2.2.2.2) (some false) (bnd (Zc (x.1,((x.2.1.1,x.2.1.2),
 ((x.2.2.1.1,x.2.2.1.2),(x.2.2.2.1,x.2.2.2.2))))) (fun z14=>(cnd z14 (some false) (cnd (iNe x.2.2.2.1 3) (some true) (bnd (Za ((x.2.1.1,x.2.1.2),
 (x.2.2.1.1,x.2.2.1.2))) (fun z15=>(some z15)))))))) (cnd (iNe x.2.2.2.1 3) (some true) (bnd (Za ((x.2.1.1,x.2.1.2),(x.2.2.1.1,x.2.2.1.2))) (fun z14=>(some z14))))) (cnd (iNe x.2.2.2.1 3) (some true) (bnd (Za ((x.2.1.1,x.2.1.2),(x.2.2.1.1,x.2.2.1.2))) (fun z14=>(some z14))))))))) (bnd
 (Zd (x.1,((x.2.1.1,x.2.1.2),((x.2.2.1.1,x.2.2.1.2),(x.2.2.2.1,x.2.2.2.2))))) (fun z13=>(cnd z13 (cnd (bNot z7.2) (cnd (bNot x.2.2.2.2) (some false) (bnd
 (Zc (x.1,((x.2.1.1,x.2.1.2),((x.2.2.1.1,x.2.2.1.2),(x.2.2.2.1,x.2.2.2.2))))) (fun z14=>(cnd z14 (some false) (cnd (iNe x.2.2.2.1 3) (some true) (bnd
 (Za ((x.2.1.1,x.2.1.2),(x.2.2.1.1,x.2.2.1.2))) (fun z15=>(some z15)))))))) (cnd (iNe x.2.2.2.1 3) (some true) (bnd (Za ((x.2.1.1,x.2.1.2),
 (x.2.2.1.1,x.2.2.1.2))) (fun z14=>(some z14))))) (cnd (iNe x.2.2.2.1 3) (some true) (bnd (Za ((x.2.1.1,x.2.1.2),(x.2.2.1.1,x.2.2.1.2))) (fun z14
 => (some z14)))))))))))))))) (bnd (Zc (x.1,((x.2.1.1,x.2.1.2),((x.2.2.1.1,x.2.2.1.2),(x.2.2.2.1,x.2.2.2.2))))) (fun z10=>(cnd z10 (cnd (iNe x.2.2.1.1 0)
 (some false) (cnd (bNot z8.2) (some false) (bnd (Zd (x.1,((x.2.1.1,x.2.1.2),((x.2.2.1.1,x.2.2.1.2),(x.2.2.2.1,x.2.2.2.2))))) (fun z11=>(cnd z11 (cnd (bNot
 z7.2) (cnd (bNot x.2.2.2.2) (some false) (bnd (Zc (x.1,((x.2.1.1,x.2.1.2),((x.2.2.1.1,x.2.2.1.2),(x.2.2.2.1,x.2.2.2.2))))) (fun z12=>(cnd z12 (some false)
 (cnd (iNe x.2.2.2.1 3) (some true) (bnd (Za ((x.2.1.1,x.2.1.2),(x.2.2.1.1,x.2.2.1.2))) (fun z13=>(some z13)))))))) (cnd (iNe x.2.2.2.1 3) (some true) (bnd
 (Za ((x.2.1.1,x.2.1.2),(x.2.2.1.1,x.2.2.1.2))) (fun z12=>(some z12))))) (cnd (iNe x.2.2.2.1 3) (some true) (bnd (Za ((x.2.1.1,x.2.1.2),
 (x.2.2.1.1,x.2.2.1.2))) (fun z12=>(some z12))))))))) (bnd (Zd (x.1,((x.2.1.1,x.2.1.2),((x.2.2.1.1,x.2.2.1.2),(x.2.2.2.1,x.2.2.2.2))))) (fun z11
 => (cnd z11 (cnd (bNot z7.2) (cnd (bNot x.2.2.2.2) (some false) (bnd (Zc (x.1,((x.2.1.1,x.2.1.2),((x.2.2.1.1,x.2.2.1.2),(x.2.2.2.1,x.2.2.2.2))))) (fun z12
 => (cnd z12 (some false) (cnd (iNe x.2.2.2.1 3) (some true) (bnd (Za ((x.2.1.1,x.2.1.2),(x.2.2.1.1,x.2.2.1.2))) (fun z13=>(some z13)))))))) (cnd (iNe
 x.2.2.2.1 3) (some true) (bnd (Za ((x.2.1.1,x.2.1.2),(x.2.2.1.1,x.2.2.1.2))) (fun z12=>(some z12))))) (cnd (iNe x.2.2.2.1 3) (some true) (bnd
 (Za ((x.2.1.1,x.2.1.2),(x.2.2.1.1,x.2.2.1.2))) (fun z12=>(some z12)))))))))))))))))))) (bnd (Zh (x.2.1.1,x.2.1.2)) (fun z6=>(bnd (Zh (x.2.2.1.1,x.2.2.1.2)) (fun z7=>(bnd (Zd (x.1,((x.2.1.1,x.2.1.2),((x.2.2.1.1,x.2.2.1.2),(x.2.2.2.1,
 x.2.2.2.2))))) (fun z8=>(cnd z8 (bnd (Zb (x.2.1.1,(1,5))) (fun z9=>(cnd (bNot z9) (some false) (bnd (Zq (x.2.1.1,x.2.1.2)) (fun z10=>(cnd (bNot z10) (some false) (bnd (Zc (x.1,((x.2.1.1,x.2.1.2),((x.2.2.1.1,x.2.2.1.2),(x.2.2.2.1,x.2.2.2.2))))) (fun z11=>(cnd z11 (cnd (iNe
 x.2.2.1.1 0) (some false) (cnd (bNot z7.2) (some false) (bnd (Zd (x.1,((x.2.1.1,x.2.1.2),((x.2.2.1.1,x.2.2.1.2),(x.2.2.2.1,x.2.2.2.2))))) (fun z12=>(cnd
 z12 (cnd (bNot z6.2) (cnd (bNot x.2.2.2.2) (some false) (bnd (Zc (x.1,((x.2.1.1,x.2.1.2),((x.2.2.1.1,x.2.2.1.2),(x.2.2.2.1,x.2.2.2.2))))) (fun z13=>(cnd
 z13 (some false) (cnd (iNe x.2.2.2.1 3) (some true) (bnd (Za ((x.2.1.1,x.2.1.2),(x.2.2.1.1,x.2.2.1.2))) (fun z14=>(some z14)))))))) (cnd (iNe x.2.2.2.1 3)
 (some true) (bnd (Za ((x.2.1.1,x.2.1.2),(x.2.2.1.1,x.2.2.1.2))) (fun z13=>(some z13))))) (cnd (iNe x.2.2.2.1 3) (some true) (bnd (Za ((x.2.1.1,
 x.2.1.2),(x.2.2.1.1,x.2.2.1.2))) (fun z13=>(some z13))))))))) (bnd (Zd (x.1,((x.2.1.1,x.2.1.2),((x.2.2.1.1,x.2.2.1.2),(x.2.2.2.1,x.2.2.2.2))))) (fun
 z12=>(cnd z12 (cnd (bNot z6.2) (cnd (bNot x.2.2.2.2) (some false) (bnd (Zc (x.1,((x.2.1.1,x.2.1.2),((x.2.2.1.1,x.2.2.1.2),(x.2.2.2.1,x.2.2.2.2))))) (fun
 z13=>(cnd z13 (some false) (cnd (iNe x.2.2.2.1 3) (some true) (bnd (Za ((x.2.1.1,x.2.1.2),(x.2.2.1.1,x.2.2.1.2))) (fun z14=>(some z14))))))))
 (cnd (iNe x.2.2.2.1 3) (some true) (bnd (Za ((x.2.1.1,x.2.1.2),(x.2.2.1.1,x.2.2.1.2))) (fun z13=>(some z13))))) (cnd (iNe x.2.2.2.1 3) (some true) (bnd
 (Za ((x.2.1.1,x.2.1.2),(x.2.2.1.1,x.2.2.1.2))) (fun z13=>(some z13)))))))))))))))) (bnd (Zc (x.1,((x.2.1.1,x.2.1.2),((x.2.2.1.1,x.2.2.1.2),
 (x.2.2.2.1,x.2.2.2.2))))) (fun z9=>(cnd z9 (cnd (iNe x.2.2.1.1 0) (some false) (cnd (bNot z7.2) (some false) (bnd (Zd (x.1,((x.2.1.1,x.2.1.2),((x.2.2.1.1,
 x.2.2.1.2),(x.2.2.2.1,x.2.2.2.2))))) (fun z10=>(cnd z10 (cnd (bNot z6.2) (cnd (bNot x.2.2.2.2) (some false) (bnd (Zc (x.1,((x.2.1.1,x.2.1.2),((x.2.2.1.1,
 x.2.2.1.2),(x.2.2.2.1,x.2.2.2.2))))) (fun z11=>(cnd z11 (some false) (cnd (iNe x.2.2.2.1 3) (some true) (bnd (Za ((x.2.1.1,x.2.1.2),(x.2.2.1.1,
 x.2.2.1.2))) (fun z12=>(some z12)))))))) (cnd (iNe x.2.2.2.1 3) (some true) (bnd (Za ((x.2.1.1,x.2.1.2),(x.2.2.1.1,x.2.2.1.2))) (fun z11=>(some
 z11))))) (cnd (iNe x.2.2.2.1 3) (some true) (bnd (Za ((x.2.1.1,x.2.1.2),(x.2.2.1.1,x.2.2.1.2))) (fun z11=>(some z11))))))))) (bnd (Zd (x.1,
 ((x.2.1.1,x.2.1.2),((x.2.2.1.1,x.2.2.1.2),(x.2.2.2.1,x.2.2.2.2))))) (fun z10=>(cnd z10 (cnd (bNot z6.2) (cnd (bNot x.2.2.2.2) (some false) (bnd (Zc (x.1,
 ((x.2.1.1,x.2.1.2),((x.2.2.1.1,x.2.2.1.2),(x.2.2.2.1,x.2.2.2.2))))) (fun z11=>(cnd z11 (some false) (cnd (iNe x.2.2.2.1 3) (some true) (bnd (Za
 ((x.2.1.1,x.2.1.2),(x.2.2.1.1,x.2.2.1.2))) (fun z12=>(some z12)))))))) (cnd (iNe x.2.2.2.1 3) (some true) (bnd (Za ((x.2.1.1,x.2.1.2),(x.2.2.1.1,
 x.2.2.1.2))) (fun z11=>(some z11))))) (cnd (iNe x.2.2.2.1 3) (some true) (bnd (Za ((x.2.1.1,x.2.1.2),(x.2.2.1.1,x.2.2.1.2))) (fun z11=>(some
 z11))))))))))))))))))))))) (bnd (Zc (x.1,((x.2.1.1,x.2.1.2),((x.2.2.1.1,x.2.2.1.2),(x.2.2.2.1,x.2.2.2.2))))) (fun z4=>(cnd (bNot z4) (bnd (Zs
 (x.2.2.1.1,x.2.2.1.2)) (fun z5=>(cnd (bNot z5) (some false) (bnd (Zh (x.2.1.1,x.2.1.2)) (fun z6=>(bnd (Zh (x.2.2.1.1,
 x.2.2.1.2)) (fun z7=>(bnd (Zd (x.1,((x.2.1.1,x.2.1.2),((x.2.2.1.1,x.2.2.1.2),(x.2.2.2.1,x.2.2.2.2))))) (fun z8=>(cnd z8 (bnd
 (Zb (x.2.1.1,(1,5))) (fun z9=>(cnd (bNot z9) (some false) (bnd (Zq (x.2.1.1,x.2.1.2)) (fun z10=>(cnd (bNot z10) (some false) (bnd
 (Zc (x.1,((x.2.1.1,x.2.1.2),((x.2.2.1.1,x.2.2.1.2),(x.2.2.2.1,x.2.2.2.2))))) (fun z11=>(cnd z11 (cnd (iNe x.2.2.1.1 0) (some false) (cnd (bNot z7.2) (some
 false) (bnd (Zd (x.1,((x.2.1.1,x.2.1.2),((x.2.2.1.1,x.2.2.1.2),(x.2.2.2.1,x.2.2.2.2))))) (fun z12=>(cnd z12 (cnd (bNot z6.2) (cnd (bNot x.2.2.2.2) (some
 false) (bnd (Zc (x.1,((x.2.1.1,x.2.1.2),((x.2.2.1.1,x.2.2.1.2),(x.2.2.2.1,x.2.2.2.2))))) (fun z13=>(cnd z13 (some false) (cnd (iNe x.2.2.2.1 3) (some
 true) (bnd (Za ((x.2.1.1,x.2.1.2),(x.2.2.1.1,x.2.2.1.2))) (fun z14=>(some z14)))))))) (cnd (iNe x.2.2.2.1 3) (some true) (bnd (Za ((x.2.1.1,
 x.2.1.2),(x.2.2.1.1,x.2.2.1.2))) (fun z13=>(some z13))))) (cnd (iNe x.2.2.2.1 3) (some true) (bnd (Za ((x.2.1.1,x.2.1.2),(x.2.2.1.1,x.2.2.1.2))) (fun
 z13=>(some z13))))))))) (bnd (Zd (x.1,((x.2.1.1,x.2.1.2),((x.2.2.1.1,x.2.2.1.2),(x.2.2.2.1,x.2.2.2.2))))) (fun z12=>(cnd z12 (cnd (bNot z6.2)
 (cnd (bNot x.2.2.2.2) (some false) (bnd (Zc (x.1,((x.2.1.1,x.2.1.2),((x.2.2.1.1,x.2.2.1.2),(x.2.2.2.1,x.2.2.2.2))))) (fun z13=>(cnd z13 (some false) (cnd
 (iNe x.2.2.2.1 3) (some true) (bnd (Za ((x.2.1.1,x.2.1.2),(x.2.2.1.1,x.2.2.1.2))) (fun z14=>(some z14)))))))) (cnd (iNe x.2.2.2.1 3) (some true) (bnd
 (Za ((x.2.1.1,x.2.1.2),(x.2.2.1.1,x.2.2.1.2))) (fun z13=>(some z13))))) (cnd (iNe x.2.2.2.1 3) (some true) (bnd (Za ((x.2.1.1,x.2.1.2),
 (x.2.2.1.1,x.2.2.1.2))) (fun z13=>(some z13)))))))))))))))) (bnd (Zc (x.1,((x.2.1.1,x.2.1.2),((x.2.2.1.1,x.2.2.1.2),(x.2.2.2.1,x.2.2.2.2))))) (fun z9=>(cnd z9 (cnd (iNe x.2.2.1.1 0) (some false) (cnd (bNot z7.2) (some false) (bnd (Zd (x.1,((x.2.1.1,x.2.1.2),((x.2.2.1.1,x.2.2.1.2),(x.2.2.2.1,x.2.2.2.2)))))
 (fun z10=>(cnd z10 (cnd (bNot z6.2) (cnd (bNot x.2.2.2.2) (some false) (bnd (Zc (x.1,((x.2.1.1,x.2.1.2),((x.2.2.1.1,x.2.2.1.2),(x.2.2.2.1,x.2.2.2.2)))))
 (fun z11=>(cnd z11 (some false) (cnd (iNe x.2.2.2.1 3) (some true) (bnd (Za ((x.2.1.1,x.2.1.2),(x.2.2.1.1,x.2.2.1.2))) (fun z12=>(some
 z12)))))))) (cnd (iNe x.2.2.2.1 3) (some true) (bnd (Za ((x.2.1.1,x.2.1.2),(x.2.2.1.1,x.2.2.1.2))) (fun z11=>(some z11))))) (cnd (iNe x.2.2.2.1 3) (some
 true) (bnd (Za ((x.2.1.1,x.2.1.2),(x.2.2.1.1,x.2.2.1.2))) (fun z11=>(some z11))))))))) (bnd (Zd (x.1,((x.2.1.1,x.2.1.2),((x.2.2.1.1,x.2.2.1.2),
 (x.2.2.2.1,x.2.2.2.2))))) (fun z10=>(cnd z10 (cnd (bNot z6.2) (cnd (bNot x.2.2.2.2) (some false) (bnd (Zc (x.1,((x.2.1.1,x.2.1.2),((x.2.2.1.1,x.2.2.1.2),
 (x.2.2.2.1,x.2.2.2.2))))) (fun z11=>(cnd z11 (some false) (cnd (iNe x.2.2.2.1 3) (some true) (bnd (Za ((x.2.1.1,x.2.1.2),(x.2.2.1.1,x.2.2.1.2))) (fun
 z12=>(some z12)))))))) (cnd (iNe x.2.2.2.1 3) (some true) (bnd (Za ((x.2.1.1,x.2.1.2),(x.2.2.1.1,x.2.2.1.2))) (fun z11=>(some z11))))) (cnd
 (iNe x.2.2.2.1 3) (some true) (bnd (Za ((x.2.1.1,x.2.1.2),(x.2.2.1.1,x.2.2.1.2))) (fun z11=>(some z11)))))))))))))))))))) (bnd (Zh (x.2.1.1,
 x.2.1.2)) (fun z5=>(bnd (Zh (x.2.2.1.1,x.2.2.1.2)) (fun z6=>(bnd (Zd (x.1,((x.2.1.1,x.2.1.2),
 ((x.2.2.1.1,x.2.2.1.2),(x.2.2.2.1,x.2.2.2.2))))) (fun z7=>(cnd z7 (bnd (Zb (x.2.1.1,(1,5))) (fun z8=>(cnd (bNot z8) (some false) (bnd (Zq
 (x.2.1.1,x.2.1.2)) (fun z9=>(cnd (bNot z9) (some false) (bnd (Zc (x.1,((x.2.1.1,x.2.1.2),((x.2.2.1.1,x.2.2.1.2),(x.2.2.2.1,x.2.2.2.2))))) (fun z10=>(cnd z10 (cnd (iNe x.2.2.1.1 0) (some false) (cnd (bNot z6.2) (some false) (bnd (Zd (x.1,((x.2.1.1,x.2.1.2),((x.2.2.1.1,x.2.2.1.2),(x.2.2.2.1,x.2.2.2.2)))))
 (fun z11=>(cnd z11 (cnd (bNot z5.2) (cnd (bNot x.2.2.2.2) (some false) (bnd (Zc (x.1,((x.2.1.1,x.2.1.2),((x.2.2.1.1,x.2.2.1.2),(x.2.2.2.1,x.2.2.2.2)))))
 (fun z12=>(cnd z12 (some false) (cnd (iNe x.2.2.2.1 3) (some true) (bnd (Za ((x.2.1.1,x.2.1.2),(x.2.2.1.1,x.2.2.1.2))) (fun z13=>(some
 z13)))))))) (cnd (iNe x.2.2.2.1 3) (some true) (bnd (Za ((x.2.1.1,x.2.1.2),(x.2.2.1.1,x.2.2.1.2))) (fun z12=>(some z12))))) (cnd (iNe x.2.2.2.1 3) (some
 true) (bnd (Za ((x.2.1.1,x.2.1.2),(x.2.2.1.1,x.2.2.1.2))) (fun z12=>(some z12))))))))) (bnd (Zd (x.1,((x.2.1.1,x.2.1.2),((x.2.2.1.1,x.2.2.1.2),
 (x.2.2.2.1,x.2.2.2.2))))) (fun z11=>(cnd z11 (cnd (bNot z5.2) (cnd (bNot x.2.2.2.2) (some false) (bnd (Zc (x.1,((x.2.1.1,x.2.1.2),((x.2.2.1.1,x.2.2.1.2),
 (x.2.2.2.1,x.2.2.2.2))))) (fun z12=>(cnd z12 (some false) (cnd (iNe x.2.2.2.1 3) (some true) (bnd (Za ((x.2.1.1,x.2.1.2),(x.2.2.1.1,x.2.2.1.2))) (fun
 z13=>(some z13)))))))) (cnd (iNe x.2.2.2.1 3) (some true) (bnd (Za ((x.2.1.1,x.2.1.2),(x.2.2.1.1,x.2.2.1.2))) (fun z12=>(some z12))))) (cnd
 (iNe x.2.2.2.1 3) (some true) (bnd (Za ((x.2.1.1,x.2.1.2),(x.2.2.1.1,x.2.2.1.2))) (fun z12=>(some z12)))))))))))))))) (bnd (Zc (x.1,((x.2.1.1,
 x.2.1.2),((x.2.2.1.1,x.2.2.1.2),(x.2.2.2.1,x.2.2.2.2))))) (fun z8=>(cnd z8 (cnd (iNe x.2.2.1.1 0) (some false) (cnd (bNot z6.2) (some false) (bnd (Zd (x.1,
 ((x.2.1.1,x.2.1.2),((x.2.2.1.1,x.2.2.1.2),(x.2.2.2.1,x.2.2.2.2))))) (fun z9=>(cnd z9 (cnd (bNot z5.2) (cnd (bNot x.2.2.2.2) (some false) (bnd (Zc (x.1,
 ((x.2.1.1,x.2.1.2),((x.2.2.1.1,x.2.2.1.2),(x.2.2.2.1,x.2.2.2.2))))) (fun z10=>(cnd z10 (some false) (cnd (iNe x.2.2.2.1 3) (some true) (bnd (Za
 ((x.2.1.1,x.2.1.2),(x.2.2.1.1,x.2.2.1.2))) (fun z11=>(some z11)))))))) (cnd (iNe x.2.2.2.1 3) (some true) (bnd (Za ((x.2.1.1,x.2.1.2),(x.2.2.1.1,
 x.2.2.1.2))) (fun z10=>(some z10))))) (cnd (iNe x.2.2.2.1 3) (some true) (bnd (Za ((x.2.1.1,x.2.1.2),(x.2.2.1.1,x.2.2.1.2))) (fun z10=>(some
 z10))))))))) (bnd (Zd (x.1,((x.2.1.1,x.2.1.2),((x.2.2.1.1,x.2.2.1.2),(x.2.2.2.1,x.2.2.2.2))))) (fun z9=>(cnd z9 (cnd (bNot z5.2) (cnd (bNot x.2.2.2.2)
 (some false) (bnd (Zc (x.1,((x.2.1.1,x.2.1.2),((x.2.2.1.1,x.2.2.1.2),(x.2.2.2.1,x.2.2.2.2))))) (fun z10=>(cnd z10 (some false) (cnd (iNe x.2.2.2.1 3)
 (some true) (bnd (Za ((x.2.1.1,x.2.1.2),(x.2.2.1.1,x.2.2.1.2))) (fun z11=>(some z11)))))))) (cnd (iNe x.2.2.2.1 3) (some true) (bnd (Za
 ((x.2.1.1,x.2.1.2),(x.2.2.1.1,x.2.2.1.2))) (fun z10=>(some z10))))) (cnd (iNe x.2.2.2.1 3) (some true) (bnd (Za ((x.2.1.1,x.2.1.2),(x.2.2.1.1,
 x.2.2.1.2))) (fun z10=>(some z10)))))))))))))))))))))))))))))
def Zbq (x:((Int×(List UInt8))×Int)):(Option ((Int×(List UInt8))×Bool)):=(bnd (Zh (x.1.1,x.1.2)) (fun z1 =>
 (bnd (Zbc (x.2,z1.1)) (fun z2=>(cnd (bNot z1.2) (bnd (Zp (x.1.1,x.1.2)) (fun z3=>(some ((z3.1,
 z3.2),false)))) (cnd (bNot z2.2) (bnd (Zp (x.1.1,x.1.2)) (fun z3=>(some ((z3.1,z3.2),false)))) (some ((z2.1.1,z2.1.2),true))))))))
def Zbr (x:((List UInt8)×((Int×(List UInt8))×((Int×(List UInt8))×(Int×Bool))))):(Option ((List UInt8)×((Int×(List UInt8))×((Int×(List
 UInt8))×(Int×Bool))))):=(bnd (Zg (x.1,((x.2.1.1,x.2.1.2),((x.2.2.1.1,x.2.2.1.2),(x.2.2.2.1,x.2.2.2.2))))) (fun z1=>(bnd (Zm (x.1,((x.2.1.1,x.2.1.2),((x.2.2.1.1,x.2.2.1.2),(x.2.2.2.1,x.2.2.2.2))))) (fun z2=>(cnd (bNot z2)
 (some (z1.1,((z1.2.1.1,z1.2.1.2),((z1.2.2.1.1,z1.2.2.1.2),(z1.2.2.2.1,z1.2.2.2.2))))) (bnd (Zc (x.1,((x.2.1.1,x.2.1.2),((x.2.2.1.1,x.2.2.1.2),(x.2.2.2.1,
 x.2.2.2.2))))) (fun z3=>(cnd z3 (some (z1.1,((z1.2.1.1,z1.2.1.2),((z1.2.2.1.1,z1.2.2.1.2),(z1.2.2.2.1,z1.2.2.2.2))))) (bnd (Zbq ((x.2.1.1,x.2.1.2),0))
 (fun z4=>(cnd (bNot z4.2) (some (z1.1,((z1.2.1.1,z1.2.1.2),((z1.2.2.1.1,z1.2.2.1.2),(z1.2.2.2.1,true))))) (some (z1.1,((z1.2.1.1,
 z1.2.1.2),((z4.1.1,z4.1.2),(3,z1.2.2.2.2))))))))))))))))
def Zbs (x:((List UInt8)×((Int×(List UInt8))×((Int×(List UInt8))×(Int×Bool))))):(Option ((List UInt8)×((Int×(List UInt8))×((Int×(List
 UInt8))×(Int×Bool))))):=(bnd (Zg (x.1,((x.2.1.1,x.2.1.2),((x.2.2.1.1,x.2.2.1.2),(x.2.2.2.1,x.2.2.2.2))))) (fun z1=>(bnd (Zm (x.1,((x.2.1.1,x.2.1.2),((x.2.2.1.1,x.2.2.1.2),(x.2.2.2.1,x.2.2.2.2))))) (fun z2=>(cnd (bNot z2)
 (some (z1.1,((z1.2.1.1,z1.2.1.2),((z1.2.2.1.1,z1.2.2.1.2),(z1.2.2.2.1,z1.2.2.2.2))))) (bnd (Zc (x.1,((x.2.1.1,x.2.1.2),((x.2.2.1.1,x.2.2.1.2),(x.2.2.2.1,
 x.2.2.2.2))))) (fun z3=>(cnd (bNot z3) (some (z1.1,((z1.2.1.1,z1.2.1.2),((z1.2.2.1.1,z1.2.2.1.2),(z1.2.2.2.1,z1.2.2.2.2))))) (bnd (Zd (x.1,((x.2.1.1,
 x.2.1.2),((x.2.2.1.1,x.2.2.1.2),(x.2.2.2.1,x.2.2.2.2))))) (fun z4=>(cnd z4 (some (x.1,((z1.2.1.1,z1.2.1.2),((0,[]),(1,false))))) (some (z1.1,((z1.2.1.1,
 z1.2.1.2),((z1.2.2.1.1,z1.2.2.1.2),(z1.2.2.2.1,true))))))))))))))))
def Zdg (x:((List UInt8)×(Int×Int))):(Option (((List UInt8)×((Int×(List UInt8))×((Int×(List UInt8))×(Int×Bool))))×(Int×Int))):=(bnd
 (Zct (x.1,(x.2.1,x.2.2))) (fun z1=>(bnd (Zbk (x.1,(z1.2.1,z1.2.2))) (fun z2=>(bnd (Ze ((x.1,
 (z2.2.1,z2.2.2)),6)) (fun z3=>(cnd (iEq z3.1 0) (some ((z2.1,((3,[(u8 128),(u8 65)]),((0,[]),(1,true)))),(z3.2.1,z3.2.2))) (cnd (iEq z3.1 1)
 (bnd (Zbl ((x.1,(z3.2.1,z3.2.2)),(z1.1,5))) (fun z4=>(bnd (Zbd (0,(z2.1,(z1.1,z4.1)))) (fun z5=>(some ((z5.1.1,((z5.1.2.1.1,z5.1.2.1.2),((z5.1.2.2.1.1,z5.1.2.2.1.2),(z5.1.2.2.2.1,z5.1.2.2.2.2)))),
 (z4.2.1,z4.2.2))))))) (bnd (Ze ((x.1,(z3.2.1,z3.2.2)),8)) (fun z4=>(bnd (Zj ((x.1,(z4.2.1,z4.2.2)),[z1.1,z1.1,z1.1,0])) (fun
 z5=>(bnd (Zbl ((x.1,(z5.2.1,z5.2.2)),(z5.1,5))) (fun z6=>(bnd (Zbd (z4.1,(z2.1,(z1.1,z6.1))))
 (fun z7=>(joinX (cnd (iNe z7.2 0) (bnd (Zbd (5,(z2.1,(z1.1,[120])))) (fun
 z8=>(some (.inl (z8.1.1,(z8.1.2.1.1,(z8.1.2.1.2,(z8.1.2.2.1.1,(z8.1.2.2.1.2,
 (z8.1.2.2.2.1,z8.1.2.2.2.2)))))))))) (some (.inl (z7.1.1,(z7.1.2.1.1,(z7.1.2.1.2,(z7.1.2.2.1.1,(z7.1.2.2.1.2,(z7.1.2.2.2.1,z7.1.2.2.2.2))))))))) (fun (z8:((List UInt8) ×
 (Int×((List UInt8)×(Int×((List UInt8)×(Int×Bool)))))))=>(bnd (Ze ((x.1,(z6.2.1,z6.2.2)),5)) (fun z9=>(cnd (iEq z9.1 0) (bnd
 (Zbr (z8.1,((z8.2.1,z8.2.2.1),((z8.2.2.2.1,z8.2.2.2.2.1),(z8.2.2.2.2.2.1,z8.2.2.2.2.2.2))))) (fun z10=>(some ((z10.1,((z10.2.1.1,z10.2.1.2),((z10.2.2.1.1,z10.2.2.1.2),(z10.2.2.2.1,z10.2.2.2.2)))),(z9.2.1,z9.2.2))))) (cnd (iEq z9.1 1) (bnd
 (Zbs (z8.1,((z8.2.1,z8.2.2.1),((z8.2.2.2.1,z8.2.2.2.2.1),(z8.2.2.2.2.2.1,z8.2.2.2.2.2.2))))) (fun z10=>(some ((z10.1,((z10.2.1.1,z10.2.1.2),((z10.2.2.1.1,z10.2.2.1.2),(z10.2.2.2.1,z10.2.2.2.2)))),(z9.2.1,z9.2.2))))) (some ((z8.1,((z8.2.1,
 z8.2.2.1),((z8.2.2.2.1,z8.2.2.2.2.1),(z8.2.2.2.2.2.1,z8.2.2.2.2.2.2)))),(z9.2.1,z9.2.2)))))))))))))))))))))))))
def Zbt (x:(((List UInt8)×(Int×Int))×Int)):(Option (Bool×(Int×Int))):=(bnd (Ze ((x.1.1,(x.1.2.1,x.1.2.2)),x.2)) (fun z1=>(some ((iEq z1.1 0),(z1.2.1,z1.2.2)))))
def Zbe (x:((List UInt8)×(Int×Int))):(Option ((Int×(((List UInt8)×((Int×(List UInt8))×((Int×(List UInt8))×(Int×Bool))))×((List UInt8)
 × (Int×(Int×(Int×Int))))))×(Int×Int))):=(bnd (Ze (x,4)) (fun z1=>(joinX (cnd (iEq (iAdd .i64 1 z1.1) 1) (bnd (Zdg (x.1,
 z1.2)) (fun z2=>(some (.inl (z2.2.1,(z2.2.2,(z2.1.1,(z2.1.2.1.1,
 (z2.1.2.1.2,(z2.1.2.2.1.1,(z2.1.2.2.1.2,(z2.1.2.2.2.1,(z2.1.2.2.2.2,([],0)))))))))))))) (cnd (iEq (iAdd .i64 1 z1.1) 2) (bnd (Zbk (x.1,z1.2)) (fun z2=>(some (.inl (z2.2.1,(z2.2.2,([],(0,([],(0,([],(0,(false,(z2.1,0)))))))))))))) (cnd (iEq (iAdd .i64 1 z1.1) 3) (bnd (Ze ((x.1,z1.2),
 8)) (fun z2=>(some (.inl (z2.2.1,(z2.2.2,([],(0,([],(0,([],(0,(false,([],z2.1)))))))))))))) (some (.inl (z1.2.1,(z1.2.2,([],(0,([],(0,
 ([],(0,(false,([],0))))))))))))))) (fun (z2:(Int×(Int×((List UInt8)×(Int×((List UInt8)×(Int×((List UInt8)×(Int×(Bool×((List UInt8)×Int))))))))))) =>
 (joinX (cnd (iEq (iAdd .i64 1 z1.1) 4) (bnd (Ze ((x.1,(z2.1,z2.2.1)),3)) (fun z3=>(bnd (Zj ((x.1,z3.2),[0,1,2,65535])) (fun z4=>(bnd (Ze ((x.1,z4.2),7)) (fun z5=>(some (.inl (z5.2.1,(z5.2.2,((iAdd .i64 1 z3.1),(z4.1,z5.1)))))))))))) (bnd
 (Zbt ((x.1,(z2.1,z2.2.1)),2)) (fun z3=>(cnd z3.1 (bnd (Ze ((x.1,z3.2),3)) (fun z4=>(bnd (Zj
 ((x.1,z4.2),[0,1,2,65535])) (fun z5=>(bnd (Ze ((x.1,z5.2),7)) (fun z6=>(some (.inl (z6.2.1,(z6.2.2,((iAdd
 .i64 1 z4.1),(z5.1,z6.1)))))))))))) (some (.inl (z3.2.1,(z3.2.2,(0,(0,0)))))))))) (fun (z3:(Int×(Int×(Int×(Int×Int)))))=>(some (((iAdd .i64 1 z1.1),((z2.2.2.1,
 ((z2.2.2.2.1,z2.2.2.2.2.1),((z2.2.2.2.2.2.1,z2.2.2.2.2.2.2.1),(z2.2.2.2.2.2.2.2.1,z2.2.2.2.2.2.2.2.2.1)))),(z2.2.2.2.2.2.2.2.2.2.1,(z2.2.2.2.2.2.2.2.2.2.2,z3.2.2)))),
 (z3.1,z3.2.1)))))))))
def Zfh (x:((List ((List UInt8)×((Int×(List UInt8))×((Int×(List UInt8))×(Int×Bool)))))×(Int×(List (Int×(Int×Int)))))):((List ((List
 UInt8)×((Int×(List UInt8))×((Int×(List UInt8))×(Int×Bool)))))×Int)->Option (((List ((List UInt8)×((Int×(List UInt8))×((Int×(List UInt8))×(Int×Bool)))))
 × Int) ⊕ ((List ((List UInt8)×((Int×(List UInt8))×((Int×(List UInt8))×(Int×Bool))))) ⊕ ((List ((List UInt8)×((Int×(List UInt8))×((Int×(List UInt8))×(Int ×
 Bool)))))×(Int×(List (Int×(Int×Int))))))):=fun (z1:((List ((List UInt8)×((Int×(List UInt8))×((Int×(List UInt8))×(Int×Bool)))))×Int))=>(cnd (iLt z1.2
 (lLen x.1)) (bnd (idx x.1 z1.2) (fun z2=>(bnd (Zg (z2.1,((z2.2.1.1,z2.2.1.2),
 ((z2.2.2.1.1,z2.2.2.1.2),(z2.2.2.2.1,z2.2.2.2.2))))) (fun z3=>(chk (room (z1.1.length +
 1) 96) (some (.inl ((lApp z1.1 [(z3.1,((z3.2.1.1,z3.2.1.2),((z3.2.2.1.1,z3.2.2.1.2),(z3.2.2.2.1,z3.2.2.2.2))))]),(iAdd .i64 z1.2 1))))))))) (some (.inr (.inl z1.1))))
def Zfi (x:((List ((List UInt8)×((Int×(List UInt8))×((Int×(List UInt8))×(Int×Bool)))))×(Int×(List (Int×(Int×Int)))))):((List ((List
 UInt8)×((Int×(List UInt8))×((Int×(List UInt8))×(Int×Bool)))))×Int)->Option (((List ((List UInt8)×((Int×(List UInt8))×((Int×(List UInt8))×(Int×Bool)))))
 × Int) ⊕ ((List ((List UInt8)×((Int×(List UInt8))×((Int×(List UInt8))×(Int×Bool))))) ⊕ ((List ((List UInt8)×((Int×(List UInt8))×((Int×(List UInt8))×(Int ×
 Bool)))))×(Int×(List (Int×(Int×Int))))))):=fun (z1:((List ((List UInt8)×((Int×(List UInt8))×((Int×(List UInt8))×(Int×Bool)))))×Int))=>(cnd (iLt z1.2
 (lLen x.1)) (bnd (idx x.1 z1.2) (fun z2=>(bnd (Zg (z2.1,((z2.2.1.1,z2.2.1.2),
 ((z2.2.2.1.1,z2.2.2.1.2),(z2.2.2.2.1,z2.2.2.2.2))))) (fun z3=>(chk (room (z1.1.length +
 1) 96) (some (.inl ((lApp z1.1 [(z3.1,((z3.2.1.1,z3.2.1.2),((z3.2.2.1.1,z3.2.2.1.2),(z3.2.2.2.1,z3.2.2.2.2))))]),(iAdd .i64 z1.2 1))))))))) (some (.inr (.inl z1.1))))
def Zfj (x:((List ((List UInt8)×((Int×(List UInt8))×((Int×(List UInt8))×(Int×Bool)))))×(Int×(List (Int×(Int×Int)))))):((List ((List
 UInt8)×((Int×(List UInt8))×((Int×(List UInt8))×(Int×Bool)))))×Int)->Option (((List ((List UInt8)×((Int×(List UInt8))×((Int×(List UInt8))×(Int×Bool)))))
 × Int) ⊕ ((List ((List UInt8)×((Int×(List UInt8))×((Int×(List UInt8))×(Int×Bool))))) ⊕ ((List ((List UInt8)×((Int×(List UInt8))×((Int×(List UInt8))×(Int ×
 Bool)))))×(Int×(List (Int×(Int×Int))))))):=fun (z1:((List ((List UInt8)×((Int×(List UInt8))×((Int×(List UInt8))×(Int×Bool)))))×Int))=>(cnd (iLt z1.2
 (lLen x.1)) (bnd (idx x.1 z1.2) (fun z2=>(bnd (Zg (z2.1,((z2.2.1.1,z2.2.1.2),
 ((z2.2.2.1.1,z2.2.2.1.2),(z2.2.2.2.1,z2.2.2.2.2))))) (fun z3=>(chk (room (z1.1.length +
 1) 96) (some (.inl ((lApp z1.1 [(z3.1,((z3.2.1.1,z3.2.1.2),((z3.2.2.1.1,z3.2.2.1.2),(z3.2.2.2.1,z3.2.2.2.2))))]),(iAdd .i64 z1.2 1))))))))) (some (.inr (.inl z1.1))))
def Zbu (x:((List ((List UInt8)×((Int×(List UInt8))×((Int×(List UInt8))×(Int×Bool)))))×(Int×(List (Int×(Int×Int)))))):(Option ((List
 ((List UInt8)×((Int×(List UInt8))×((Int×(List UInt8))×(Int×Bool)))))×(Int×(List (Int×(Int×Int)))))):=(alt2 (chk (room (0+x.2.2.length) 24) (joinX (loopX
 (Zfh x) ([],0)) (fun (z1:(List ((List UInt8)×((Int×(List UInt8))×((Int×(List UInt8))×(Int×Bool))))))=>(some (z1,(x.2.1,(lApp [] x.2.2))))))) (alt2
 (chk (room (0+x.2.2.length) 24) (joinX (loopX (Zfi x) ([],0)) (fun (z1:(List ((List UInt8)×((Int×(List UInt8))×((Int×(List UInt8))×(Int×Bool)))))) =>
 (some (z1,(x.2.1,(lApp [] x.2.2))))))) (chk (room (0+x.2.2.length) 24) (joinX (loopX (Zfj x) ([],0)) (fun (z1:(List ((List UInt8)×((Int×(List UInt8))×((Int
 × (List UInt8))×(Int×Bool))))))=>(some (z1,(x.2.1,(lApp [] x.2.2)))))))))
def Zbv (x:Int):(Option Bool):=(bnd (Zb (x,(0,65535))) (fun z1=>(some z1)))
def Zbw (x:(Int×(Int×Int))):(Option Bool):=(bnd (Zb (x.1,(1,9))) (fun z1=>(cnd z1 (bnd (Zbv x.2.1) (fun z2 =>
 (cnd z2 (bnd (Zb (x.2.2,(0,6))) (fun z3=>(some z3))) (some false)))) (some false))))
def Zdh (x:((List ((List UInt8)×((Int×(List UInt8))×((Int×(List UInt8))×(Int×Bool)))))×(Int×(List (Int×(Int×Int)))))):(Int)->Option
 ((Int) ⊕ (Unit ⊕ Bool)):=fun (z1:Int)=>(cnd (iLt z1 (lLen x.1)) (bnd (idx x.1 z1) (fun z2=>(bnd (Zm (z2.1,((z2.2.1.1,z2.2.1.2),((z2.2.2.1.1,z2.2.2.1.2),(z2.2.2.2.1,z2.2.2.2.2))))) (fun z3=>(cnd (bNot z3) (some (.inr (.inr false)))
 (cnd (iGt z1 0) (bnd (idx x.1 (iSub .i64 z1 1)) (fun z4=>(bnd (idx x.1 z1) (fun z5=>(cnd (bNot (sLt z4.1 z5.1)) (some (.inr (.inr false))) (some (.inl (iAdd .i64 z1 1)))))))) (some
 (.inl (iAdd .i64 z1 1))))))))) (some (.inr (.inl ()))))
def Zdi (x:((List ((List UInt8)×((Int×(List UInt8))×((Int×(List UInt8))×(Int×Bool)))))×(Int×(List (Int×(Int×Int)))))):(Int)->Option
 ((Int) ⊕ (Unit ⊕ Bool)):=fun (z2:Int)=>(cnd (iLt z2 (lLen x.2.2)) (bnd (idx x.2.2 z2) (fun z3=>(bnd (Zbw (z3.1,(z3.2.1,z3.2.2))) (fun
 z4=>(cnd (bNot z4) (some (.inr (.inr false))) (cnd (iGt z2 0) (bnd (idx x.2.2 (iSub .i64 z2 1)) (fun z5=>(bnd (idx x.2.2 z2) (fun z6=>(cnd (iGe z5.1 z6.1) (some (.inr (.inr false))) (some (.inl (iAdd .i64 z2 1)))))))) (some (.inl (iAdd .i64 z2 1))))))))) (some (.inr (.inl ()))))
def Zbf (x:((List ((List UInt8)×((Int×(List UInt8))×((Int×(List UInt8))×(Int×Bool)))))×(Int×(List (Int×(Int×Int)))))):(Option Bool) :=
 (joinX (loopX (Zdh x) 0) (fun (z1:Unit)=>(joinX (loopX (Zdi x) 0) (fun (z2:Unit)=>(cnd (iLe (lLen x.1) 8) (bnd (Zb (x.2.1,(0,7))) (fun z3
 => (some z3))) (some false))))))
def Zdj (x:((List UInt8)×((Int×(List UInt8))×((Int×(List UInt8))×(Int×Bool))))):(Option Bool):=(cnd (sEq x.1 []) (bnd (Zs (x.2.1.1,
 x.2.1.2)) (fun z1=>(cnd z1 (bnd (Zs (x.2.2.1.1,x.2.2.1.2)) (fun z2=>(cnd z2 (cnd (iEq x.2.2.2.1 0) (some (bNot x.2.2.2.2)) (some false)) (some
 false)))) (some false)))) (some false))
def Zem (x:(Int×(((List UInt8)×((Int×(List UInt8))×((Int×(List UInt8))×(Int×Bool))))×((List UInt8)×(Int×(Int×(Int×Int))))))) :
 (Option Bool):=(cnd (iEq x.2.2.2.2.1 0) (cnd (iEq x.2.2.2.2.2.1 0) (cnd (iEq x.2.2.2.2.2.2 0) (some (iNe x.1 4)) (some false)) (some false)) (bnd (Zb (x.2.2.2.2.1,(1,
 9))) (fun z1=>(cnd z1 (bnd (Zbv x.2.2.2.2.2.1) (fun z2=>(cnd z2 (bnd (Zb (x.2.2.2.2.2.2,(0,6))) (fun z3=>(some z3))) (some
 false)))) (some false)))))
def Zdk (x:(Int×(((List UInt8)×((Int×(List UInt8))×((Int×(List UInt8))×(Int×Bool))))×((List UInt8)×(Int×(Int×(Int×Int))))))):(Option
 Bool):=(bnd (Zdj (x.2.1.1,((x.2.1.2.1.1,x.2.1.2.1.2),((x.2.1.2.2.1.1,x.2.1.2.2.1.2),(x.2.1.2.2.2.1,x.2.1.2.2.2.2))))) (fun z1=>(joinX (cnd (iEq x.1 1)
 (bnd (Zm (x.2.1.1,((x.2.1.2.1.1,x.2.1.2.1.2),((x.2.1.2.2.1.1,x.2.1.2.2.1.2),(x.2.1.2.2.2.1,x.2.1.2.2.2.2))))) (fun z2=>(some (.inl (z2,((sEq x.2.2.1 []),
 (iEq x.2.2.2.1 0))))))) (cnd (iEq x.1 2) (bnd (Zx x.2.2.1) (fun z2=>(some (.inl (z1,(z2,(iEq x.2.2.2.1 0))))))) (cnd (iEq x.1 3) (bnd (Zb (x.2.2.2.1,
 (0,7))) (fun z2=>(some (.inl (z1,((sEq x.2.2.1 []),z2)))))) (some (.inl (z1,((sEq x.2.2.1 []),(iEq x.2.2.2.1 0)))))))) (fun (z2:(Bool×(Bool×Bool)))=>(bnd
 (Zb (x.1,(1,4))) (fun z3=>(cnd z3 (cnd z2.1 (cnd z2.2.1 (cnd z2.2.2 (bnd (Zem (x.1,((x.2.1.1,((x.2.1.2.1.1,x.2.1.2.1.2),((x.2.1.2.2.1.1,
 x.2.1.2.2.1.2),(x.2.1.2.2.2.1,x.2.1.2.2.2.2)))),(x.2.2.1,(x.2.2.2.1,(x.2.2.2.2.1,(x.2.2.2.2.2.1,x.2.2.2.2.2.2))))))) (fun z4=>(some z4))) (some false)) (some
 false)) (some false)) (some false))))))))
def Zdl (x:((List ((List UInt8)×((Int×(Option (List UInt8)))×((Int×(Option (List UInt8)))×(Int×Bool)))))×((List UInt8)×((Int×(List
 UInt8))×((Int×(List UInt8))×(Int×Bool)))))):((List ((List UInt8)×((Int×(Option (List UInt8)))×((Int×(Option (List UInt8)))×(Int×Bool)))))×((List ((List
 UInt8)×((Int×(List UInt8))×((Int×(List UInt8))×(Int×Bool)))))×(Bool×Int)))->Option (((List ((List UInt8)×((Int×(Option (List UInt8)))×((Int×(Option (List
 UInt8)))×(Int×Bool)))))×((List ((List UInt8)×((Int×(List UInt8))×((Int×(List UInt8))×(Int×Bool)))))×(Bool×Int))) ⊕ (((List ((List UInt8)×((Int×(List
 UInt8))×((Int×(List UInt8))×(Int×Bool)))))×Bool) ⊕ (List ((List UInt8)×((Int×(List UInt8))×((Int×(List UInt8))×(Int×Bool))))))):=fun (z1:((List ((List
 UInt8)×((Int×(Option (List UInt8)))×((Int×(Option (List UInt8)))×(Int×Bool)))))×((List ((List UInt8)×((Int×(List UInt8))×((Int×(List UInt8))×(Int ×
 Bool)))))×(Bool×Int))))=>(cnd (iLt z1.2.2.2 (lLen z1.1)) (joinX (joinX (cnd (bNot z1.2.2.1) (bnd (idx z1.1 z1.2.2.2) (fun z2=>(cnd (bNot (sLt z2.1 x.2.1)) (bnd (Zg x.2) (fun z3=>(chk (room (z1.2.1.length+1) 96) (some (.inl ((lApp z1.2.1 [z3]),true)))))) (some (.inl (z1.2.1,z1.2.2.1)))))) (some (.inl (z1.2.1,
 z1.2.2.1)))) (fun (z2:((List ((List UInt8)×((Int×(List UInt8))×((Int×(List UInt8))×(Int×Bool)))))×Bool))=>(bnd (idx z1.1 z1.2.2.2) (fun z3=>(cnd (bNot (sEq z3.1 x.2.1)) (bnd (idx z1.1 z1.2.2.2) (fun z4=>(chk (hSome z4.2.1.2) (chk (hSome z4.2.2.1.2) (bnd (idx z1.1 (Int.ofNat (nOf z1.2.2.2))) (fun z5=>(bnd (idx (lSet z1.1 (nOf z1.2.2.2) (z5.1,((z5.2.1.1,none),z5.2.2)))
 (Int.ofNat (nOf z1.2.2.2))) (fun z6=>(chk (room (z2.1.length+1) 96)
 (some (.inl ((lSet (lSet z1.1 (nOf z1.2.2.2) (z5.1,((z5.2.1.1,none),z5.2.2))) (nOf z1.2.2.2) (z6.1,(z6.2.1,((z6.2.2.1.1,none),z6.2.2.2)))),((lApp z2.1 [(z4.1,((z4.2.1.1,
 (hGet z4.2.1.2)),((z4.2.2.1.1,(hGet z4.2.2.1.2)),z4.2.2.2)))]),z2.2))))))))))))) (some (.inl (z1.1,z2)))))))) (fun (z2:((List ((List UInt8)×((Int×(Option (List
 UInt8)))×((Int×(Option (List UInt8)))×(Int×Bool)))))×((List ((List UInt8)×((Int×(List UInt8))×((Int×(List UInt8))×(Int×Bool)))))×Bool)))=>(some (.inl
 (z2.1,(z2.2.1,(z2.2.2,(iAdd .i64 z1.2.2.2 1)))))))) (some (.inr (.inl (z1.2.1,z1.2.2.1)))))
def Zbx (x:((List ((List UInt8)×((Int×(Option (List UInt8)))×((Int×(Option (List UInt8)))×(Int×Bool)))))×((List UInt8)×((Int×(List UInt8))
 × ((Int×(List UInt8))×(Int×Bool)))))):(Option (List ((List UInt8)×((Int×(List UInt8))×((Int×(List UInt8))×(Int×Bool)))))):=(joinX (loopX (Zdl x)
 (x.1,([],(false,0)))) (fun (z1:((List ((List UInt8)×((Int×(List UInt8))×((Int×(List UInt8))×(Int×Bool)))))×Bool))=>(joinX (cnd (bNot z1.2) (bnd (Zg
 x.2) (fun z2=>(chk (room (z1.1.length+1) 96) (some (.inl (lApp z1.1 [z2])))))) (some (.inl
 z1.1))) (fun (z2:(List ((List UInt8)×((Int×(List UInt8))×((Int×(List UInt8))×(Int×Bool))))))=>(some z2)))))
def Zen (x:(((List ((List UInt8)×((Int×(List UInt8))×((Int×(List UInt8))×(Int×Bool)))))×(Int×(List (Int×(Int×Int)))))×(List UInt8))) :
 (Int)->Option ((Int) ⊕ Int):=fun (z1:Int)=>(cnd (iLt z1 (lLen x.1.1)) (bnd (idx x.1.1 z1) (fun z2=>(cnd (sEq z2.1 x.2) (some (.inr z1)) (some (.inl (iAdd .i64 z1 1)))))) (some (.inr (-1))))
def Zby (x:(((List ((List UInt8)×((Int×(List UInt8))×((Int×(List UInt8))×(Int×Bool)))))×(Int×(List (Int×(Int×Int)))))×(List UInt8))) :
 (Option Int):=(loopX (Zen x) 0)
def Zeo (x:((List (Int×(Int×Int)))×(Int×(Int×Int)))):((List (Int×(Int×Int)))×(Bool×Int))->Option (((List (Int×(Int×Int)))×(Bool
 × Int)) ⊕ (((List (Int×(Int×Int)))×Bool) ⊕ (List (Int×(Int×Int))))):=fun (z1:((List (Int×(Int×Int)))×(Bool×Int)))=>(cnd (iLt z1.2.2 (lLen x.1)) (joinX
 (joinX (cnd (bNot z1.2.1) (bnd (idx x.1 z1.2.2) (fun z2=>(cnd (iGe z2.1 x.2.1) (chk (room (z1.1.length+1) 24) (some (.inl ((lApp z1.1 [x.2]),true))))
 (some (.inl (z1.1,z1.2.1)))))) (some (.inl (z1.1,z1.2.1)))) (fun (z2:((List (Int×(Int×Int)))×Bool))=>(bnd (idx x.1 z1.2.2) (fun z3=>(cnd
 (iNe z3.1 x.2.1) (bnd (idx x.1 z1.2.2) (fun z4=>(chk (room (z2.1.length+1) 24) (some (.inl ((lApp z2.1 [z4]),z2.2)))))) (some (.inl z2))))))) (fun
 (z2:((List (Int×(Int×Int)))×Bool))=>(some (.inl (z2.1,(z2.2,(iAdd .i64 z1.2.2 1))))))) (some (.inr (.inl (z1.1,z1.2.1)))))
def Zbz (x:((List (Int×(Int×Int)))×(Int×(Int×Int)))):(Option (List (Int×(Int×Int)))):=(joinX (loopX (Zeo x) ([],(false,0))) (fun
 (z1:((List (Int×(Int×Int)))×Bool))=>(joinX (cnd (bNot z1.2) (chk (room (z1.1.length+1) 24) (some (.inl (lApp z1.1 [x.2])))) (some (.inl z1.1))) (fun (z2:(List (Int
 × (Int×Int))))=>(some z2)))))
def Zca (x:(((List ((List UInt8)×((Int×(List UInt8))×((Int×(List UInt8))×(Int×Bool)))))×(Int×(List (Int×(Int×Int)))))×(Int×(((List
 UInt8)×((Int×(List UInt8))×((Int×(List UInt8))×(Int×Bool))))×((List UInt8)×(Int×(Int×(Int×Int)))))))):(Option (((List ((List UInt8)×((Int×(List
 UInt8))×((Int×(List UInt8))×(Int×Bool)))))×(Int×(List (Int×(Int×Int)))))×Bool)):=(bnd (Zbu x.1) (fun z1=>(bnd (Zbf x.1) (fun z2=>(cnd (bNot z2) (some (z1,false)) (bnd
 (Zdk x.2) (fun z3=>(cnd (bNot z3) (some (z1,false)) (joinX (cnd (iEq x.2.1 1) (bnd (cvL (.P .S (.P (.P (.I .i64) (.L .Y)) (.P (.P (.I .i64) (.L .Y)) (.P (.I
 .i64) .B)))) (.P .S (.P (.P (.I .i64) (.H .Y)) (.P (.P (.I .i64) (.H .Y)) (.P (.I .i64) .B)))) z1.1) (fun z4=>(bnd (Zbx (z4,x.2.2.1)) (fun z5
 => (some (.inl (z5,z1.2.1))))))) (cnd (iEq x.2.1 2) (bnd (Zby (z1,x.2.2.2.1)) (fun z4=>(cnd (iGe z4 0) (chk (within 0 z4 (lLen z1.1)) (chk (fits 0 ((nOf z4) -
 0) z1.1.length) (chk (room (0+(lTake ((nOf z4)-0) z1.1).length) 96) (chk (within (iAdd .i64 z4 1) (lLen (mvW (.P .S (.P (.P (.I .i64) (.L .Y)) (.P (.P (.I .i64) (.L .Y)) (.P
 (.I .i64) .B)))) 0 ((nOf z4)-0) z1.1)) (lLen (mvW (.P .S (.P (.P (.I .i64) (.L .Y)) (.P (.P (.I .i64) (.L .Y)) (.P (.I .i64) .B)))) 0 ((nOf z4)-0) z1.1))) (chk (fits (nOf
 (iAdd .i64 z4 1)) ((nOf (lLen (mvW (.P .S (.P (.P (.I .i64) (.L .Y)) (.P (.P (.I .i64) (.L .Y)) (.P (.I .i64) .B)))) 0 ((nOf z4)-0) z1.1)))-(nOf (iAdd .i64 z4 1))) (mvW (.P
 .S (.P (.P (.I .i64) (.L .Y)) (.P (.P (.I .i64) (.L .Y)) (.P (.I .i64) .B)))) 0 ((nOf z4)-0) z1.1).length) (bnd (cvL (.P .S (.P (.P (.I .i64) (.H .Y)) (.P (.P (.I .i64) (.H
 .Y)) (.P (.I .i64) .B)))) (.P .S (.P (.P (.I .i64) (.L .Y)) (.P (.P (.I .i64) (.L .Y)) (.P (.I .i64) .B)))) (lTake ((nOf (lLen (mvW (.P .S (.P (.P (.I .i64) (.L .Y)) (.P (.P (.I
 .i64) (.L .Y)) (.P (.I .i64) .B)))) 0 ((nOf z4)-0) z1.1)))-(nOf (iAdd .i64 z4 1))) (lDrop (nOf (iAdd .i64 z4 1)) (mvW (.P .S (.P (.P (.I .i64) (.L .Y)) (.P (.P (.I .i64) (.L
 .Y)) (.P (.I .i64) .B)))) 0 ((nOf z4)-0) z1.1)))) (fun z5=>(chk (room ((lApp []
 (lTake ((nOf z4)-0) z1.1)).length+z5.length) 96) (some (.inl ((lApp (lApp [] (lTake ((nOf z4)-0) z1.1)) z5),z1.2.1))))))))))) (some (.inl (z1.1,z1.2.1)))))) (cnd (iEq
 x.2.1 3) (some (.inl (z1.1,x.2.2.2.2.1))) (some (.inl (z1.1,z1.2.1)))))) (fun (z4:((List ((List UInt8)×((Int×(List UInt8))×((Int×(List UInt8))×(Int×Bool))))) ×
 Int))=>(joinX (cnd (iNe x.2.2.2.2.2.1 0) (bnd (Zbz (z1.2.2,x.2.2.2.2.2)) (fun z5=>(some (.inl z5)))) (some (.inl z1.2.2))) (fun (z5 :
 (List (Int×(Int×Int))))=>(bnd (Zbf (z4.1,(z4.2,z5))) (fun z6=>(cnd (bNot z6) (bnd (Zbu x.1) (fun z7=>(some (z7,false)))) (some ((z4.1,(z4.2,z5)),true)))))))))))))))))
def Zdm (x:(((List UInt8)×(Int×Int))×Int)):(Int×(Int×((List ((List UInt8)×((Int×(List UInt8))×((Int×(List UInt8))×(Int×Bool))))) ×
 (Int×((List (Int×(Int×Int)))×Int)))))->Option ((Int×(Int×((List ((List UInt8)×((Int×(List UInt8))×((Int×(List UInt8))×(Int×Bool)))))×(Int×((List (Int
 × (Int×Int)))×Int))))) ⊕ ((Int×(Int×((List ((List UInt8)×((Int×(List UInt8))×((Int×(List UInt8))×(Int×Bool)))))×(Int×(List (Int×(Int×Int))))))) ⊕
 (((List ((List UInt8)×((Int×(List UInt8))×((Int×(List UInt8))×(Int×Bool)))))×(Int×(List (Int×(Int×Int)))))×(Int×Int)))):=fun (z2:(Int×(Int×((List
 ((List UInt8)×((Int×(List UInt8))×((Int×(List UInt8))×(Int×Bool)))))×(Int×((List (Int×(Int×Int)))×Int))))))=>(cnd (iGt z2.2.2.2.2.2 0) (bnd (Zbe
 (x.1.1,(z2.1,z2.2.1))) (fun z3=>(bnd (Zca ((z2.2.2.1,(z2.2.2.2.1,z2.2.2.2.2.1)),z3.1)) (fun z4=>(some (.inl (z3.2.1,(z3.2.2,(z4.1.1,(z4.1.2.1,(z4.1.2.2,(iSub .i64 z2.2.2.2.2.2 1)))))))))))) (some (.inr (.inl
 (z2.1,(z2.2.1,(z2.2.2.1,(z2.2.2.2.1,z2.2.2.2.2.1))))))))
def Zdn (x:(((List UInt8)×(Int×Int))×Int)):(Option (((List ((List UInt8)×((Int×(List UInt8))×((Int×(List UInt8))×(Int×Bool)))))×(Int ×
 (List (Int×(Int×Int)))))×(Int×Int))):=(joinX (bnd (Ze (x.1,(iAdd .i64 x.2 1))) (fun z1=>(loopX (Zdm x) (z1.2.1,(z1.2.2,
 ([],(0,([],z1.1)))))))) (fun (z1:(Int×(Int×((List ((List UInt8)×((Int×(List UInt8))×((Int×(List UInt8))×(Int×Bool)))))×(Int×(List (Int×(Int ×
 Int))))))))=>(some (z1.2.2,(z1.1,z1.2.1)))))
def Zdo (x:(List UInt8)):(Option (((List ((List UInt8)×((Int×(List UInt8))×((Int×(List UInt8))×(Int×Bool)))))×(Int×(List (Int×(Int ×
 Int)))))×(Int×(((List UInt8)×((Int×(List UInt8))×((Int×(List UInt8))×(Int×Bool))))×((List UInt8)×(Int×(Int×(Int×Int)))))))):=(bnd (Zcs x) (fun
 z1=>(bnd (Zdn ((x,(0,z1)),12)) (fun z2=>(bnd (Zbe (x,z2.2)) (fun z3=>(some (z2.1,z3.1))))))))
def Zcb (x:(List (List UInt8))):((List UInt8)×Int)->Option (((List UInt8)×Int) ⊕ ((List UInt8) ⊕ (List UInt8))):=fun (z1:((List UInt8)×Int))
 => (cnd (iLt z1.2 (lLen x)) (bnd (idx x z1.2) (fun z2=>(chk (room (z1.1.length+z2.length) 1) (some (.inl ((lApp z1.1 z2),(iAdd .i64 z1.2 1))))))) (some
 (.inr (.inl z1.1))))
def Zcc (x:(List (List UInt8))):(Option (List UInt8)):=(joinX (loopX (Zcb x) ([],0)) (fun (z1:(List UInt8))=>(some z1)))
def Zcd (x:(Int×(List UInt8))):(Option (Int×(List UInt8))):=(bnd (Zcc [x.2]) (fun z1=>(some (x.1,z1))))
def Zk (x:((List UInt8)×((Int×(List UInt8))×((Int×(List UInt8))×(Int×Bool))))):(Option ((List UInt8)×((Int×(List UInt8))×((Int×(List
 UInt8))×(Int×Bool))))):=(bnd (Zcd x.2.1) (fun z1=>(bnd (Zcd x.2.2.1) (fun z2=>(some (x.1,(z1,(z2,
 x.2.2.2))))))))
def Zfk (x:((List ((List UInt8)×((Int×(List UInt8))×((Int×(List UInt8))×(Int×Bool)))))×(Int×(List (Int×(Int×Int)))))):((List ((List
 UInt8)×((Int×(List UInt8))×((Int×(List UInt8))×(Int×Bool)))))×Int)->Option (((List ((List UInt8)×((Int×(List UInt8))×((Int×(List UInt8))×(Int×Bool)))))
 × Int) ⊕ ((List ((List UInt8)×((Int×(List UInt8))×((Int×(List UInt8))×(Int×Bool))))) ⊕ ((List ((List UInt8)×((Int×(List UInt8))×((Int×(List UInt8))×(Int ×
 Bool)))))×(Int×(List (Int×(Int×Int))))))):=fun (z1:((List ((List UInt8)×((Int×(List UInt8))×((Int×(List UInt8))×(Int×Bool)))))×Int))=>(cnd (iLt z1.2
 (lLen x.1)) (bnd (idx x.1 z1.2) (fun z2=>(bnd (Zk (z2.1,((z2.2.1.1,z2.2.1.2),
 ((z2.2.2.1.1,z2.2.2.1.2),(z2.2.2.2.1,z2.2.2.2.2))))) (fun z3=>(chk (room (z1.1.length +
 1) 96) (some (.inl ((lApp z1.1 [(z3.1,((z3.2.1.1,z3.2.1.2),((z3.2.2.1.1,z3.2.2.1.2),(z3.2.2.2.1,z3.2.2.2.2))))]),(iAdd .i64 z1.2 1))))))))) (some (.inr (.inl z1.1))))
def Zfl (x:((List ((List UInt8)×((Int×(List UInt8))×((Int×(List UInt8))×(Int×Bool)))))×(Int×(List (Int×(Int×Int)))))):((List ((List
 UInt8)×((Int×(List UInt8))×((Int×(List UInt8))×(Int×Bool)))))×Int)->Option (((List ((List UInt8)×((Int×(List UInt8))×((Int×(List UInt8))×(Int×Bool)))))
 × Int) ⊕ ((List ((List UInt8)×((Int×(List UInt8))×((Int×(List UInt8))×(Int×Bool))))) ⊕ ((List ((List UInt8)×((Int×(List UInt8))×((Int×(List UInt8))×(Int ×
 Bool)))))×(Int×(List (Int×(Int×Int))))))):=fun (z1:((List ((List UInt8)×((Int×(List UInt8))×((Int×(List UInt8))×(Int×Bool)))))×Int))=>(cnd (iLt z1.2
 (lLen x.1)) (bnd (idx x.1 z1.2) (fun z2=>(bnd (Zk (z2.1,((z2.2.1.1,z2.2.1.2),
 ((z2.2.2.1.1,z2.2.2.1.2),(z2.2.2.2.1,z2.2.2.2.2))))) (fun z3=>(chk (room (z1.1.length +
 1) 96) (some (.inl ((lApp z1.1 [(z3.1,((z3.2.1.1,z3.2.1.2),((z3.2.2.1.1,z3.2.2.1.2),(z3.2.2.2.1,z3.2.2.2.2))))]),(iAdd .i64 z1.2 1))))))))) (some (.inr (.inl z1.1))))
def Zfm (x:((List ((List UInt8)×((Int×(List UInt8))×((Int×(List UInt8))×(Int×Bool)))))×(Int×(List (Int×(Int×Int)))))):((List ((List
 UInt8)×((Int×(List UInt8))×((Int×(List UInt8))×(Int×Bool)))))×Int)->Option (((List ((List UInt8)×((Int×(List UInt8))×((Int×(List UInt8))×(Int×Bool)))))
 × Int) ⊕ ((List ((List UInt8)×((Int×(List UInt8))×((Int×(List UInt8))×(Int×Bool))))) ⊕ ((List ((List UInt8)×((Int×(List UInt8))×((Int×(List UInt8))×(Int ×
 Bool)))))×(Int×(List (Int×(Int×Int))))))):=fun (z1:((List ((List UInt8)×((Int×(List UInt8))×((Int×(List UInt8))×(Int×Bool)))))×Int))=>(cnd (iLt z1.2
 (lLen x.1)) (bnd (idx x.1 z1.2) (fun z2=>(bnd (Zk (z2.1,((z2.2.1.1,z2.2.1.2),
 ((z2.2.2.1.1,z2.2.2.1.2),(z2.2.2.2.1,z2.2.2.2.2))))) (fun z3=>(chk (room (z1.1.length +
 1) 96) (some (.inl ((lApp z1.1 [(z3.1,((z3.2.1.1,z3.2.1.2),((z3.2.2.1.1,z3.2.2.1.2),(z3.2.2.2.1,z3.2.2.2.2))))]),(iAdd .i64 z1.2 1))))))))) (some (.inr (.inl z1.1))))
def Zce (x:((List ((List UInt8)×((Int×(List UInt8))×((Int×(List UInt8))×(Int×Bool)))))×(Int×(List (Int×(Int×Int)))))):(Option ((List
 ((List UInt8)×((Int×(List UInt8))×((Int×(List UInt8))×(Int×Bool)))))×(Int×(List (Int×(Int×Int)))))):=(alt2 (chk (room (0+x.2.2.length) 24) (joinX (loopX
 (Zfk x) ([],0)) (fun (z1:(List ((List UInt8)×((Int×(List UInt8))×((Int×(List UInt8))×(Int×Bool))))))=>(some (z1,(x.2.1,(lApp [] x.2.2))))))) (alt2
 (chk (room (0+x.2.2.length) 24) (joinX (loopX (Zfl x) ([],0)) (fun (z1:(List ((List UInt8)×((Int×(List UInt8))×((Int×(List UInt8))×(Int×Bool)))))) =>
 (some (z1,(x.2.1,(lApp [] x.2.2))))))) (chk (room (0+x.2.2.length) 24) (joinX (loopX (Zfm x) ([],0)) (fun (z1:(List ((List UInt8)×((Int×(List UInt8))×((Int
 × (List UInt8))×(Int×Bool))))))=>(some (z1,(x.2.1,(lApp [] x.2.2)))))))))
def Zi (x:((Int×(List UInt8))×(Int×(List UInt8)))):(Option Bool):=(cnd (iEq x.1.1 x.2.1) (some (sEq x.1.2 x.2.2)) (some false))
def Zt (x:(((List UInt8)×((Int×(List UInt8))×((Int×(List UInt8))×(Int×Bool))))×((List UInt8)×((Int×(List UInt8))×((Int×(List UInt8))
 × (Int×Bool)))))):(Option Bool):=(cnd (sEq x.1.1 x.2.1) (bnd (Zi ((x.1.2.1.1,x.1.2.1.2),(x.2.2.1.1,x.2.2.1.2))) (fun z1=>(cnd z1 (bnd (Zi
 ((x.1.2.2.1.1,x.1.2.2.1.2),(x.2.2.2.1.1,x.2.2.2.1.2))) (fun z2=>(cnd z2 (cnd (iEq x.1.2.2.2.1 x.2.2.2.2.1) (some (bEq x.1.2.2.2.2 x.2.2.2.2.2)) (some false)) (some
 false)))) (some false)))) (some false))
def Zf (x:(Int×(Int×Int))):(Option Bool):=(cnd (iGe x.1 x.2.1) (some (iLe x.1 x.2.2)) (some false))
def Zfn (x:(List UInt8)):(Int)->Option ((Int) ⊕ (Unit ⊕ Bool)):=fun (z1:Int)=>(cnd (iLt z1 (lLen x)) (bnd (idx x z1) (fun z2=>(bnd
 (Zf ((iConv .i64 (y2i z2)),(97,122))) (fun z3=>(cnd (bNot z3) (bnd (idx x z1) (fun z4=>(bnd (Zf ((iConv .i64 (y2i z4)),(48,57))) (fun
 z5=>(cnd (bNot z5) (some (.inr (.inr false))) (some (.inl (iAdd .i64 z1 1)))))))) (some (.inl (iAdd .i64 z1 1)))))))) (some (.inr (.inl ()))))
def Zcf (x:(List UInt8)):(Option Bool):=(joinX (loopX (Zfn x) 0) (fun (z1:Unit)=>(bnd (Zf ((lLen x),(1,6))) (fun z2 =>
 (some z2)))))
def Zdp (x:Int):(Option Bool):=(bnd (Zf (x,(0,5))) (fun z1=>(some z1)))
def Zcg (x:(Int×(List UInt8))):(Option Bool):=(bnd (Zdp x.1) (fun z1=>(cnd z1 (some (iLe (lLen x.2) 20)) (some false))))
def Zr (x:(List UInt8)):(Option (Int×Int)):=(cnd (iLt (lLen x) 1) (some (65533,0)) (bnd (idx x 0) (fun z1=>(chk (iLe 0 (y2i
 z1)) (chk (iLt (y2i z1) 256) (bnd (idx gFirst (Int.ofNat (0+((nOf (y2i z1))*1)))) (fun z2=>(cnd (iGe (y2i z2) (y2i (u8 240))) (bnd (idx x 0) (fun z3 =>
 (some ((iOr .i32 (iAndNot .i32 (iConv .i32 (y2i z3)) (iShr .i32 (iShl .i32 (iConv .i32 (y2i z2)) 31) 31)) (iAnd .i32 65533 (iShr .i32 (iShl .i32 (iConv .i32 (y2i z2)) 31) 31))),
 1)))) (chk (iLe 0 (y2i (u8 (iShr .u8 (y2i z2) 4)))) (chk (iLt (y2i (u8 (iShr .u8 (y2i z2) 4))) 16) (bnd (idx gAcc (Int.ofNat (0+((nOf (y2i (u8 (iShr .u8 (y2i z2) 4))))*2))))
 (fun z3=>(bnd (idx gAcc (Int.ofNat ((0+((nOf (y2i (u8 (iShr .u8 (y2i z2) 4))))*2))+1))) (fun z4=>(cnd (iLt (lLen x) (iConv .i64 (y2i (u8 (iAnd .u8
 (y2i z2) (y2i (u8 7))))))) (some (65533,1)) (bnd (idx x 1) (fun z5=>(cnd (iLt (y2i z5) (y2i z3)) (some (65533,1)) (cnd (iLt (y2i z4) (y2i z5)) (some (65533,1))
 (cnd (iLe (iConv .i64 (y2i (u8 (iAnd .u8 (y2i z2) (y2i (u8 7)))))) 2) (some ((iOr .i32 (iShl .i32 (iConv .i32 (y2i (u8 (iAnd .u8 (y2i z1) (y2i (u8 31)))))) 6) (iConv .i32 (y2i
 (u8 (iAnd .u8 (y2i z5) (y2i (u8 63))))))),2)) (bnd (idx x 2) (fun z6=>(cnd (iLt (y2i z6) (y2i (u8 128))) (some (65533,1)) (cnd (iLt (y2i (u8 191)) (y2i z6)) (some
 (65533,1)) (cnd (iLe (iConv .i64 (y2i (u8 (iAnd .u8 (y2i z2) (y2i (u8 7)))))) 3) (some ((iOr .i32 (iOr .i32 (iShl .i32 (iConv .i32 (y2i (u8 (iAnd .u8 (y2i z1) (y2i (u8 15))))))
 12) (iShl .i32 (iConv .i32 (y2i (u8 (iAnd .u8 (y2i z5) (y2i (u8 63)))))) 6)) (iConv .i32 (y2i (u8 (iAnd .u8 (y2i z6) (y2i (u8 63))))))),3)) (bnd (idx x 3) (fun z7 =>
 (cnd (iLt (y2i z7) (y2i (u8 128))) (some (65533,1)) (cnd (iLt (y2i (u8 191)) (y2i z7)) (some (65533,1)) (some ((iOr .i32 (iOr .i32 (iOr .i32 (iShl .i32 (iConv .i32 (y2i (u8
 (iAnd .u8 (y2i z1) (y2i (u8 7)))))) 18) (iShl .i32 (iConv .i32 (y2i (u8 (iAnd .u8 (y2i z5) (y2i (u8 63)))))) 12)) (iShl .i32 (iConv .i32 (y2i (u8 (iAnd .u8 (y2i z6) (y2i (u8
 63)))))) 6)) (iConv .i32 (y2i (u8 (iAnd .u8 (y2i z7) (y2i (u8 63))))))),4)))))))))))))))))))))))))))))))
def Zch (x:(List UInt8)):(Int)->Option ((Int) ⊕ (Unit ⊕ (Int×Int))):=fun (z1:Int)=>(cnd (iLt z1 (lLen x)) (bnd (idx x z1) (fun z2=>(cnd (iLt (y2i z2) (y2i (u8 128))) (some (.inr (.inr ((iConv .i32 (y2i z2)),1)))) (some (.inr (.inl ())))))) (some (.inr (.inl ()))))
def Zdq (x:(List UInt8)):(Option (Int×Int)):=(joinX (loopX (Zch x) 0) (fun (z1:Unit)=>(bnd (Zr x) (fun
 z2=>(some (z2.1,z2.2))))))
def Zdr (x:((List UInt8)×Int)):(Option (Int×(Int×Bool))):=(cnd (iLt x.2 0) (some (0,(0,false))) (cnd (iGe x.2 (lLen x.1)) (some (0,(0,false)))
 (chk (within x.2 (lLen x.1) (lLen x.1)) (chk (posW (nOf x.2) (lTake ((nOf (lLen x.1))-(nOf x.2)) (lDrop (nOf x.2) x.1)).length) (bnd (Zdq (lTake ((nOf (lLen x.1))
 - (nOf x.2)) (lDrop (nOf x.2) x.1))) (fun z1=>(cnd (iEq z1.1 65533) (cnd (iLt z1.2 2) (some (0,(0,false))) (some ((iConv .i64 z1.1),((iAdd .i64 x.2 z1.2),
 true)))) (some ((iConv .i64 z1.1),((iAdd .i64 x.2 z1.2),true))))))))))
def Zep (x:(Int×Int)):(Option (Int×Bool)):=(cnd (iEq x.1 164) (bnd (Zf (x.2,(161,243))) (fun z1=>(cnd z1 (some ((iSub .i64
 (iAdd .i64 12353 x.2) 161),true)) (cnd (iEq x.1 165) (bnd (Zf (x.2,(161,246))) (fun z2=>(cnd z2 (some ((iSub .i64 (iAdd .i64 12449 x.2) 161),true)) (some
 (0,false))))) (some (0,false)))))) (cnd (iEq x.1 165) (bnd (Zf (x.2,(161,246))) (fun z1=>(cnd z1 (some ((iSub .i64 (iAdd .i64 12449 x.2) 161),true)) (some
 (0,false))))) (some (0,false))))
def Zds (x:((List UInt8)×Int)):(Option (Int×(Int×Bool))):=(cnd (iLt x.2 0) (some (0,(0,false))) (cnd (iGe x.2 (lLen x.1)) (some (0,(0,false)))
 (bnd (idx x.1 x.2) (fun z1=>(cnd (iLe (y2i z1) (y2i (u8 127))) (bnd (idx x.1 x.2) (fun z2=>(some ((iConv .i64 (y2i z2)),((iAdd .i64 x.2 1),true)))))
 (cnd (iEq (iAdd .i64 x.2 1) (lLen x.1)) (some (0,(0,false))) (bnd (idx x.1 x.2) (fun z2=>(bnd (idx x.1 (iAdd .i64 x.2 1)) (fun z3=>(bnd (Zep
 ((iConv .i64 (y2i z2)),(iConv .i64 (y2i z3)))) (fun z4=>(cnd (bNot z4.2) (some (0,(0,false))) (some (z4.1,((iAdd .i64 x.2 2),true))))))))))))))))
def Zfe (x:Int):(Option Int):=(cnd (iEq x 164) (some 8364) (cnd (iEq x 166) (some 352) (cnd (iEq x 168) (some 353) (cnd (iEq x 180) (some 381) (cnd
 (iEq x 184) (some 382) (cnd (iEq x 188) (some 338) (cnd (iEq x 189) (some 339) (cnd (iEq x 190) (some 376) (some x)))))))))
def Zff (x:Int):(Option Int):=(cnd (iGe x 224) (chk (iLe 0 (iSub .i64 x 224)) (chk (iLt (iSub .i64 x 224) 32) (bnd (idx [1102,1072,1073,1094,1076,
 1077,1092,1075,1093,1080,1081,1082,1083,1084,1085,1086,1087,1103,1088,1089,1090,1091,1078,1074,1100,1099,1079,1096,1101,1097,1095,1098] (Int.ofNat (0 +
 ((nOf (iSub .i64 x 224))*1)))) (fun z1=>(some (iSub .i64 z1 32)))))) (cnd (iGe x 192) (chk (iLe 0 (iSub .i64 x 192)) (chk (iLt (iSub .i64 x 192) 32) (bnd (idx [1102,
 1072,1073,1094,1076,1077,1092,1075,1093,1080,1081,1082,1083,1084,1085,1086,1087,1103,1088,1089,1090,1091,1078,1074,1100,1099,1079,1096,1101,1097,
 1095,1098] (Int.ofNat (0+((nOf (iSub .i64 x 192))*1)))) (fun z1=>(some z1))))) (cnd (iEq x 163) (some 1105) (cnd (iEq x 179) (some 1025) (some 0)))))
def Zfg (x:Int):(Option Int):=(cnd (iGe x 160) (some x) (chk (iLe 0 (iSub .i64 x 128)) (chk (iLt (iSub .i64 x 128) 32) (bnd (idx [8364,0,8218,402,
 8222,8230,8224,8225,710,8240,352,8249,338,0,381,0,0,8216,8217,8220,8221,8226,8211,8212,732,8482,353,8250,339,0,382,376] (Int.ofNat (0+((nOf (iSub
 .i64 x 128))*1)))) (fun z1=>(some z1))))))
def Zy (x:(Int×Int)):(Option (Int×Bool)):=(bnd (Zf (x.1,(1,4))) (fun z1=>(cnd (bNot z1) (some (0,false)) (bnd (Zf
 (x.2,(0,255))) (fun z2=>(cnd (bNot z2) (some (0,false)) (cnd (iLe x.2 127) (some (x.2,true)) (joinX (cnd (iEq x.1 2) (bnd (Zfe x.2) (fun z3 =>
 (some (.inl z3)))) (cnd (iEq x.1 3) (bnd (Zff x.2) (fun z3=>(some (.inl z3)))) (cnd (iEq x.1 4) (bnd (Zfg x.2) (fun z3=>(some (.inl z3))))
 (some (.inl x.2))))) (fun (z3:Int)=>(some (z3,(iNe z3 0))))))))))))
def Zdt (x:(Int×((List UInt8)×Int))):(Option (Int×(Int×Bool))):=(cnd (iEq x.1 0) (bnd (Zdr (x.2.1,x.2.2)) (fun z1=>(some (z1.1,(z1.2.1,z1.2.2))))) (cnd (iEq x.1 5) (bnd (Zds (x.2.1,x.2.2)) (fun z1=>(some (z1.1,(z1.2.1,z1.2.2))))) (bnd (idx
 x.2.1 x.2.2) (fun z1=>(bnd (Zy (x.1,(iConv .i64 (y2i z1)))) (fun z2=>(some (z2.1,((iAdd .i64 x.2.2 1),z2.2)))))))))
def Zeq (x:Int):(Option Bool):=(bnd (Zf (x,(0,1114111))) (fun z1=>(cnd z1 (bnd (Zf (x,(55296,57343))) (fun z2 =>
 (some (bNot z2)))) (some false))))
def Zer (x:((List UInt8)×Int)):(Option (List UInt8)):=(cnd (iLe (iConv .u32 x.2) 2047) (chk (room (x.1.length+2) 1) (some (lApp x.1
 [(u8 (iOr .u8 (y2i (u8 192)) (y2i (u8 (iConv .u8 (iShr .i32 x.2 6)))))),(u8 (iOr .u8 (y2i (u8 128)) (y2i (u8 (iAnd .u8 (y2i (u8 (iConv .u8 x.2))) (y2i (u8 63)))))))]))) (joinX
 (cnd (iLt (iConv .u32 x.2) 55296) (some (.inl true)) (cnd (iLt 57343 (iConv .u32 x.2)) (some (.inl (iLe (iConv .u32 x.2) 65535))) (some (.inl false)))) (fun (z1:Bool)=>(cnd
 z1 (chk (room (x.1.length+3) 1) (some (lApp x.1 [(u8 (iOr .u8 (y2i (u8 224)) (y2i (u8 (iConv .u8 (iShr .i32 x.2 12)))))),(u8 (iOr .u8 (y2i (u8 128)) (y2i (u8 (iAnd .u8 (y2i
 (u8 (iConv .u8 (iShr .i32 x.2 6)))) (y2i (u8 63))))))),(u8 (iOr .u8 (y2i (u8 128)) (y2i (u8 (iAnd .u8 (y2i (u8 (iConv .u8 x.2))) (y2i (u8 63)))))))]))) (cnd (iGt (iConv .u32
 x.2) 65535) (cnd (iLe (iConv .u32 x.2) 1114111) (chk (room (x.1.length+4) 1) (some (lApp x.1 [(u8 (iOr .u8 (y2i (u8 240)) (y2i (u8 (iConv .u8 (iShr .i32 x.2 18)))))),(u8 (iOr
 .u8 (y2i (u8 128)) (y2i (u8 (iAnd .u8 (y2i (u8 (iConv .u8 (iShr .i32 x.2 12)))) (y2i (u8 63))))))),(u8 (iOr .u8 (y2i (u8 128)) (y2i (u8 (iAnd .u8 (y2i (u8 (iConv .u8 (iShr .i32
 x.2 6)))) (y2i (u8 63))))))),(u8 (iOr .u8 (y2i (u8 128)) (y2i (u8 (iAnd .u8 (y2i (u8 (iConv .u8 x.2))) (y2i (u8 63)))))))]))) (chk (room (x.1.length+3) 1) (some (lApp x.1 [(u8
 239),(u8 191),(u8 189)])))) (chk (room (x.1.length+3) 1) (some (lApp x.1 [(u8 239),(u8 191),(u8 189)]))))))))
def Zes (x:((List UInt8)×Int)):(Option (List UInt8)):=(cnd (iLe (iConv .u32 x.2) 127) (chk (room (x.1.length+1) 1) (some (lApp x.1 [(u8 (iConv
 .u8 x.2))]))) (bnd (Zer (x.1,x.2)) (fun z1=>(some z1))))
def Zdu (x:((List UInt8)×Int)):(Option (List UInt8)):=(bnd (Zcc [x.1]) (fun z1=>(bnd (Zeq x.2) (fun z2 =>
 (cnd (bNot z2) (some z1) (bnd (Zes (z1,(iConv .i32 x.2))) (fun z3=>(some z3))))))))
def Zet (x:(Int×(List UInt8))):((List UInt8)×Int)->Option (((List UInt8)×Int) ⊕ ((List UInt8) ⊕ ((List UInt8)×Bool))):=fun (z2:((List UInt8)
 × Int))=>(cnd (iLt z2.2 (lLen x.2)) (bnd (Zdt (x.1,(x.2,z2.2))) (fun z3=>(cnd (bNot z3.2.2) (some (.inr (.inr ([],false)))) (bnd
 (Zdu (z2.1,z3.1)) (fun z4=>(some (.inl (z4,z3.2.1)))))))) (some (.inr (.inl z2.1))))
def Zdv (x:(Int×(List UInt8))):(Option ((List UInt8)×Bool)):=(bnd (Zdp x.1) (fun z1=>(cnd (bNot z1) (some ([],false)) (joinX (loopX
 (Zet x) ([],0)) (fun (z2:(List UInt8))=>(some (z2,true)))))))
def Zz (x:(Int×(List UInt8))):(Option ((List UInt8)×Bool)):=(bnd (Zcg (x.1,x.2)) (fun z1=>(cnd (bNot z1) (some ([],false))
 (bnd (Zdv (x.1,x.2)) (fun z2=>(some (z2.1,z2.2)))))))
def Zeu (x:((Int×(List UInt8))×(Int×(List UInt8)))):(Option Bool):=(bnd (Zz (x.1.1,x.1.2)) (fun z1=>(bnd
 (Zz (x.2.1,x.2.2)) (fun z2=>(cnd z1.2 (cnd z2.2 (some (sEq z1.1 z2.1)) (some false)) (some false))))))
def Zba (x:((List UInt8)×((Int×(List UInt8))×((Int×(List UInt8))×(Int×Bool))))):(Option Bool):=(bnd (Zcf x.1) (fun z1=>(cnd
 (bNot z1) (some false) (bnd (Zf (x.2.2.2.1,(1,3))) (fun z2=>(cnd (bNot z2) (some false) (bnd (Zz (x.2.1.1,x.2.1.2)) (fun z3=>(bnd (Zz (x.2.2.1.1,x.2.2.1.2)) (fun z4=>(bnd (Zi ((x.2.1.1,x.2.1.2),(0,[]))) (fun z5=>(joinX (cnd (iNe
 x.2.2.2.1 2) (bnd (Zcg (x.2.1.1,x.2.1.2)) (fun z6=>(cnd z6 (cnd (iNe x.2.1.1 0) (cnd z3.2 (some (.inl true)) (cnd x.2.2.2.2 (some (.inl (iEq x.2.2.2.1 1)))
 (some (.inl false)))) (some (.inl false))) (some (.inl false))))) (some (.inl z5))) (fun (z6:Bool)=>(bnd (Zi ((x.2.2.1.1,x.2.2.1.2),(0,[]))) (fun z7 =>
 (joinX (cnd (iNe x.2.2.2.1 1) (cnd (iEq x.2.2.1.1 0) (some (.inl z4.2)) (some (.inl false))) (some (.inl z7))) (fun (z8:Bool)=>(cnd z6 (cnd z8 (cnd (iNe x.2.2.2.1 3) (some
 true) (bnd (Zeu ((x.2.1.1,x.2.1.2),(x.2.2.1.1,x.2.2.1.2))) (fun z9=>(some z9)))) (some false)) (some false))))))))))))))))))))
def Zci (x:Int):(Option Bool):=(bnd (Zf (x,(0,65535))) (fun z1=>(some z1)))
def Zbg (x:(Int×(((List UInt8)×((Int×(List UInt8))×((Int×(List UInt8))×(Int×Bool))))×((List UInt8)×(Int×(Int×(Int×Int))))))):(Option
 Bool):=(bnd (Zt ((x.2.1.1,((x.2.1.2.1.1,x.2.1.2.1.2),((x.2.1.2.2.1.1,x.2.1.2.2.1.2),(x.2.1.2.2.2.1,x.2.1.2.2.2.2)))),([],((0,[]),((0,[]),(0,false))))))
 (fun z1=>(joinX (cnd (iEq x.1 1) (bnd (Zba (x.2.1.1,((x.2.1.2.1.1,x.2.1.2.1.2),((x.2.1.2.2.1.1,x.2.1.2.2.1.2),(x.2.1.2.2.2.1,x.2.1.2.2.2.2))))) (fun z2=>(cnd z2 (cnd (sEq x.2.2.1 []) (some (.inl (iEq x.2.2.2.1 0))) (some (.inl false))) (some (.inl false))))) (cnd (iEq x.1 2) (cnd z1 (bnd (Zcf x.2.2.1) (fun z2=>(cnd z2 (some (.inl (iEq x.2.2.2.1 0))) (some (.inl false))))) (some (.inl false))) (cnd (iEq x.1 3) (cnd z1 (cnd (sEq x.2.2.1 []) (bnd (Zf (x.2.2.2.1,(0,7)))
 (fun z2=>(some (.inl z2)))) (some (.inl false))) (some (.inl false))) (cnd (iEq x.1 4) (cnd z1 (cnd (sEq x.2.2.1 []) (cnd (iEq x.2.2.2.1 0) (some (.inl (iNe
 x.2.2.2.2.1 0))) (some (.inl false))) (some (.inl false))) (some (.inl false))) (some (.inl false)))))) (fun (z2:Bool)=>(cnd (iEq x.2.2.2.2.1 0) (cnd z2 (cnd (iEq
 x.2.2.2.2.2.1 0) (some (iEq x.2.2.2.2.2.2 0)) (some false)) (some false)) (cnd z2 (bnd (Zf (x.2.2.2.2.1,(1,9))) (fun z3=>(cnd z3 (bnd (Zci
 x.2.2.2.2.2.1) (fun z4=>(cnd z4 (bnd (Zf (x.2.2.2.2.2.2,(0,6))) (fun z5=>(some z5))) (some false)))) (some false)))) (some false)))))))
def Zdw (x:((List ((List UInt8)×((Int×(List UInt8))×((Int×(List UInt8))×(Int×Bool)))))×(Int×(List (Int×(Int×Int)))))):(Int)->Option
 ((Int) ⊕ (Unit ⊕ Bool)):=fun (z1:Int)=>(cnd (iLt z1 (lLen x.1)) (bnd (idx x.1 z1) (fun z2=>(bnd (Zba (z2.1,((z2.2.1.1,z2.2.1.2),((z2.2.2.1.1,z2.2.2.1.2),(z2.2.2.2.1,z2.2.2.2.2))))) (fun z3=>(cnd (bNot z3) (some (.inr (.inr false)))
 (cnd (iGt z1 0) (bnd (idx x.1 (iSub .i64 z1 1)) (fun z4=>(cnd (bNot (sLt z4.1 z2.1)) (some
 (.inr (.inr false))) (some (.inl (iAdd .i64 z1 1)))))) (some (.inl (iAdd .i64 z1 1))))))))) (some (.inr (.inl ()))))
def Zdx (x:((List ((List UInt8)×((Int×(List UInt8))×((Int×(List UInt8))×(Int×Bool)))))×(Int×(List (Int×(Int×Int)))))):(Int)->Option
 ((Int) ⊕ (Unit ⊕ Bool)):=fun (z2:Int)=>(cnd (iLt z2 (lLen x.2.2)) (bnd (idx x.2.2 z2) (fun z3=>(bnd (Zf (z3.1,(1,9))) (fun z4
 => (cnd (bNot z4) (some (.inr (.inr false))) (bnd (Zci z3.2.1) (fun z5=>(cnd (bNot z5) (some (.inr (.inr false))) (bnd (Zf (z3.2.2,(0,6))) (fun z6=>(cnd (bNot z6) (some (.inr (.inr false))) (cnd (iGt z2 0) (bnd (idx x.2.2 (iSub .i64 z2 1)) (fun z7=>(cnd (iGe z7.1 z3.1) (some (.inr (.inr
 false))) (some (.inl (iAdd .i64 z2 1)))))) (some (.inl (iAdd .i64 z2 1))))))))))))))) (some (.inr (.inl ()))))
def Zbh (x:((List ((List UInt8)×((Int×(List UInt8))×((Int×(List UInt8))×(Int×Bool)))))×(Int×(List (Int×(Int×Int)))))):(Option Bool) :=
 (joinX (loopX (Zdw x) 0) (fun (z1:Unit)=>(joinX (loopX (Zdx x) 0) (fun (z2:Unit)=>(cnd (iLe (lLen x.1) 8) (bnd (Zf (x.2.1,(0,7))) (fun z3=>(some z3))) (some false))))))
def Zdy (x:((List ((List UInt8)×((Int×(Option (List UInt8)))×((Int×(Option (List UInt8)))×(Int×Bool)))))×((List UInt8)×((Int×(List
 UInt8))×((Int×(List UInt8))×(Int×Bool)))))):((List ((List UInt8)×((Int×(List UInt8))×((Int×(List UInt8))×(Int×Bool)))))×(Bool×((List ((List UInt8) ×
 ((Int×(Option (List UInt8)))×((Int×(Option (List UInt8)))×(Int×Bool)))))×Int)))->Option (((List ((List UInt8)×((Int×(List UInt8))×((Int×(List UInt8))×(Int
 × Bool)))))×(Bool×((List ((List UInt8)×((Int×(Option (List UInt8)))×((Int×(Option (List UInt8)))×(Int×Bool)))))×Int))) ⊕ (((List ((List UInt8)×((Int×(List
 UInt8))×((Int×(List UInt8))×(Int×Bool)))))×Bool) ⊕ (List ((List UInt8)×((Int×(List UInt8))×((Int×(List UInt8))×(Int×Bool))))))):=fun (z1:((List ((List
 UInt8)×((Int×(List UInt8))×((Int×(List UInt8))×(Int×Bool)))))×(Bool×((List ((List UInt8)×((Int×(Option (List UInt8)))×((Int×(Option (List UInt8)))×(Int
 × Bool)))))×Int))))=>(cnd (iLt z1.2.2.2 (lLen x.1)) (joinX (bnd (idx z1.2.2.1 z1.2.2.2) (fun z2=>(chk (hSome z2.2.1.2) (chk (hSome z2.2.2.1.2) (joinX (cnd (bNot z1.2.1) (cnd (bNot (sLt z2.1 x.2.1)) (bnd (Zk x.2) (fun z3=>(chk (room (z1.1.length+1) 96) (some (.inl ((lApp z1.1 [z3]),true)))))) (some (.inl (z1.1,
 z1.2.1)))) (some (.inl (z1.1,z1.2.1)))) (fun (z3:((List ((List UInt8)×((Int×(List UInt8))×((Int×(List UInt8))×(Int×Bool)))))×Bool))=>(cnd (bNot (sEq z2.1
 x.2.1)) (bnd (idx z1.2.2.1 (Int.ofNat (nOf z1.2.2.2))) (fun z4=>(bnd (idx
 (lSet z1.2.2.1 (nOf z1.2.2.2) (z4.1,((z4.2.1.1,none),z4.2.2))) (Int.ofNat (nOf z1.2.2.2))) (fun z5=>(chk (room (z3.1.length+1) 96) (some (.inl ((lApp z3.1 [(z2.1,((z2.2.1.1,(hGet z2.2.1.2)),((z2.2.2.1.1,(hGet z2.2.2.1.2)),z2.2.2.2)))]),
 (z3.2,(lSet (lSet z1.2.2.1 (nOf z1.2.2.2) (z4.1,((z4.2.1.1,none),z4.2.2))) (nOf z1.2.2.2) (z5.1,(z5.2.1,((z5.2.2.1.1,none),z5.2.2.2))))))))))))) (some (.inl (z3.1,(z3.2,
 z1.2.2.1))))))))))) (fun (z2:((List ((List UInt8)×((Int×(List UInt8))×((Int×(List UInt8))×(Int×Bool)))))×(Bool×(List ((List UInt8)×((Int×(Option (List
 UInt8)))×((Int×(Option (List UInt8)))×(Int×Bool))))))))=>(some (.inl (z2.1,(z2.2.1,(z2.2.2,(iAdd .i64 z1.2.2.2 1)))))))) (some (.inr (.inl (z1.1,z1.2.1)))))
def Zcj (x:((List ((List UInt8)×((Int×(Option (List UInt8)))×((Int×(Option (List UInt8)))×(Int×Bool)))))×((List UInt8)×((Int×(List UInt8))
 × ((Int×(List UInt8))×(Int×Bool)))))):(Option (List ((List UInt8)×((Int×(List UInt8))×((Int×(List UInt8))×(Int×Bool)))))):=(joinX (loopX (Zdy x)
 ([],(false,(x.1,0)))) (fun (z1:((List ((List UInt8)×((Int×(List UInt8))×((Int×(List UInt8))×(Int×Bool)))))×Bool))=>(joinX (cnd (bNot z1.2) (bnd (Zk
 x.2) (fun z2=>(chk (room (z1.1.length+1) 96) (some (.inl (lApp z1.1 [z2])))))) (some (.inl
 z1.1))) (fun (z2:(List ((List UInt8)×((Int×(List UInt8))×((Int×(List UInt8))×(Int×Bool))))))=>(some z2)))))
def Zck (x:(((List UInt8)×((Int×(List UInt8))×((Int×(List UInt8))×(Int×Bool))))×(Int×(((List UInt8)×((Int×(List UInt8))×((Int×(List
 UInt8))×(Int×Bool))))×((List UInt8)×(Int×(Int×(Int×Int)))))))):(Option (Bool×(Int×((List UInt8)×(Int×(Int×(Int×(Bool×((List UInt8)×(Int×(Int ×
 (Int×Int)))))))))))):=(some ((sEq x.1.1 x.2.2.2.1),(x.2.1,(x.2.2.1.1,(x.2.2.1.2.1.1,(x.2.2.1.2.2.1.1,(x.2.2.1.2.2.2.1,(x.2.2.1.2.2.2.2,x.2.2.2))))))))
def Zev (x:((List ((List UInt8)×((Int×(List UInt8))×((Int×(List UInt8))×(Int×Bool)))))×(Int×(((List UInt8)×((Int ×
 (List UInt8))×((Int×(List UInt8))×(Int×Bool))))×((List UInt8)×(Int×(Int×(Int×Int)))))))):(Int×((List UInt8)×(Int×(Int×(Int×(Bool×((List UInt8) ×
 (Int×(Int×(Int×(Int×Int)))))))))))->Option ((Int×((List UInt8)×(Int×(Int×(Int×(Bool×((List UInt8)×(Int×(Int×(Int×(Int×Int))))))))))) ⊕ (Int×(Int
 × ((List UInt8)×(Int×(Int×(Int×(Bool×((List UInt8)×(Int×(Int×(Int×Int)))))))))))):=fun (z1:(Int×((List UInt8)×(Int×(Int×(Int×(Bool×((List UInt8)
 × (Int×(Int×(Int×(Int×Int))))))))))))=>(cnd (iLt z1.2.2.2.2.2.2.2.2.2.2.2 (lLen x.1)) (bnd (idx x.1 z1.2.2.2.2.2.2.2.2.2.2.2) (fun z2=>(bnd (Zck (z2,(z1.1,((z1.2.1,((z1.2.2.1,x.2.2.1.2.1.2),((z1.2.2.2.1,x.2.2.1.2.2.1.2),(z1.2.2.2.2.1,
 z1.2.2.2.2.2.1)))),(z1.2.2.2.2.2.2.1,(z1.2.2.2.2.2.2.2.1,(z1.2.2.2.2.2.2.2.2.1,(z1.2.2.2.2.2.2.2.2.2.1,z1.2.2.2.2.2.2.2.2.2.2.1)))))))) (fun z3=>(cnd z3.1 (some (.inr (z1.2.2.2.2.2.2.2.2.2.2.2,z3.2))) (some (.inl (z3.2.1,
 (z3.2.2.1,(z3.2.2.2.1,(z3.2.2.2.2.1,(z3.2.2.2.2.2.1,(z3.2.2.2.2.2.2.1,(z3.2.2.2.2.2.2.2.1,(z3.2.2.2.2.2.2.2.2.1,(z3.2.2.2.2.2.2.2.2.2.1,(z3.2.2.2.2.2.2.2.2.2.2.1,
 (z3.2.2.2.2.2.2.2.2.2.2.2,(iAdd .i64 z1.2.2.2.2.2.2.2.2.2.2.2 1))))))))))))))))))) (some (.inr ((-1),(z1.1,(z1.2.1,(z1.2.2.1,(z1.2.2.2.1,(z1.2.2.2.2.1,(z1.2.2.2.2.2.1,
 (z1.2.2.2.2.2.2.1,(z1.2.2.2.2.2.2.2.1,(z1.2.2.2.2.2.2.2.2.1,(z1.2.2.2.2.2.2.2.2.2.1,z1.2.2.2.2.2.2.2.2.2.2.1))))))))))))))
def Zdz (x:((List ((List UInt8)×((Int×(List UInt8))×((Int×(List UInt8))×(Int×Bool)))))×(Int×(((List UInt8)×((Int×(List
 UInt8))×((Int×(List UInt8))×(Int×Bool))))×((List UInt8)×(Int×(Int×(Int×Int)))))))):(Option (Int×(Int×((List UInt8)×(Int×(Int×(Int×(Bool×((List
 UInt8)×(Int×(Int×(Int×Int)))))))))))):=(loopX (Zev x) (x.2.1,(x.2.2.1.1,(x.2.2.1.2.1.1,(x.2.2.1.2.2.1.1,(x.2.2.1.2.2.2.1,
 (x.2.2.1.2.2.2.2,(x.2.2.2.1,(x.2.2.2.2.1,(x.2.2.2.2.2.1,(x.2.2.2.2.2.2.1,(x.2.2.2.2.2.2.2,0))))))))))))
def Zcl (x:((List ((List UInt8)×((Int×(Option (List UInt8)))×((Int×(Option (List UInt8)))×(Int×Bool)))))×(Int×(((List
 UInt8)×((Int×(List UInt8))×((Int×(List UInt8))×(Int×Bool))))×((List UInt8)×(Int×(Int×(Int×Int)))))))):((List ((List UInt8)×((Int×(Option (List
 UInt8)))×((Int×(Option (List UInt8)))×(Int×Bool)))))×(Int×((List UInt8)×(Int×(Int×(Int×(Bool×((List UInt8)×(Int×(Int×(Int×(Int×(Int ×
 Int)))))))))))))->Option (((List ((List UInt8)×((Int×(Option (List UInt8)))×((Int×(Option (List UInt8)))×(Int×Bool)))))×(Int×((List UInt8)×(Int×(Int×(Int ×
 (Bool×((List UInt8)×(Int×(Int×(Int×(Int×(Int×Int))))))))))))) ⊕ (((List ((List UInt8)×((Int×(Option (List UInt8)))×((Int×(Option (List UInt8)))×(Int ×
 Bool)))))×(Int×((List UInt8)×(Int×(Int×(Int×(Bool×((List UInt8)×(Int×(Int×(Int×(Int×Int)))))))))))) ⊕ ((List ((List UInt8)×((Int×(List UInt8))×((Int
 × (List UInt8))×(Int×Bool)))))×(Int×((List UInt8)×(Int×(Int×(Int×(Bool×((List UInt8)×(Int×(Int×(Int×Int))))))))))))):=fun (z3:((List ((List UInt8) ×
 ((Int×(Option (List UInt8)))×((Int×(Option (List UInt8)))×(Int×Bool)))))×(Int×((List UInt8)×(Int×(Int×(Int×(Bool×((List UInt8)×(Int×(Int×(Int×(Int
 × (Int×Int))))))))))))))=>(cnd (iLt z3.2.2.2.2.2.2.2.2.2.2.2.2.2 (lLen z3.1)) (joinX (bnd (idx z3.1 z3.2.2.2.2.2.2.2.2.2.2.2.2.2) (fun z4=>(chk (hSome z4.2.1.2) (chk (hSome z4.2.2.1.2) (bnd (Zck ((z4.1,((z4.2.1.1,(hGet z4.2.1.2)),
 ((z4.2.2.1.1,(hGet z4.2.2.1.2)),z4.2.2.2))),(z3.2.1,((z3.2.2.1,((z3.2.2.2.1,x.2.2.1.2.1.2),((z3.2.2.2.2.1,x.2.2.1.2.2.1.2),(z3.2.2.2.2.2.1,z3.2.2.2.2.2.2.1)))),
 (z3.2.2.2.2.2.2.2.1,(z3.2.2.2.2.2.2.2.2.1,(z3.2.2.2.2.2.2.2.2.2.1,(z3.2.2.2.2.2.2.2.2.2.2.1,z3.2.2.2.2.2.2.2.2.2.2.2.1)))))))) (fun z5=>(cnd (bNot z5.1) (bnd (idx z3.1 z3.2.2.2.2.2.2.2.2.2.2.2.2.1) (fun z6=>(chk (nNe (nOf z3.2.2.2.2.2.2.2.2.2.2.2.2.1) (nOf z3.2.2.2.2.2.2.2.2.2.2.2.2.2)) (bnd (idx z3.1
 (Int.ofNat (nOf z3.2.2.2.2.2.2.2.2.2.2.2.2.2))) (fun z7=>(chk (nEq (nOf
 z3.2.2.2.2.2.2.2.2.2.2.2.2.2) (nOf z3.2.2.2.2.2.2.2.2.2.2.2.2.2)) (chk (nEq (nOf z3.2.2.2.2.2.2.2.2.2.2.2.2.2) (nOf z3.2.2.2.2.2.2.2.2.2.2.2.2.2)) (some (.inl ((lSet (lSet z3.1
 (nOf z3.2.2.2.2.2.2.2.2.2.2.2.2.1) (z4.1,((z4.2.1.1,(some (hGet z4.2.1.2))),((z4.2.2.1.1,(some (hGet z4.2.2.1.2))),z4.2.2.2)))) (nOf z3.2.2.2.2.2.2.2.2.2.2.2.2.2) (z7.1,
 ((z7.2.1.1,none),((z7.2.2.1.1,none),z7.2.2.2)))),(z5.2.1,(z5.2.2.1,(z5.2.2.2.1,(z5.2.2.2.2.1,(z5.2.2.2.2.2.1,(z5.2.2.2.2.2.2.1,(z5.2.2.2.2.2.2.2.1,
 (z5.2.2.2.2.2.2.2.2.1,(z5.2.2.2.2.2.2.2.2.2.1,(z5.2.2.2.2.2.2.2.2.2.2.1,(z5.2.2.2.2.2.2.2.2.2.2.2,(iAdd .i64 z3.2.2.2.2.2.2.2.2.2.2.2.2.1 1)))))))))))))))))))))) (some (.inl
 (z3.1,(z5.2.1,(z5.2.2.1,(z5.2.2.2.1,(z5.2.2.2.2.1,(z5.2.2.2.2.2.1,(z5.2.2.2.2.2.2.1,(z5.2.2.2.2.2.2.2.1,(z5.2.2.2.2.2.2.2.2.1,(z5.2.2.2.2.2.2.2.2.2.1,
 (z5.2.2.2.2.2.2.2.2.2.2.1,(z5.2.2.2.2.2.2.2.2.2.2.2,z3.2.2.2.2.2.2.2.2.2.2.2.2.1))))))))))))))))))))) (fun (z4:((List ((List UInt8)×((Int×(Option (List UInt8)))×((Int ×
 (Option (List UInt8)))×(Int×Bool)))))×(Int×((List UInt8)×(Int×(Int×(Int×(Bool×((List UInt8)×(Int×(Int×(Int×(Int×Int)))))))))))))=>(some (.inl (z4.1,
 (z4.2.1,(z4.2.2.1,(z4.2.2.2.1,(z4.2.2.2.2.1,(z4.2.2.2.2.2.1,(z4.2.2.2.2.2.2.1,(z4.2.2.2.2.2.2.2.1,(z4.2.2.2.2.2.2.2.2.1,(z4.2.2.2.2.2.2.2.2.2.1,
 (z4.2.2.2.2.2.2.2.2.2.2.1,(z4.2.2.2.2.2.2.2.2.2.2.2.1,(z4.2.2.2.2.2.2.2.2.2.2.2.2,(iAdd .i64 z3.2.2.2.2.2.2.2.2.2.2.2.2.2 1)))))))))))))))))) (some (.inr (.inl (z3.1,(z3.2.1,
 (z3.2.2.1,(z3.2.2.2.1,(z3.2.2.2.2.1,(z3.2.2.2.2.2.1,(z3.2.2.2.2.2.2.1,(z3.2.2.2.2.2.2.2.1,(z3.2.2.2.2.2.2.2.2.1,(z3.2.2.2.2.2.2.2.2.2.1,(z3.2.2.2.2.2.2.2.2.2.2.1,
 (z3.2.2.2.2.2.2.2.2.2.2.2.1,z3.2.2.2.2.2.2.2.2.2.2.2.2.1))))))))))))))))
def Zcm (x:((List ((List UInt8)×((Int×(Option (List UInt8)))×((Int×(Option (List UInt8)))×(Int×Bool)))))×(Int×(((List
 UInt8)×((Int×(List UInt8))×((Int×(List UInt8))×(Int×Bool))))×((List UInt8)×(Int×(Int×(Int×Int)))))))):(Option ((List ((List UInt8)×((Int×(List UInt8))
 × ((Int×(List UInt8))×(Int×Bool)))))×(Int×((List UInt8)×(Int×(Int×(Int×(Bool×((List UInt8)×(Int×(Int×(Int×Int)))))))))))):=(bnd (cvL (.P .S (.P (.P
 (.I .i64) (.H .Y)) (.P (.P (.I .i64) (.H .Y)) (.P (.I .i64) .B)))) (.P .S (.P (.P (.I .i64) (.L .Y)) (.P (.P (.I .i64) (.L .Y)) (.P (.I .i64) .B)))) x.1) (fun z1=>(bnd (Zdz (z1,x.2)) (fun z2=>(cnd (iEq z2.1 (-1)) (bnd (cvL (.P .S (.P (.P (.I .i64) (.H .Y)) (.P (.P (.I .i64) (.H .Y)) (.P (.I .i64)
 .B)))) (.P .S (.P (.P (.I .i64) (.L .Y)) (.P (.P (.I .i64) (.L .Y)) (.P (.I .i64) .B)))) x.1) (fun z3=>(some (z3,z2.2)))) (joinX (loopX (Zcl x) (x.1,(z2.2.1,(z2.2.2.1,(z2.2.2.2.1,(z2.2.2.2.2.1,(z2.2.2.2.2.2.1,
 (z2.2.2.2.2.2.2.1,(z2.2.2.2.2.2.2.2.1,(z2.2.2.2.2.2.2.2.2.1,(z2.2.2.2.2.2.2.2.2.2.1,(z2.2.2.2.2.2.2.2.2.2.2.1,(z2.2.2.2.2.2.2.2.2.2.2.2,(z2.1,(iAdd .i64 z2.1
 1))))))))))))))) (fun (z3:((List ((List UInt8)×((Int×(Option (List UInt8)))×((Int×(Option (List UInt8)))×(Int×Bool)))))×(Int×((List UInt8)×(Int×(Int×(Int
 × (Bool×((List UInt8)×(Int×(Int×(Int×(Int×Int)))))))))))))=>(chk (within z3.2.2.2.2.2.2.2.2.2.2.2.2 (lLen z3.1) (lLen z3.1)) (chk (nEq ((nOf
 z3.2.2.2.2.2.2.2.2.2.2.2.2)+((nOf (lLen z3.1))-(nOf z3.2.2.2.2.2.2.2.2.2.2.2.2))) z3.1.length) (chk (within 0 z3.2.2.2.2.2.2.2.2.2.2.2.2 (lLen (lApp (lTake (nOf
 z3.2.2.2.2.2.2.2.2.2.2.2.2) z3.1) (lRep ((nOf (lLen z3.1))-(nOf z3.2.2.2.2.2.2.2.2.2.2.2.2)) ([],((0,none),((0,none),(0,false)))))))) (chk (fits 0 ((nOf
 z3.2.2.2.2.2.2.2.2.2.2.2.2)-0) (lApp (lTake (nOf z3.2.2.2.2.2.2.2.2.2.2.2.2) z3.1) (lRep ((nOf (lLen z3.1))-(nOf z3.2.2.2.2.2.2.2.2.2.2.2.2)) ([],((0,none),((0,none),(0,
 false)))))).length) (bnd (cvL (.P .S (.P (.P (.I .i64) (.H .Y)) (.P (.P (.I .i64) (.H .Y)) (.P (.I .i64) .B)))) (.P .S (.P (.P (.I .i64) (.L .Y)) (.P (.P (.I .i64) (.L .Y)) (.P
 (.I .i64) .B)))) (lTake ((nOf z3.2.2.2.2.2.2.2.2.2.2.2.2)-0) (lApp (lTake (nOf z3.2.2.2.2.2.2.2.2.2.2.2.2) z3.1) (lRep ((nOf (lLen z3.1))-(nOf z3.2.2.2.2.2.2.2.2.2.2.2.2))
 ([],((0,none),((0,none),(0,false)))))))) (fun z4=>(some (z4,(z3.2.1,
 (z3.2.2.1,(z3.2.2.2.1,(z3.2.2.2.2.1,(z3.2.2.2.2.2.1,(z3.2.2.2.2.2.2.1,(z3.2.2.2.2.2.2.2.1,(z3.2.2.2.2.2.2.2.2.1,(z3.2.2.2.2.2.2.2.2.2.1,(z3.2.2.2.2.2.2.2.2.2.2.1,
 z3.2.2.2.2.2.2.2.2.2.2.2.1)))))))))))))))))))))))))
def Zew (x:((List (Int×(Int×Int)))×(Int×(Int×Int)))):((List (Int×(Int×Int)))×(Bool×Int))->Option (((List (Int×(Int×Int))) ×
 (Bool×Int)) ⊕ (((List (Int×(Int×Int)))×Bool) ⊕ (List (Int×(Int×Int))))):=fun (z1:((List (Int×(Int×Int)))×(Bool×Int)))=>(cnd (iLt z1.2.2 (lLen x.1))
 (joinX (bnd (idx x.1 z1.2.2) (fun z2=>(joinX (cnd (bNot z1.2.1) (cnd (iGe z2.1 x.2.1) (chk (room (z1.1.length+1) 24) (some (.inl ((lApp z1.1 [x.2]),
 true)))) (some (.inl (z1.1,z1.2.1)))) (some (.inl (z1.1,z1.2.1)))) (fun (z3:((List (Int×(Int×Int)))×Bool))=>(cnd (iNe z2.1 x.2.1) (chk (room (z3.1.length+1) 24)
 (some (.inl ((lApp z3.1 [z2]),z3.2)))) (some (.inl z3))))))) (fun (z2:((List (Int×(Int×Int)))×Bool))=>(some (.inl (z2.1,(z2.2,(iAdd .i64 z1.2.2 1))))))) (some (.inr
 (.inl (z1.1,z1.2.1)))))
def Zbi (x:((List (Int×(Int×Int)))×(Int×(Int×Int)))):(Option (List (Int×(Int×Int)))):=(joinX (loopX (Zew x) ([],(false,0)))
 (fun (z1:((List (Int×(Int×Int)))×Bool))=>(joinX (cnd (bNot z1.2) (chk (room (z1.1.length+1) 24) (some (.inl (lApp z1.1 [x.2])))) (some (.inl z1.1))) (fun (z2:(List
 (Int×(Int×Int))))=>(some z2)))))
def Zbj (x:(((List ((List UInt8)×((Int×(List UInt8))×((Int×(List UInt8))×(Int×Bool)))))×(Int×(List (Int×(Int×Int)))))×(Int×(((List
 UInt8)×((Int×(List UInt8))×((Int×(List UInt8))×(Int×Bool))))×((List UInt8)×(Int×(Int×(Int×Int)))))))):(Option (((List ((List UInt8)×((Int×(List
 UInt8))×((Int×(List UInt8))×(Int×Bool)))))×(Int×(List (Int×(Int×Int)))))×Bool)):=(bnd (Zce x.1) (fun z1=>(bnd (Zbg x.2) (fun z2=>(cnd (bNot z2) (some (z1,false)) (bnd
 (Zbh x.1) (fun z3=>(cnd (bNot z3) (some (z1,false)) (joinX (cnd (iEq x.2.1 1) (bnd (cvL (.P .S (.P (.P (.I .i64) (.L .Y)) (.P (.P (.I .i64) (.L .Y)) (.P (.I
 .i64) .B)))) (.P .S (.P (.P (.I .i64) (.H .Y)) (.P (.P (.I .i64) (.H .Y)) (.P (.I .i64) .B)))) z1.1) (fun z4=>(bnd (Zcj (z4,x.2.2.1)) (fun z5
 => (some (.inl (x.2.1,(x.2.2.1.1,(x.2.2.1.2.1.1,(x.2.2.1.2.2.1.1,(x.2.2.1.2.2.2.1,(x.2.2.1.2.2.2.2,(x.2.2.2.1,(x.2.2.2.2.1,(x.2.2.2.2.2.1,(x.2.2.2.2.2.2.1,
 (x.2.2.2.2.2.2.2,(z5,z1.2.1)))))))))))))))))) (cnd (iEq x.2.1 2) (bnd (cvL (.P .S (.P (.P (.I .i64) (.L .Y)) (.P (.P (.I .i64) (.L .Y)) (.P (.I .i64) .B)))) (.P .S (.P (.P (.I
 .i64) (.H .Y)) (.P (.P (.I .i64) (.H .Y)) (.P (.I .i64) .B)))) z1.1) (fun z4=>(bnd (Zcm (z4,x.2)) (fun z5=>(some (.inl (z5.2.1,(z5.2.2.1,(z5.2.2.2.1,(z5.2.2.2.2.1,(z5.2.2.2.2.2.1,
 (z5.2.2.2.2.2.2.1,(z5.2.2.2.2.2.2.2.1,(z5.2.2.2.2.2.2.2.2.1,(z5.2.2.2.2.2.2.2.2.2.1,(z5.2.2.2.2.2.2.2.2.2.2.1,(z5.2.2.2.2.2.2.2.2.2.2.2,(z5.1,z1.2.1)))))))))))))))))) (cnd
 (iEq x.2.1 3) (some (.inl (x.2.1,(x.2.2.1.1,(x.2.2.1.2.1.1,(x.2.2.1.2.2.1.1,(x.2.2.1.2.2.2.1,(x.2.2.1.2.2.2.2,(x.2.2.2.1,(x.2.2.2.2.1,(x.2.2.2.2.2.1,(x.2.2.2.2.2.2.1,
 (x.2.2.2.2.2.2.2,(z1.1,x.2.2.2.2.1)))))))))))))) (some (.inl (x.2.1,(x.2.2.1.1,(x.2.2.1.2.1.1,(x.2.2.1.2.2.1.1,(x.2.2.1.2.2.2.1,(x.2.2.1.2.2.2.2,(x.2.2.2.1,(x.2.2.2.2.1,
 (x.2.2.2.2.2.1,(x.2.2.2.2.2.2.1,(x.2.2.2.2.2.2.2,(z1.1,z1.2.1))))))))))))))))) (fun (z4:(Int×((List UInt8)×(Int×(Int×(Int×(Bool×((List UInt8)×(Int×(Int ×
 (Int×(Int×((List ((List UInt8)×((Int×(List UInt8))×((Int×(List UInt8))×(Int×Bool)))))×Int)))))))))))))=>(joinX (cnd (iGt z4.2.2.2.2.2.2.2.2.1 0) (bnd
 (Zbi (z1.2.2,(z4.2.2.2.2.2.2.2.2.1,(z4.2.2.2.2.2.2.2.2.2.1,z4.2.2.2.2.2.2.2.2.2.2.1)))) (fun z5=>(some (.inl z5)))) (some (.inl
 z1.2.2))) (fun (z5:(List (Int×(Int×Int))))=>(bnd (Zbh (z4.2.2.2.2.2.2.2.2.2.2.2.1,(z4.2.2.2.2.2.2.2.2.2.2.2.2,z5))) (fun z6=>(cnd (bNot z6) (bnd
 (Zce x.1) (fun z7=>(some (z7,
 false)))) (some ((z4.2.2.2.2.2.2.2.2.2.2.2.1,(z4.2.2.2.2.2.2.2.2.2.2.2.2,z5)),true)))))))))))))))))
def Zcn (x:((Int×(List UInt8))×(Int×(List UInt8)))):(Option Bool):=(cnd (iEq x.1.1 x.2.1) (some (sEq x.1.2 x.2.2)) (some false))
def Zco (x:(((List UInt8)×((Int×(List UInt8))×((Int×(List UInt8))×(Int×Bool))))×((List UInt8)×((Int×(List UInt8))×((Int×(List UInt8))
 × (Int×Bool)))))):(Option Bool):=(cnd (sEq x.1.1 x.2.1) (bnd (Zcn (x.1.2.1,x.2.2.1)) (fun z1=>(cnd z1 (bnd (Zcn (x.1.2.2.1,x.2.2.2.1)) (fun
 z2=>(cnd z2 (cnd (iEq x.1.2.2.2.1 x.2.2.2.2.1) (some (bEq x.1.2.2.2.2 x.2.2.2.2.2)) (some false)) (some false)))) (some false)))) (some false))
def Zea (x:(((List ((List UInt8)×((Int×(List UInt8))×((Int×(List UInt8))×(Int×Bool)))))×(Int×(List (Int×(Int×Int)))))×((List ((List
 UInt8)×((Int×(List UInt8))×((Int×(List UInt8))×(Int×Bool)))))×(Int×(List (Int×(Int×Int))))))):(Int)->Option ((Int) ⊕ (Unit ⊕ Bool)):=fun (z1:Int) =>
 (cnd (iLt z1 (lLen x.1.1)) (bnd (idx x.1.1 z1) (fun z2=>(bnd (idx x.2.1 z1) (fun z3=>(bnd (Zco (z2,z3)) (fun z4=>(cnd (bNot z4) (some (.inr (.inr false)))
 (some (.inl (iAdd .i64 z1 1)))))))))) (some (.inr (.inl ()))))
def Zeb (x:(((List ((List UInt8)×((Int×(List UInt8))×((Int×(List UInt8))×(Int×Bool)))))×(Int×(List (Int×(Int×Int)))))×((List ((List
 UInt8)×((Int×(List UInt8))×((Int×(List UInt8))×(Int×Bool)))))×(Int×(List (Int×(Int×Int))))))):(Int)->Option ((Int) ⊕ Bool):=fun (z2:Int)=>(cnd (iLt
 z2 (lLen x.1.2.2)) (bnd (idx x.1.2.2 z2) (fun z3=>(bnd (idx x.2.2.2 z2) (fun z4=>(cnd (bNot (zEq [z3.1,z3.2.1,z3.2.2] [z4.1,
 z4.2.1,z4.2.2])) (some (.inr false)) (some (.inl (iAdd .i64 z2 1)))))))) (some (.inr true)))
def Zcp (x:(((List ((List UInt8)×((Int×(List UInt8))×((Int×(List UInt8))×(Int×Bool)))))×(Int×(List (Int×(Int×Int)))))×((List ((List
 UInt8)×((Int×(List UInt8))×((Int×(List UInt8))×(Int×Bool)))))×(Int×(List (Int×(Int×Int))))))):(Option Bool):=(cnd (iNe (lLen x.1.1) (lLen x.2.1)) (some
 false) (cnd (iNe x.1.2.1 x.2.2.1) (some false) (cnd (iNe (lLen x.1.2.2) (lLen x.2.2.2)) (some false) (joinX (loopX (Zea x) 0) (fun (z1:Unit)=>(loopX (Zeb
 x) 0))))))
def Zex (x:((List ((List UInt8)×((Int×(List UInt8))×((Int×(List UInt8))×(Int×Bool)))))×(Int×(List (Int×(Int×Int)))))):((List (Int ×
 (((List UInt8)×((Int×(List UInt8))×((Int×(List UInt8))×(Int×Bool))))×((List UInt8)×(Int×(Int×(Int×Int)))))))×Int)->Option (((List (Int×(((List UInt8) ×
 ((Int×(List UInt8))×((Int×(List UInt8))×(Int×Bool))))×((List UInt8)×(Int×(Int×(Int×Int)))))))×Int) ⊕ ((List (Int×(((List UInt8)×((Int×(List UInt8)) ×
 ((Int×(List UInt8))×(Int×Bool))))×((List UInt8)×(Int×(Int×(Int×Int))))))) ⊕ (List (Int×(((List UInt8)×((Int×(List UInt8))×((Int×(List UInt8))×(Int ×
 Bool))))×((List UInt8)×(Int×(Int×(Int×Int))))))))):=fun (z1:((List (Int×(((List UInt8)×((Int×(List UInt8))×((Int×(List UInt8))×(Int×Bool))))×((List
 UInt8)×(Int×(Int×(Int×Int)))))))×Int))=>(cnd (iLt z1.2 (lLen x.1)) (bnd (idx x.1 z1.2) (fun z2=>(bnd (Zk (z2.1,((z2.2.1.1,z2.2.1.2),((z2.2.2.1.1,z2.2.2.1.2),(z2.2.2.2.1,z2.2.2.2.2))))) (fun z3=>(chk (room (z1.1.length+1) 152) (some (.inl ((lApp z1.1 [(1,((z3.1,((z3.2.1.1,z3.2.1.2),((z3.2.2.1.1,z3.2.2.1.2),(z3.2.2.2.1,
 z3.2.2.2.2)))),([],(0,(0,(0,0))))))]),(iAdd .i64 z1.2 1))))))))) (some (.inr (.inl z1.1))))
def Zey (x:((List ((List UInt8)×((Int×(List UInt8))×((Int×(List UInt8))×(Int×Bool)))))×(Int×(List (Int×(Int×Int)))))):((List (Int ×
 (((List UInt8)×((Int×(List UInt8))×((Int×(List UInt8))×(Int×Bool))))×((List UInt8)×(Int×(Int×(Int×Int)))))))×Int)->Option (((List (Int×(((List UInt8) ×
 ((Int×(List UInt8))×((Int×(List UInt8))×(Int×Bool))))×((List UInt8)×(Int×(Int×(Int×Int)))))))×Int) ⊕ ((List (Int×(((List UInt8)×((Int×(List UInt8)) ×
 ((Int×(List UInt8))×(Int×Bool))))×((List UInt8)×(Int×(Int×(Int×Int))))))) ⊕ (List (Int×(((List UInt8)×((Int×(List UInt8))×((Int×(List UInt8))×(Int ×
 Bool))))×((List UInt8)×(Int×(Int×(Int×Int))))))))):=fun (z2:((List (Int×(((List UInt8)×((Int×(List UInt8))×((Int×(List UInt8))×(Int×Bool))))×((List
 UInt8)×(Int×(Int×(Int×Int)))))))×Int))=>(cnd (iLt z2.2 (lLen x.2.2)) (bnd (idx x.2.2 z2.2) (fun z3=>(chk (room (z2.1.length+1) 152) (some
 (.inl ((lApp z2.1 [(4,(([],((0,[]),((0,[]),(0,false)))),([],(0,(z3.1,(z3.2.1,z3.2.2))))))]),(iAdd .i64 z2.2 1))))))) (some (.inr (.inl z2.1))))
def Zec (x:((List ((List UInt8)×((Int×(List UInt8))×((Int×(List UInt8))×(Int×Bool)))))×(Int×(List (Int×(Int×Int)))))):(Option (List
 (Int×(((List UInt8)×((Int×(List UInt8))×((Int×(List UInt8))×(Int×Bool))))×((List UInt8)×(Int×(Int×(Int×Int)))))))):=(joinX (loopX (Zex x) ([(3,
 (([],((0,[]),((0,[]),(0,false)))),([],(x.2.1,(0,(0,0))))))],0)) (fun (z1:(List (Int×(((List UInt8)×((Int×(List UInt8))×((Int×(List UInt8))×(Int ×
 Bool))))×((List UInt8)×(Int×(Int×(Int×Int))))))))=>(joinX (loopX (Zey x) (z1,0)) (fun (z2:(List (Int×(((List UInt8)×((Int×(List UInt8))×((Int ×
 (List UInt8))×(Int×Bool))))×((List UInt8)×(Int×(Int×(Int×Int))))))))=>(some z2)))))
def Zed (x:((List ((List UInt8)×((Int×(List UInt8))×((Int×(List UInt8))×(Int×Bool)))))×(List ((List UInt8)×((Int×(List
 UInt8))×((Int×(List UInt8))×(Int×Bool))))))):(Int)->Option ((Int) ⊕ Bool):=fun (z1:Int)=>(cnd (iLt z1 (lLen x.1)) (bnd (idx x.1 z1) (fun z2=>(bnd (idx x.2 z1) (fun z3
 => (bnd (Zt ((z2.1,((z2.2.1.1,z2.2.1.2),((z2.2.2.1.1,z2.2.2.1.2),(z2.2.2.2.1,z2.2.2.2.2)))),(z3.1,((z3.2.1.1,z3.2.1.2),((z3.2.2.1.1,z3.2.2.1.2),(z3.2.2.2.1,
 z3.2.2.2.2)))))) (fun z4=>(cnd (bNot z4) (some (.inr false)) (some (.inl (iAdd .i64 z1 1)))))))))) (some (.inr true)))
def Zee (x:((List ((List UInt8)×((Int×(List UInt8))×((Int×(List UInt8))×(Int×Bool)))))×(List ((List UInt8)×((Int×(List
 UInt8))×((Int×(List UInt8))×(Int×Bool))))))):(Option Bool):=(cnd (iNe (lLen x.1) (lLen x.2)) (some false) (loopX (Zed x) 0))
def Zef (x:((List (Int×(Int×Int)))×(List (Int×(Int×Int))))):(Int)->Option ((Int) ⊕ Bool):=fun (z1:Int)=>(cnd (iLt z1 (lLen x.1))
 (bnd (idx x.1 z1) (fun z2=>(bnd (idx x.2 z1) (fun z3=>(cnd (bNot (zEq [z2.1,z2.2.1,z2.2.2] [z3.1,z3.2.1,z3.2.2])) (some
 (.inr false)) (some (.inl (iAdd .i64 z1 1)))))))) (some (.inr true)))
def Zeg (x:((List (Int×(Int×Int)))×(List (Int×(Int×Int))))):(Option Bool):=(cnd (iNe (lLen x.1) (lLen x.2)) (some false) (loopX
 (Zef x) 0))
def Zcq (x:(((List ((List UInt8)×((Int×(List UInt8))×((Int×(List UInt8))×(Int×Bool)))))×(Int×(List (Int×(Int×Int)))))×((List ((List
 UInt8)×((Int×(List UInt8))×((Int×(List UInt8))×(Int×Bool)))))×(Int×(List (Int×(Int×Int))))))):(Option Bool):=(bnd (Zee (x.1.1,
 x.2.1)) (fun z1=>(cnd z1 (cnd (iEq x.1.2.1 x.2.2.1) (bnd (Zeg (x.1.2.2,x.2.2.2)) (fun z2=>(some z2))) (some false)) (some false))))
def Zeh (z3:(List (Int×(((List UInt8)×((Int×(List UInt8))×((Int×(List UInt8))×(Int×Bool))))×((List UInt8)×(Int×(Int×(Int ×
 Int)))))))):((List ((List UInt8)×((Int×(List UInt8))×((Int×(List UInt8))×(Int×Bool)))))×(Int×((List (Int×(Int×Int)))×Int)))->Option (((List ((List UInt8)
 × ((Int×(List UInt8))×((Int×(List UInt8))×(Int×Bool)))))×(Int×((List (Int×(Int×Int)))×Int))) ⊕ (((List ((List UInt8)×((Int×(List UInt8))×((Int×(List
 UInt8))×(Int×Bool)))))×(Int×(List (Int×(Int×Int))))) ⊕ Bool)):=fun (z4:((List ((List UInt8)×((Int×(List UInt8))×((Int×(List UInt8))×(Int×Bool))))) ×
 (Int×((List (Int×(Int×Int)))×Int))))=>(cnd (iLt z4.2.2.2 (lLen z3)) (alt2 (bnd (idx z3 z4.2.2.2) (fun z5=>(bnd (Zbj ((z4.1,(z4.2.1,z4.2.2.1)),z5)) (fun z6=>(cnd (bNot z6.2) (some (.inr (.inr false))) (bnd (idx z3 z4.2.2.2) (fun
 z7=>(bnd (Zbg z7) (fun z8=>(cnd (bNot z8) (some (.inr (.inr false))) (some (.inl (z6.1.1,(z6.1.2.1,(z6.1.2.2,(iAdd .i64 z4.2.2.2 1)))))))))))))))) (bnd (idx z3 z4.2.2.2) (fun z5=>(bnd (Zbj ((z4.1,(z4.2.1,z4.2.2.1)),
 z5)) (fun z6=>(cnd (bNot z6.2) (some
 (.inr (.inr false))) (bnd (idx z3 z4.2.2.2) (fun z7=>(bnd (Zbg z7) (fun z8=>(cnd (bNot z8) (some (.inr (.inr false))) (some (.inl (z6.1.1,(z6.1.2.1,(z6.1.2.2,(iAdd .i64 z4.2.2.2
 1))))))))))))))))) (some (.inr (.inl (z4.1,(z4.2.1,z4.2.2.1))))))
def Zez (x:(List UInt8)):(Option Bool):=(bnd (Zbb x) (fun z1=>(cnd z1 (some true) (bnd (Zdo x) (fun z2=>(bnd (Zec z2.1) (fun z3=>(joinX (loopX (Zeh z3) ([],(0,([],0)))) (fun (z4:((List ((List UInt8)×((Int ×
 (List UInt8))×((Int×(List UInt8))×(Int×Bool)))))×(Int×(List (Int×(Int×Int))))))=>(bnd (Zcp (z4,z2.1)) (fun z5=>(cnd z5 (cnd (iEq (lLen z3)
 (iAdd .i64 (iAdd .i64 1 (lLen z2.1.1)) (lLen z2.1.2.2))) (bnd (Zcq (z4,z2.1)) (fun z6=>(some z6))) (some false)) (some false)))))))))))))
end
end Go.Vs
