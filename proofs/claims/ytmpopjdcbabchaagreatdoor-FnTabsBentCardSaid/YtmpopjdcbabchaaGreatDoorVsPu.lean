import Derived.Test.YtmpopjdcbabchaaGreatDoorVsW5
set_option linter.all false
namespace Go.Vs
noncomputable section
def gFirst:List UInt8:=[240,240,240,240,240,240,240,240,240,240,240,240,240,240,240,240,240,240,240,240,240,240,240,240,240,240,240,240,240,240,
 240,240,240,240,240,240,240,240,240,240,240,240,240,240,240,240,240,240,240,240,240,240,240,240,240,240,240,240,240,240,240,240,240,240,240,
 240,240,240,240,240,240,240,240,240,240,240,240,240,240,240,240,240,240,240,240,240,240,240,240,240,240,240,240,240,240,240,240,240,240,240,
 240,240,240,240,240,240,240,240,240,240,240,240,240,240,240,240,240,240,240,240,240,240,240,240,240,240,240,240,241,241,241,241,241,241,241,
 241,241,241,241,241,241,241,241,241,241,241,241,241,241,241,241,241,241,241,241,241,241,241,241,241,241,241,241,241,241,241,241,241,241,241,
 241,241,241,241,241,241,241,241,241,241,241,241,241,241,241,241,241,241,241,241,241,241,241,241,2,2,2,2,2,2,2,2,2,2,2,2,2,2,2,2,2,2,2,
 2,2,2,2,2,2,2,2,2,2,2,19,3,3,3,3,3,3,3,3,3,3,3,3,35,3,3,52,4,4,4,68,241,241,241,241,241,241,241,241,241,241,241]
def gAcc:List UInt8:=[128,191,160,191,128,159,144,191,128,143,0,0,0,0,0,0,0,0,0,0,0,0,0,0,0,0,0,0,0,0,0,0]
instance glbI:Glb:=⟨[(0,gFirst),(1,gAcc)]⟩
def Zbl (x:(List UInt8)):(Option Bool):=(some (iGt (lLen x) 1048576))
def Zcx (x:(List UInt8)):(Int×Int)->Option ((Int×Int) ⊕ (Int ⊕ Int)):=fun (z1:(Int×Int))=>(cnd (iLt z1.2 (lLen x)) (cnd (iLt z1.2 4000) (bnd
 (idx x z1.2) (fun z2=>(some (.inl ((iAnd .i64 (iAdd .i64 (iAdd .i64 (iMul .i64 z1.1 137) (iConv .i64 (y2i z2))) 11) 1073741823),(iAdd .i64 z1.2 1)))))) (some (.inr
 (.inl z1.1)))) (some (.inr (.inl z1.1))))
def Zo (x:(List UInt8)):(Option Int):=(joinX (loopX (Zcx x) ((iAdd .i64 953953 (lLen x)),0)) (fun (z1:Int)=>(some z1)))
def Zz (x:((List UInt8)×(Int×Int))):(Option (Int×(Int×Int))):=(joinX (cnd (iLt x.2.1 (lLen x.1)) (bnd (idx x.1 x.2.1) (fun z1=>(some
 (.inl ((iAdd .i64 x.2.1 1),(iAnd .i64 (iAdd .i64 (iAnd .i64 (iXor .i64 (iShr .i64 (iAdd .i64 (iMul .i64 x.2.2 6364136223846793005) 1442695040888963407) 33) (iShr .i64 (iAdd .i64
 (iMul .i64 x.2.2 6364136223846793005) 1442695040888963407) 47)) 255) (iConv .i64 (y2i z1))) 255)))))) (some (.inl (x.2.1,(iAnd .i64 (iXor .i64 (iShr .i64 (iAdd .i64 (iMul .i64
 x.2.2 6364136223846793005) 1442695040888963407) 33) (iShr .i64 (iAdd .i64 (iMul .i64 x.2.2 6364136223846793005) 1442695040888963407) 47)) 255))))) (fun (z1:(Int×Int)) =>
 (some (z1.2,(z1.1,(iAdd .i64 (iMul .i64 x.2.2 6364136223846793005) 1442695040888963407))))))
def Zc (x:(((List UInt8)×(Int×Int))×Int)):(Option (Int×(Int×Int))):=(cnd (iLe x.2 0) (some (0,(x.1.2.1,x.1.2.2))) (cnd (iLe x.2 256) (bnd
 (Zz (x.1.1,(x.1.2.1,x.1.2.2))) (fun z1=>(chk (iNe x.2 0) (some ((iRem z1.1 x.2),(z1.2.1,z1.2.2)))))) (bnd (Zz (x.1.1,(x.1.2.1,
 x.1.2.2))) (fun z1=>(bnd (Zz (x.1.1,(z1.2.1,z1.2.2))) (fun z2=>(bnd (Zz (x.1.1,(z2.2.1,z2.2.2))) (fun z3=>(chk (iNe x.2 0) (some ((iRem (iAdd .i64 (iAdd .i64 (iMul .i64 z1.1 65536) (iMul .i64 z2.1 256)) z3.1) x.2),(z3.2.1,z3.2.2))))))))))))
def Zcy (x:((List UInt8)×(Int×Int))):(Option (Int×(Int×Int))):=(bnd (Zc ((x.1,(x.2.1,x.2.2)),5)) (fun z1 =>
 (some ((iAdd .i64 1 z1.1),(z1.2.1,z1.2.2)))))
def Zbt (x:(((List UInt8)×(Int×Int))×(List (List UInt8)))):(Option ((List UInt8)×(Int×Int))):=(bnd (Zc ((x.1.1,(x.1.2.1,x.1.2.2)),
 (lLen x.2))) (fun z1=>(bnd (idx x.2 z1.1) (fun z2=>(some (z2,(z1.2.1,z1.2.2)))))))
def Zbm (x:((List UInt8)×(Int×Int))):(Option ((List UInt8)×(Int×Int))):=(bnd (Zbt ((x.1,(x.2.1,x.2.2)),[[97],[98],[99],[100],[101,
 53]])) (fun z1=>(some (z1.1,(z1.2.1,z1.2.2)))))
def Zf (x:(((List UInt8)×(Int×Int))×(List Int))):(Option (Int×(Int×Int))):=(bnd (Zc ((x.1.1,(x.1.2.1,x.1.2.2)),(lLen x.2))) (fun
 z1=>(bnd (idx x.2 z1.1) (fun z2=>(some (z2,(z1.2.1,z1.2.2)))))))
def Zcz (x:((List UInt8)×(Int×Int))):(Option (Int×(Int×Int))):=(bnd (Zf ((x.1,(x.2.1,x.2.2)),[0,97,90,127,128,164,233,2047,
 2048,8364,1072,1102,1025,12354,12450,352,65535,65536,1114111])) (fun z1=>(some (z1.1,(z1.2.1,z1.2.2)))))
def Zb (x:(Int×(Int×Int))):(Option Bool):=(cnd (iGe x.1 x.2.1) (some (iLe x.1 x.2.2)) (some false))
def Zgc (x:Int):(Option Int):=(cnd (iEq x 164) (some 8364) (cnd (iEq x 166) (some 352) (cnd (iEq x 168) (some 353) (cnd (iEq x 180) (some 381) (cnd (iEq
 x 184) (some 382) (cnd (iEq x 188) (some 338) (cnd (iEq x 189) (some 339) (cnd (iEq x 190) (some 376) (some x)))))))))
def Zgd (x:Int):(Option Int):=(cnd (iGe x 224) (bnd (idx [1102,1072,1073,1094,1076,1077,1092,1075,1093,1080,1081,1082,1083,1084,1085,1086,
 1087,1103,1088,1089,1090,1091,1078,1074,1100,1099,1079,1096,1101,1097,1095,1098] (iSub .i64 x 224)) (fun z1=>(some (iSub .i64 z1 32)))) (cnd (iGe x 192)
 (bnd (idx [1102,1072,1073,1094,1076,1077,1092,1075,1093,1080,1081,1082,1083,1084,1085,1086,1087,1103,1088,1089,1090,1091,1078,1074,1100,1099,1079,1096,
 1101,1097,1095,1098] (iSub .i64 x 192)) (fun z1=>(some z1))) (cnd (iEq x 163) (some 1105) (cnd (iEq x 179) (some 1025) (some (-1))))))
def Zge (x:Int):(Option Int):=(cnd (iGe x 160) (some x) (bnd (idx [8364,(-1),8218,402,8222,8230,8224,8225,710,8240,352,8249,338,(-1),381,
 (-1),(-1),8216,8217,8220,8221,8226,8211,8212,732,8482,353,8250,339,(-1),382,376] (iSub .i64 x 128)) (fun z1=>(some z1))))
def Zl (x:(Int×Int)):(Option (Int×Bool)):=(bnd (Zb (x.1,(1,4))) (fun z1=>(cnd (bNot z1) (some (0,false)) (bnd (Zb (x.2,
 (0,255))) (fun z2=>(cnd (bNot z2) (some (0,false)) (joinX (cnd (iGe x.2 128) (cnd (iEq x.1 2) (bnd (Zgc x.2) (fun z3=>(some (.inl z3)))) (cnd (iEq
 x.1 3) (bnd (Zgd x.2) (fun z3=>(some (.inl z3)))) (cnd (iEq x.1 4) (bnd (Zge x.2) (fun z3=>(some (.inl z3)))) (some (.inl x.2))))) (some (.inl
 x.2))) (fun (z3:Int)=>(cnd (iLt z3 0) (some (0,false)) (some (z3,true)))))))))))
def Zda (x:(((List UInt8)×(Int×Int))×Int)):(Option (Int×(Int×Int))):=(cnd (iEq x.2 0) (bnd (Zcz (x.1.1,(x.1.2.1,x.1.2.2))) (fun z1=>(some (z1.1,(z1.2.1,z1.2.2))))) (cnd (iEq x.2 5) (bnd (Zf ((x.1.1,(x.1.2.1,x.1.2.2)),[97,32,12353,12435,12449,12534,12354])) (fun z1=>(some (z1.1,(z1.2.1,z1.2.2))))) (bnd (Zf ((x.1.1,(x.1.2.1,x.1.2.2)),[65,97,32,164,192,200,228,255,163,128,130,189])) (fun z1=>(bnd (Zl (x.2,z1.1)) (fun z2=>(cnd (bNot z2.2) (some (120,(z1.2.1,z1.2.2))) (some (z2.1,(z1.2.1,z1.2.2))))))))))
def Zba (x:Int):(Option Bool):=(bnd (Zb (x,(0,1114111))) (fun z1=>(cnd z1 (bnd (Zb (x,(55296,57343))) (fun z2 =>
 (some (bNot z2)))) (some false))))
def Zp (x:((List UInt8)×Int)):(Option (List UInt8)):=(chk (room (0+x.1.length) 1) (bnd (Zba x.2) (fun z1=>(cnd (bNot z1) (some
 (lApp [] x.1)) (cnd (iLe x.2 127) (chk (room ((lApp [] x.1).length+1) 1) (some (lApp (lApp [] x.1) [(u8 (iConv .u8 x.2))]))) (cnd (iLe x.2 2047) (chk (room ((lApp []
 x.1).length+2) 1) (some (lApp (lApp [] x.1) [(u8 (iConv .u8 (iOr .i64 192 (iShr .i64 x.2 6)))),(u8 (iConv .u8 (iOr .i64 128 (iAnd .i64 x.2 63))))]))) (cnd (iLe x.2 65535) (chk
 (room ((lApp [] x.1).length+3) 1) (some (lApp (lApp [] x.1) [(u8 (iConv .u8 (iOr .i64 224 (iShr .i64 x.2 12)))),(u8 (iConv .u8 (iOr .i64 128 (iAnd .i64 (iShr .i64 x.2 6)
 63)))),(u8 (iConv .u8 (iOr .i64 128 (iAnd .i64 x.2 63))))]))) (chk (room ((lApp [] x.1).length+4) 1) (some (lApp (lApp [] x.1) [(u8 (iConv .u8 (iOr .i64 240 (iShr .i64 x.2
 18)))),(u8 (iConv .u8 (iOr .i64 128 (iAnd .i64 (iShr .i64 x.2 12) 63)))),(u8 (iConv .u8 (iOr .i64 128 (iAnd .i64 (iShr .i64 x.2 6) 63)))),(u8 (iConv .u8 (iOr .i64 128 (iAnd
 .i64 x.2 63))))]))))))))))
def Zdb (x:(((List UInt8)×(Int×Int))×(Int×Int))):(Int×(Int×((List UInt8)×Int)))->Option ((Int×(Int×((List UInt8)×Int))) ⊕ ((Int ×
 (Int×(List UInt8))) ⊕ ((List UInt8)×(Int×Int)))):=fun (z2:(Int×(Int×((List UInt8)×Int))))=>(cnd (iGt z2.2.2.2 0) (bnd (Zda ((x.1.1,(z2.1,z2.2.1)),
 x.2.1)) (fun z3=>(bnd (Zp (z2.2.2.1,z3.1)) (fun z4=>(some (.inl (z3.2.1,(z3.2.2,(z4,(iSub .i64 z2.2.2.2 1))))))))))
 (some (.inr (.inl (z2.1,(z2.2.1,z2.2.2.1))))))
def Zbb (x:(((List UInt8)×(Int×Int))×(Int×Int))):(Option ((List UInt8)×(Int×Int))):=(joinX (bnd (Zc ((x.1.1,(x.1.2.1,x.1.2.2)),
 (iAdd .i64 x.2.2 1))) (fun z1=>(loopX (Zdb x) (z1.2.1,(z1.2.2,([],z1.1)))))) (fun (z1:(Int×(Int×(List UInt8))))=>(some (z1.2.2,
 (z1.1,z1.2.1)))))
def Zdc (x:UInt8):(Option Int):=(cnd (iLt (y2i x) (y2i (u8 128))) (some 1) (bnd (Zb ((iConv .i64 (y2i x)),(194,223))) (fun z1=>(cnd z1
 (some 2) (bnd (Zb ((iConv .i64 (y2i x)),(224,239))) (fun z2=>(cnd z2 (some 3) (bnd (Zb ((iConv .i64 (y2i x)),(240,244))) (fun z3=>(cnd z3
 (some 4) (some 0)))))))))))
def Zq (x:((List UInt8)×Int)) (z3:Int):(Int×Int)->Option ((Int×Int) ⊕ (Int ⊕ (Int×(Int×Bool)))):=fun (z6:(Int×Int))=>(cnd (iLt
 z6.2 z3) (bnd (idx x.1 (iAdd .i64 x.2 z6.2)) (fun z7=>(cnd (iNe (y2i (u8 (iAnd .u8 (y2i z7) (y2i (u8 192))))) (y2i (u8 128))) (some (.inr (.inr (0,(0,false)))))
 (bnd (idx x.1 (iAdd .i64 x.2 z6.2)) (fun z8=>(some (.inl ((iOr .i64 (iShl .i64 z6.1 6) (iConv .i64 (y2i (u8 (iAnd .u8 (y2i z8) (y2i (u8 63))))))),(iAdd .i64 z6.2
 1))))))))) (some (.inr (.inl z6.1))))
def Zbu (x:((List UInt8)×Int)):(Option (Int×(Int×Bool))):=(bnd (Zb (x.2,(0,(iSub .i64 (lLen x.1) 1)))) (fun z1=>(cnd (bNot z1)
 (some (0,(0,false))) (bnd (idx x.1 x.2) (fun z2=>(bnd (Zdc z2) (fun z3=>(cnd (iEq z3 0) (some (0,(0,false))) (cnd (iGt z3 (iSub .i64 (lLen x.1)
 x.2)) (some (0,(0,false))) (bnd (idx x.1 x.2) (fun z4=>(joinX (cnd (iGt z3 1) (chk (iLe 0 (iConv .u64 z3)) (some (.inl (iAnd .i64 (iConv .i64 (y2i z4)) (iShr .i64
 127 (iConv .u64 z3)))))) (some (.inl (iConv .i64 (y2i z4))))) (fun (z5:Int)=>(joinX (loopX (Zq x z3) (z5,1)) (fun (z6:Int)=>(bnd (Zba z6) (fun z7=>(cnd (bNot z7) (some (0,(0,false))) (bnd (Zp ([],z6)) (fun z8=>(chk (within x.2 (iAdd .i64 x.2 z3) (lLen x.1)) (cnd (bNot (sEq z8 (lTake
 ((nOf (iAdd .i64 x.2 z3))-(nOf x.2)) (lDrop (nOf x.2) x.1)))) (some (0,(0,false))) (some (z6,((iAdd .i64 x.2 z3),true)))))))))))))))))))))))))
def Zff (x:(List UInt8)):((List Int)×Int)->Option (((List Int)×Int) ⊕ ((List Int) ⊕ ((List Int)×Bool))):=fun (z1:((List Int)×Int))=>(cnd
 (iLt z1.2 (lLen x)) (bnd (Zbu (x,z1.2)) (fun z2=>(cnd (bNot z2.2.2) (some (.inr (.inr ([],false)))) (chk (room (z1.1.length+1) 8) (some
 (.inl ((lApp z1.1 [z2.1]),z2.2.1))))))) (some (.inr (.inl z1.1))))
def Zdd (x:(List UInt8)):(Option ((List Int)×Bool)):=(joinX (loopX (Zff x) ([],0)) (fun (z1:(List Int))=>(some (z1,true))))
def Zbc (x:Int):(Option Bool):=(bnd (Zb (x,(0,5))) (fun z1=>(some z1)))
def Zfg (x:Int):(Option (Int×(Int×Bool))):=(bnd (Zb (x,(12353,12435))) (fun z1=>(cnd z1 (some (164,((iAdd .i64 (iSub .i64 x
 12353) 161),true))) (bnd (Zb (x,(12449,12534))) (fun z2=>(cnd z2 (some (165,((iAdd .i64 (iSub .i64 x 12449) 161),true))) (some (0,(0,false)))))))))
def Zbv (x:((List UInt8)×Int)):(Option ((List UInt8)×Bool)):=(chk (room (0+x.1.length) 1) (bnd (Zb (x.2,(0,127))) (fun z1=>(cnd
 z1 (chk (room ((lApp [] x.1).length+1) 1) (some ((lApp (lApp [] x.1) [(u8 (iConv .u8 x.2))]),true))) (bnd (Zfg x.2) (fun z2=>(cnd (bNot
 z2.2.2) (some ((lApp [] x.1),false)) (chk (room ((lApp [] x.1).length+2) 1) (some ((lApp (lApp [] x.1) [(u8 (iConv .u8 z2.1)),(u8 (iConv .u8 z2.2.1))]),true))))))))))
def Zgf (x:(Int×Int)):(Int)->Option ((Int) ⊕ (Unit ⊕ (Int×Bool))):=fun (z1:Int)=>(cnd (iLt z1 256) (bnd (Zl (x.1,z1)) (fun z2=>(cnd z2.2 (cnd (iEq z2.1 x.2) (some (.inr (.inr (z1,true)))) (some (.inl (iAdd .i64 z1 1)))) (some (.inl (iAdd .i64 z1 1)))))) (some (.inr (.inl ()))))
def Zde (x:(Int×Int)):(Option (Int×Bool)):=(joinX (loopX (Zgf x) 0) (fun (z1:Unit)=>(some (0,false))))
def Zbw (x:(Int×((List UInt8)×Int))):(Option ((List UInt8)×Bool)):=(cnd (iEq x.1 0) (bnd (Zp (x.2.1,x.2.2)) (fun z1 =>
 (bnd (Zba x.2.2) (fun z2=>(some (z1,z2)))))) (cnd (iEq x.1 5) (bnd (Zbv (x.2.1,x.2.2)) (fun z1=>(some (z1.1,z1.2)))) (bnd
 (Zde (x.1,x.2.2)) (fun z1=>(cnd (bNot z1.2) (chk (room (0+x.2.1.length) 1) (some ((lApp [] x.2.1),false))) (chk (room (0+x.2.1.length) 1) (chk
 (room ((lApp [] x.2.1).length+1) 1) (some ((lApp (lApp [] x.2.1) [(u8 (iConv .u8 z1.1))]),true)))))))))
def Zfh (x:(Int×(List UInt8))) (z1:((List Int)×Bool)):((List UInt8)×Int)->Option (((List UInt8)×Int) ⊕ ((List UInt8) ⊕ ((List UInt8)×Bool)))
 := fun (z3:((List UInt8)×Int))=>(cnd (iLt z3.2 (lLen z1.1)) (bnd (idx z1.1 z3.2) (fun z4=>(bnd (Zbw (x.1,(z3.1,z4))) (fun z5 =>
 (cnd (bNot z5.2) (some (.inr (.inr ([],false)))) (some (.inl (z5.1,(iAdd .i64 z3.2 1))))))))) (some (.inr (.inl z3.1))))
def Zbx (x:(Int×(List UInt8))):(Option ((List UInt8)×Bool)):=(bnd (Zdd x.2) (fun z1=>(bnd (Zbc x.1) (fun z2=>(cnd (bNot z2) (some ([],false)) (cnd (bNot z1.2) (some ([],false)) (joinX (loopX (Zfh x z1) ([],0)) (fun (z3:(List UInt8))=>(some (z3,true))))))))))
def Zbd (x:(Int×(List UInt8))):(Option ((Int×(List UInt8))×Bool)):=(bnd (Zbx (x.1,x.2)) (fun z1=>(cnd (bNot
 z1.2) (some ((0,[]),false)) (cnd (iGt (lLen z1.1) 20) (some ((0,[]),false)) (some ((x.1,z1.1),true))))))
def Zby (x:(List UInt8)):(Int)->Option ((Int) ⊕ (Unit ⊕ Bool)):=fun (z1:Int)=>(cnd (iLt z1 (lLen x)) (bnd (idx x z1) (fun z2=>(bnd
 (Zb ((iConv .i64 (y2i z2)),(97,122))) (fun z3=>(cnd (bNot z3) (bnd (idx x z1) (fun z4=>(bnd (Zb ((iConv .i64 (y2i z4)),(48,57))) (fun z5=>(cnd (bNot z5) (some (.inr (.inr false))) (some (.inl (iAdd .i64 z1 1)))))))) (some (.inl (iAdd .i64 z1 1)))))))) (some (.inr (.inl ()))))
def Zbe (x:(List UInt8)):(Option Bool):=(joinX (loopX (Zby x) 0) (fun (z1:Unit)=>(bnd (Zb ((lLen x),(1,6))) (fun z2 =>
 (some z2)))))
def Zbn (x:(Int×((List UInt8)×(Int×(List UInt8))))):(Option (((List UInt8)×((Int×(List UInt8))×((Int×(List UInt8))×(Int×Bool))))×Int))
 := (bnd (Zbd (0,x.2.2.2)) (fun z1=>(bnd (Zb (x.1,(0,7))) (fun z2=>(cnd (bNot z2) (some (([],((0,[]),((0,[]),
 (0,false)))),1)) (bnd (Zbe x.2.1) (fun z3=>(cnd (bNot z3) (some (([],((0,[]),((0,[]),(0,false)))),1)) (bnd (Zb (x.2.2.1,(1,5))) (fun z4=>(cnd (bNot z4) (some (([],((0,[]),((0,[]),(0,false)))),1)) (cnd (bNot z1.2) (some (([],((0,[]),((0,[]),(0,false)))),1)) (bnd (Zbd (x.2.2.1,
 x.2.2.2)) (fun z5=>(joinX (joinX (cnd (iEq x.1 0) (some (.inl true)) (some (.inl (iEq x.1 7)))) (fun (z6:Bool)=>(cnd z6 (cnd (bNot z5.2)
 (some (.inr (([],((0,[]),((0,[]),(0,false)))),3))) (some (.inr ((x.2.1,((z5.1.1,z5.1.2),((0,[]),(1,false)))),0)))) (joinX (cnd (iEq x.1 4) (some (.inl true)) (some
 (.inl (iEq x.1 5)))) (fun (z7:Bool)=>(cnd z7 (some (.inr ((x.2.1,((0,[]),((z1.1.1,z1.1.2),(2,false)))),0))) (cnd (iEq x.1 6) (cnd z5.2 (some (.inr ((x.2.1,((z5.1.1,
 z5.1.2),((0,[]),(1,false)))),0))) (some (.inr ((x.2.1,((0,[]),((z1.1.1,z1.1.2),(2,true)))),0)))) (some (.inl ([],(0,([],(0,([],(0,false))))))))))))))) (fun (z6
 : ((List UInt8)×(Int×((List UInt8)×(Int×((List UInt8)×(Int×Bool)))))))=>(cnd (bNot z5.2) (some ((x.2.1,((0,[]),((z1.1.1,z1.1.2),(2,true)))),0)) (some
 ((x.2.1,((z5.1.1,z5.1.2),((z1.1.1,z1.1.2),(3,false)))),0)))))))))))))))))))
def Zr (x:(Int×(List UInt8))):(Option (Int×(List UInt8))):=(chk (room (0+x.2.length) 1) (some (x.1,(lApp [] x.2))))
def Zh (x:((List UInt8)×((Int×(List UInt8))×((Int×(List UInt8))×(Int×Bool))))):(Option ((List UInt8)×((Int×(List UInt8))×((Int×(List
 UInt8))×(Int×Bool))))):=(bnd (Zr (x.2.1.1,x.2.1.2)) (fun z1=>(bnd (Zr (x.2.2.1.1,x.2.2.1.2)) (fun z2
 => (some (x.1,((z1.1,z1.2),((z2.1,z2.2),(x.2.2.2.1,x.2.2.2.2)))))))))
def Ze (x:((List UInt8)×((Int×(List UInt8))×((Int×(List UInt8))×(Int×Bool))))):(Option Bool):=(some (iEq (iAnd .i64 x.2.2.2.1 1) 1))
def Zu (x:(Int×(List UInt8))):(Option Bool):=(cnd (iEq x.1 0) (some (iEq (lLen x.2) 0)) (some false))
def Zd (x:((List UInt8)×((Int×(List UInt8))×((Int×(List UInt8))×(Int×Bool))))):(Option Bool):=(some (iEq (iAnd .i64 x.2.2.2.1 2) 2))
def Zs (x:(Int×(List UInt8))):(Option Bool):=(bnd (Zbc x.1) (fun z1=>(cnd z1 (some (iLe (lLen x.2) 20)) (some false))))
def Zdf (x:(Int×Int)):(Option (Int×Bool)):=(cnd (iEq x.1 164) (bnd (Zb (x.2,(161,243))) (fun z1=>(cnd z1 (some ((iSub .i64 (iAdd
 .i64 12353 x.2) 161),true)) (cnd (iEq x.1 165) (bnd (Zb (x.2,(161,246))) (fun z2=>(cnd z2 (some ((iSub .i64 (iAdd .i64 12449 x.2) 161),true)) (some (0,
 false))))) (some (0,false)))))) (cnd (iEq x.1 165) (bnd (Zb (x.2,(161,246))) (fun z1=>(cnd z1 (some ((iSub .i64 (iAdd .i64 12449 x.2) 161),true)) (some (0,
 false))))) (some (0,false))))
def Zdg (x:((List UInt8)×Int)):(Option (Int×(Int×Bool))):=(bnd (Zb (x.2,(0,(iSub .i64 (lLen x.1) 1)))) (fun z1=>(cnd (bNot z1)
 (some (0,(0,false))) (bnd (idx x.1 x.2) (fun z2=>(cnd (iLt (y2i z2) (y2i (u8 128))) (bnd (idx x.1 x.2) (fun z3=>(some ((iConv .i64 (y2i z3)),((iAdd
 .i64 x.2 1),true))))) (cnd (iGe (iAdd .i64 x.2 1) (lLen x.1)) (some (0,(0,false))) (bnd (idx x.1 x.2) (fun z3=>(bnd (idx x.1 (iAdd .i64 x.2 1)) (fun z4
 => (bnd (Zdf ((iConv .i64 (y2i z3)),(iConv .i64 (y2i z4)))) (fun z5=>(cnd (bNot z5.2) (some (0,(0,false))) (some (z5.1,((iAdd .i64 x.2 2),
 true)))))))))))))))))
def Zdh (x:(Int×((List UInt8)×Int))):(Option (Int×(Int×Bool))):=(cnd (iEq x.1 0) (bnd (Zbu (x.2.1,x.2.2)) (fun z1=>(some (z1.1,(z1.2.1,z1.2.2))))) (cnd (iEq x.1 5) (bnd (Zdg (x.2.1,x.2.2)) (fun z1=>(some (z1.1,(z1.2.1,z1.2.2))))) (bnd (idx
 x.2.1 x.2.2) (fun z1=>(bnd (Zl (x.1,(iConv .i64 (y2i z1)))) (fun z2=>(some (z2.1,((iAdd .i64 x.2.2 1),z2.2)))))))))
def Zfi (x:(Int×(List UInt8))):((List UInt8)×Int)->Option (((List UInt8)×Int) ⊕ ((List UInt8) ⊕ ((List UInt8)×Bool))):=fun (z2:((List UInt8)
 × Int))=>(cnd (iLt z2.2 (lLen x.2)) (bnd (Zdh (x.1,(x.2,z2.2))) (fun z3=>(cnd (bNot z3.2.2) (some (.inr (.inr ([],false)))) (bnd
 (Zp (z2.1,z3.1)) (fun z4=>(some (.inl (z4,z3.2.1)))))))) (some (.inr (.inl z2.1))))
def Zdi (x:(Int×(List UInt8))):(Option ((List UInt8)×Bool)):=(bnd (Zbc x.1) (fun z1=>(cnd (bNot z1) (some ([],false)) (joinX (loopX
 (Zfi x) ([],0)) (fun (z2:(List UInt8))=>(some (z2,true)))))))
def Zi (x:(Int×(List UInt8))):(Option ((List UInt8)×Bool)):=(bnd (Zs (x.1,x.2)) (fun z1=>(cnd (bNot z1) (some ([],false))
 (bnd (Zdi (x.1,x.2)) (fun z2=>(some (z2.1,z2.2)))))))
def Za (x:((Int×(List UInt8))×(Int×(List UInt8)))):(Option Bool):=(bnd (Zi (x.1.1,x.1.2)) (fun z1=>(bnd
 (Zi (x.2.1,x.2.2)) (fun z2=>(cnd z1.2 (cnd z2.2 (some (sEq z1.1 z2.1)) (some false)) (some false))))))
def Zm (x:((List UInt8)×((Int×(List UInt8))×((Int×(List UInt8))×(Int×Bool))))):(Option Bool):=(bnd (Zbe x.1) (fun z1=>(cnd
 (bNot z1) (some false) (bnd (Zb (x.2.2.2.1,(1,3))) (fun z2=>(cnd (bNot z2) (some false) (bnd (Ze (x.1,((x.2.1.1,x.2.1.2),((x.2.2.1.1,x.2.2.1.2),
 (x.2.2.2.1,x.2.2.2.2))))) (fun z3=>(cnd (bNot z3) (bnd (Zu (x.2.1.1,x.2.1.2)) (fun z4=>(cnd (bNot z4) (some false) (bnd (Zd (x.1,
 ((x.2.1.1,x.2.1.2),((x.2.2.1.1,x.2.2.1.2),(x.2.2.2.1,x.2.2.2.2))))) (fun z5=>(cnd (bNot z5) (bnd (Zu (x.2.2.1.1,x.2.2.1.2)) (fun z6=>(cnd
 (bNot z6) (some false) (bnd (Zi (x.2.1.1,x.2.1.2)) (fun z7=>(bnd (Zi (x.2.2.1.1,x.2.2.1.2)) (fun z8 =>
 (bnd (Ze (x.1,((x.2.1.1,x.2.1.2),((x.2.2.1.1,x.2.2.1.2),(x.2.2.2.1,x.2.2.2.2))))) (fun z9=>(cnd z9 (bnd (Zb (x.2.1.1,(1,5))) (fun z10 =>
 (cnd (bNot z10) (some false) (bnd (Zs (x.2.1.1,x.2.1.2)) (fun z11=>(cnd (bNot z11) (some false) (bnd (Zd (x.1,((x.2.1.1,x.2.1.2),((x.2.2.1.1,
 x.2.2.1.2),(x.2.2.2.1,x.2.2.2.2))))) (fun z12=>(cnd z12 (cnd (iNe x.2.2.1.1 0) (some false) (cnd (bNot z8.2) (some false) (bnd (Ze (x.1,((x.2.1.1,x.2.1.2),
 ((x.2.2.1.1,x.2.2.1.2),(x.2.2.2.1,x.2.2.2.2))))) (fun z13=>(cnd z13 (cnd (bNot z7.2) (cnd (bNot x.2.2.2.2) (some false) (bnd (Zd (x.1,((x.2.1.1,x.2.1.2),
 ((x.2.2.1.1,x.2.2.1.2),(x.2.2.2.1,x.2.2.2.2))))) (fun z14=>(cnd z14 (some false) (cnd (iNe x.2.2.2.1 3) (some true) (bnd (Za ((x.2.1.1,x.2.1.2),
 (x.2.2.1.1,x.2.2.1.2))) (fun z15=>(some z15)))))))) (cnd (iNe x.2.2.2.1 3) (some true) (bnd (Za ((x.2.1.1,x.2.1.2),(x.2.2.1.1,x.2.2.1.2))) (fun z14=>(some z14))))) (cnd (iNe x.2.2.2.1 3) (some true) (bnd (Za ((x.2.1.1,x.2.1.2),(x.2.2.1.1,x.2.2.1.2))) (fun z14=>(some z14))))))))) (bnd
 (Ze (x.1,((x.2.1.1,x.2.1.2),((x.2.2.1.1,x.2.2.1.2),(x.2.2.2.1,x.2.2.2.2))))) (fun z13=>(cnd z13 (cnd (bNot z7.2) (cnd (bNot x.2.2.2.2) (some false) (bnd
 (Zd (x.1,((x.2.1.1,x.2.1.2),((x.2.2.1.1,x.2.2.1.2),(x.2.2.2.1,x.2.2.2.2))))) (fun z14=>(cnd z14 (some false) (cnd (iNe x.2.2.2.1 3) (some true) (bnd
 (Za ((x.2.1.1,x.2.1.2),(x.2.2.1.1,x.2.2.1.2))) (fun z15=>(some z15)))))))) (cnd (iNe x.2.2.2.1 3) (some true) (bnd (Za ((x.2.1.1,x.2.1.2),
 (x.2.2.1.1,x.2.2.1.2))) (fun z14=>(some z14))))) (cnd (iNe x.2.2.2.1 3) (some true) (bnd (Za ((x.2.1.1,x.2.1.2),(x.2.2.1.1,x.2.2.1.2))) (fun z14
 => (some z14)))))))))))))))) (bnd (Zd (x.1,((x.2.1.1,x.2.1.2),((x.2.2.1.1,x.2.2.1.2),(x.2.2.2.1,x.2.2.2.2))))) (fun z10=>(cnd z10 (cnd (iNe x.2.2.1.1 0)
 (some false) (cnd (bNot z8.2) (some false) (bnd (Ze (x.1,((x.2.1.1,x.2.1.2),((x.2.2.1.1,x.2.2.1.2),(x.2.2.2.1,x.2.2.2.2))))) (fun z11=>(cnd z11 (cnd (bNot
 z7.2) (cnd (bNot x.2.2.2.2) (some false) (bnd (Zd (x.1,((x.2.1.1,x.2.1.2),((x.2.2.1.1,x.2.2.1.2),(x.2.2.2.1,x.2.2.2.2))))) (fun z12=>(cnd z12 (some false)
 (cnd (iNe x.2.2.2.1 3) (some true) (bnd (Za ((x.2.1.1,x.2.1.2),(x.2.2.1.1,x.2.2.1.2))) (fun z13=>(some z13)))))))) (cnd (iNe x.2.2.2.1 3) (some true) (bnd
 (Za ((x.2.1.1,x.2.1.2),(x.2.2.1.1,x.2.2.1.2))) (fun z12=>(some z12))))) (cnd (iNe x.2.2.2.1 3) (some true) (bnd (Za ((x.2.1.1,x.2.1.2),
 (x.2.2.1.1,x.2.2.1.2))) (fun z12=>(some z12))))))))) (bnd (Ze (x.1,((x.2.1.1,x.2.1.2),((x.2.2.1.1,x.2.2.1.2),(x.2.2.2.1,x.2.2.2.2))))) (fun z11
 => (cnd z11 (cnd (bNot z7.2) (cnd (bNot x.2.2.2.2) (some false) (bnd (Zd (x.1,((x.2.1.1,x.2.1.2),((x.2.2.1.1,x.2.2.1.2),(x.2.2.2.1,x.2.2.2.2))))) (fun z12
 => (cnd z12 (some false) (cnd (iNe x.2.2.2.1 3) (some true) (bnd (Za ((x.2.1.1,x.2.1.2),(x.2.2.1.1,x.2.2.1.2))) (fun z13=>(some z13)))))))) (cnd (iNe
 x.2.2.2.1 3) (some true) (bnd (Za ((x.2.1.1,x.2.1.2),(x.2.2.1.1,x.2.2.1.2))) (fun z12=>(some z12))))) (cnd (iNe x.2.2.2.1 3) (some true) (bnd
 (Za ((x.2.1.1,x.2.1.2),(x.2.2.1.1,x.2.2.1.2))) (fun z12=>(some z12)))))))))))))))))))) (bnd (Zi (x.2.1.1,x.2.1.2)) (fun z6=>(bnd (Zi (x.2.2.1.1,x.2.2.1.2)) (fun z7=>(bnd (Ze (x.1,((x.2.1.1,x.2.1.2),((x.2.2.1.1,x.2.2.1.2),(x.2.2.2.1,
 x.2.2.2.2))))) (fun z8=>(cnd z8 (bnd (Zb (x.2.1.1,(1,5))) (fun z9=>(cnd (bNot z9) (some false) (bnd (Zs (x.2.1.1,x.2.1.2)) (fun z10=>(cnd (bNot z10) (some false) (bnd (Zd (x.1,((x.2.1.1,x.2.1.2),((x.2.2.1.1,x.2.2.1.2),(x.2.2.2.1,x.2.2.2.2))))) (fun z11=>(cnd z11 (cnd (iNe
 x.2.2.1.1 0) (some false) (cnd (bNot z7.2) (some false) (bnd (Ze (x.1,((x.2.1.1,x.2.1.2),((x.2.2.1.1,x.2.2.1.2),(x.2.2.2.1,x.2.2.2.2))))) (fun z12=>(cnd
 z12 (cnd (bNot z6.2) (cnd (bNot x.2.2.2.2) (some false) (bnd (Zd (x.1,((x.2.1.1,x.2.1.2),((x.2.2.1.1,x.2.2.1.2),(x.2.2.2.1,x.2.2.2.2))))) (fun z13=>(cnd
 z13 (some false) (cnd (iNe x.2.2.2.1 3) (some true) (bnd (Za ((x.2.1.1,x.2.1.2),(x.2.2.1.1,x.2.2.1.2))) (fun z14=>(some z14)))))))) (cnd (iNe x.2.2.2.1 3)
 (some true) (bnd (Za ((x.2.1.1,x.2.1.2),(x.2.2.1.1,x.2.2.1.2))) (fun z13=>(some z13))))) (cnd (iNe x.2.2.2.1 3) (some true) (bnd (Za ((x.2.1.1,
 x.2.1.2),(x.2.2.1.1,x.2.2.1.2))) (fun z13=>(some z13))))))))) (bnd (Ze (x.1,((x.2.1.1,x.2.1.2),((x.2.2.1.1,x.2.2.1.2),(x.2.2.2.1,x.2.2.2.2))))) (fun
 z12=>(cnd z12 (cnd (bNot z6.2) (cnd (bNot x.2.2.2.2) (some false) (bnd (Zd (x.1,((x.2.1.1,x.2.1.2),((x.2.2.1.1,x.2.2.1.2),(x.2.2.2.1,x.2.2.2.2))))) (fun
 z13=>(cnd z13 (some false) (cnd (iNe x.2.2.2.1 3) (some true) (bnd (Za ((x.2.1.1,x.2.1.2),(x.2.2.1.1,x.2.2.1.2))) (fun z14=>(some z14))))))))
 (cnd (iNe x.2.2.2.1 3) (some true) (bnd (Za ((x.2.1.1,x.2.1.2),(x.2.2.1.1,x.2.2.1.2))) (fun z13=>(some z13))))) (cnd (iNe x.2.2.2.1 3) (some true) (bnd
 (Za ((x.2.1.1,x.2.1.2),(x.2.2.1.1,x.2.2.1.2))) (fun z13=>(some z13)))))))))))))))) (bnd (Zd (x.1,((x.2.1.1,x.2.1.2),((x.2.2.1.1,x.2.2.1.2),
 (x.2.2.2.1,x.2.2.2.2))))) (fun z9=>(cnd z9 (cnd (iNe x.2.2.1.1 0) (some false) (cnd (bNot z7.2) (some false) (bnd (Ze (x.1,((x.2.1.1,x.2.1.2),((x.2.2.1.1,
 x.2.2.1.2),(x.2.2.2.1,x.2.2.2.2))))) (fun z10=>(cnd z10 (cnd (bNot z6.2) (cnd (bNot x.2.2.2.2) (some false) (bnd (Zd (x.1,((x.2.1.1,x.2.1.2),((x.2.2.1.1,
 x.2.2.1.2),(x.2.2.2.1,x.2.2.2.2))))) (fun z11=>(cnd z11 (some false) (cnd (iNe x.2.2.2.1 3) (some true) (bnd (Za ((x.2.1.1,x.2.1.2),(x.2.2.1.1,
 x.2.2.1.2))) (fun z12=>(some z12)))))))) (cnd (iNe x.2.2.2.1 3) (some true) (bnd (Za ((x.2.1.1,x.2.1.2),(x.2.2.1.1,x.2.2.1.2))) (fun z11=>(some
 z11))))) (cnd (iNe x.2.2.2.1 3) (some true) (bnd (Za ((x.2.1.1,x.2.1.2),(x.2.2.1.1,x.2.2.1.2))) (fun z11=>(some z11))))))))) (bnd (Ze (x.1,
 ((x.2.1.1,x.2.1.2),((x.2.2.1.1,x.2.2.1.2),(x.2.2.2.1,x.2.2.2.2))))) (fun z10=>(cnd z10 (cnd (bNot z6.2) (cnd (bNot x.2.2.2.2) (some false) (bnd (Zd (x.1,
 ((x.2.1.1,x.2.1.2),((x.2.2.1.1,x.2.2.1.2),(x.2.2.2.1,x.2.2.2.2))))) (fun z11=>(cnd z11 (some false) (cnd (iNe x.2.2.2.1 3) (some true) (bnd (Za
 ((x.2.1.1,x.2.1.2),(x.2.2.1.1,x.2.2.1.2))) (fun z12=>(some z12)))))))) (cnd (iNe x.2.2.2.1 3) (some true) (bnd (Za ((x.2.1.1,x.2.1.2),(x.2.2.1.1,
 x.2.2.1.2))) (fun z11=>(some z11))))) (cnd (iNe x.2.2.2.1 3) (some true) (bnd (Za ((x.2.1.1,x.2.1.2),(x.2.2.1.1,x.2.2.1.2))) (fun z11=>(some
 z11))))))))))))))))))))))) (bnd (Zd (x.1,((x.2.1.1,x.2.1.2),((x.2.2.1.1,x.2.2.1.2),(x.2.2.2.1,x.2.2.2.2))))) (fun z4=>(cnd (bNot z4) (bnd (Zu
 (x.2.2.1.1,x.2.2.1.2)) (fun z5=>(cnd (bNot z5) (some false) (bnd (Zi (x.2.1.1,x.2.1.2)) (fun z6=>(bnd (Zi (x.2.2.1.1,
 x.2.2.1.2)) (fun z7=>(bnd (Ze (x.1,((x.2.1.1,x.2.1.2),((x.2.2.1.1,x.2.2.1.2),(x.2.2.2.1,x.2.2.2.2))))) (fun z8=>(cnd z8 (bnd
 (Zb (x.2.1.1,(1,5))) (fun z9=>(cnd (bNot z9) (some false) (bnd (Zs (x.2.1.1,x.2.1.2)) (fun z10=>(cnd (bNot z10) (some false) (bnd
 (Zd (x.1,((x.2.1.1,x.2.1.2),((x.2.2.1.1,x.2.2.1.2),(x.2.2.2.1,x.2.2.2.2))))) (fun z11=>(cnd z11 (cnd (iNe x.2.2.1.1 0) (some false) (cnd (bNot z7.2) (some
 false) (bnd (Ze (x.1,((x.2.1.1,x.2.1.2),((x.2.2.1.1,x.2.2.1.2),(x.2.2.2.1,x.2.2.2.2))))) (fun z12=>(cnd z12 (cnd (bNot z6.2) (cnd (bNot x.2.2.2.2) (some
 false) (bnd (Zd (x.1,((x.2.1.1,x.2.1.2),((x.2.2.1.1,x.2.2.1.2),(x.2.2.2.1,x.2.2.2.2))))) (fun z13=>(cnd z13 (some false) (cnd (iNe x.2.2.2.1 3) (some
 true) (bnd (Za ((x.2.1.1,x.2.1.2),(x.2.2.1.1,x.2.2.1.2))) (fun z14=>(some z14)))))))) (cnd (iNe x.2.2.2.1 3) (some true) (bnd (Za ((x.2.1.1,
 x.2.1.2),(x.2.2.1.1,x.2.2.1.2))) (fun z13=>(some z13))))) (cnd (iNe x.2.2.2.1 3) (some true) (bnd (Za ((x.2.1.1,x.2.1.2),(x.2.2.1.1,x.2.2.1.2))) (fun
 z13=>(some z13))))))))) (bnd (Ze (x.1,((x.2.1.1,x.2.1.2),((x.2.2.1.1,x.2.2.1.2),(x.2.2.2.1,x.2.2.2.2))))) (fun z12=>(cnd z12 (cnd (bNot z6.2)
 (cnd (bNot x.2.2.2.2) (some false) (bnd (Zd (x.1,((x.2.1.1,x.2.1.2),((x.2.2.1.1,x.2.2.1.2),(x.2.2.2.1,x.2.2.2.2))))) (fun z13=>(cnd z13 (some false) (cnd
 (iNe x.2.2.2.1 3) (some true) (bnd (Za ((x.2.1.1,x.2.1.2),(x.2.2.1.1,x.2.2.1.2))) (fun z14=>(some z14)))))))) (cnd (iNe x.2.2.2.1 3) (some true) (bnd
 (Za ((x.2.1.1,x.2.1.2),(x.2.2.1.1,x.2.2.1.2))) (fun z13=>(some z13))))) (cnd (iNe x.2.2.2.1 3) (some true) (bnd (Za ((x.2.1.1,x.2.1.2),
 (x.2.2.1.1,x.2.2.1.2))) (fun z13=>(some z13)))))))))))))))) (bnd (Zd (x.1,((x.2.1.1,x.2.1.2),((x.2.2.1.1,x.2.2.1.2),(x.2.2.2.1,x.2.2.2.2))))) (fun z9=>(cnd z9 (cnd (iNe x.2.2.1.1 0) (some false) (cnd (bNot z7.2) (some false) (bnd (Ze (x.1,((x.2.1.1,x.2.1.2),((x.2.2.1.1,x.2.2.1.2),(x.2.2.2.1,x.2.2.2.2)))))
 (fun z10=>(cnd z10 (cnd (bNot z6.2) (cnd (bNot x.2.2.2.2) (some false) (bnd (Zd (x.1,((x.2.1.1,x.2.1.2),((x.2.2.1.1,x.2.2.1.2),(x.2.2.2.1,x.2.2.2.2)))))
 (fun z11=>(cnd z11 (some false) (cnd (iNe x.2.2.2.1 3) (some true) (bnd (Za ((x.2.1.1,x.2.1.2),(x.2.2.1.1,x.2.2.1.2))) (fun z12=>(some
 z12)))))))) (cnd (iNe x.2.2.2.1 3) (some true) (bnd (Za ((x.2.1.1,x.2.1.2),(x.2.2.1.1,x.2.2.1.2))) (fun z11=>(some z11))))) (cnd (iNe x.2.2.2.1 3) (some
 true) (bnd (Za ((x.2.1.1,x.2.1.2),(x.2.2.1.1,x.2.2.1.2))) (fun z11=>(some z11))))))))) (bnd (Ze (x.1,((x.2.1.1,x.2.1.2),((x.2.2.1.1,x.2.2.1.2),
 (x.2.2.2.1,x.2.2.2.2))))) (fun z10=>(cnd z10 (cnd (bNot z6.2) (cnd (bNot x.2.2.2.2) (some false) (bnd (Zd (x.1,((x.2.1.1,x.2.1.2),((x.2.2.1.1,x.2.2.1.2),
 (x.2.2.2.1,x.2.2.2.2))))) (fun z11=>(cnd z11 (some false) (cnd (iNe x.2.2.2.1 3) (some true) (bnd (Za ((x.2.1.1,x.2.1.2),(x.2.2.1.1,x.2.2.1.2))) (fun
 z12=>(some z12)))))))) (cnd (iNe x.2.2.2.1 3) (some true) (bnd (Za ((x.2.1.1,x.2.1.2),(x.2.2.1.1,x.2.2.1.2))) (fun z11=>(some z11))))) (cnd
 (iNe x.2.2.2.1 3) (some true) (bnd (Za ((x.2.1.1,x.2.1.2),(x.2.2.1.1,x.2.2.1.2))) (fun z11=>(some z11)))))))))))))))))))) (bnd (Zi (x.2.1.1,
 x.2.1.2)) (fun z5=>(bnd (Zi (x.2.2.1.1,x.2.2.1.2)) (fun z6=>(bnd (Ze (x.1,((x.2.1.1,x.2.1.2),
 ((x.2.2.1.1,x.2.2.1.2),(x.2.2.2.1,x.2.2.2.2))))) (fun z7=>(cnd z7 (bnd (Zb (x.2.1.1,(1,5))) (fun z8=>(cnd (bNot z8) (some false) (bnd (Zs
 (x.2.1.1,x.2.1.2)) (fun z9=>(cnd (bNot z9) (some false) (bnd (Zd (x.1,((x.2.1.1,x.2.1.2),((x.2.2.1.1,x.2.2.1.2),(x.2.2.2.1,x.2.2.2.2))))) (fun z10=>(cnd z10 (cnd (iNe x.2.2.1.1 0) (some false) (cnd (bNot z6.2) (some false) (bnd (Ze (x.1,((x.2.1.1,x.2.1.2),((x.2.2.1.1,x.2.2.1.2),(x.2.2.2.1,x.2.2.2.2)))))
 (fun z11=>(cnd z11 (cnd (bNot z5.2) (cnd (bNot x.2.2.2.2) (some false) (bnd (Zd (x.1,((x.2.1.1,x.2.1.2),((x.2.2.1.1,x.2.2.1.2),(x.2.2.2.1,x.2.2.2.2)))))
 (fun z12=>(cnd z12 (some false) (cnd (iNe x.2.2.2.1 3) (some true) (bnd (Za ((x.2.1.1,x.2.1.2),(x.2.2.1.1,x.2.2.1.2))) (fun z13=>(some
 z13)))))))) (cnd (iNe x.2.2.2.1 3) (some true) (bnd (Za ((x.2.1.1,x.2.1.2),(x.2.2.1.1,x.2.2.1.2))) (fun z12=>(some z12))))) (cnd (iNe x.2.2.2.1 3) (some
 true) (bnd (Za ((x.2.1.1,x.2.1.2),(x.2.2.1.1,x.2.2.1.2))) (fun z12=>(some z12))))))))) (bnd (Ze (x.1,((x.2.1.1,x.2.1.2),((x.2.2.1.1,x.2.2.1.2),
 (x.2.2.2.1,x.2.2.2.2))))) (fun z11=>(cnd z11 (cnd (bNot z5.2) (cnd (bNot x.2.2.2.2) (some false) (bnd (Zd (x.1,((x.2.1.1,x.2.1.2),((x.2.2.1.1,x.2.2.1.2),
 (x.2.2.2.1,x.2.2.2.2))))) (fun z12=>(cnd z12 (some false) (cnd (iNe x.2.2.2.1 3) (some true) (bnd (Za ((x.2.1.1,x.2.1.2),(x.2.2.1.1,x.2.2.1.2))) (fun
 z13=>(some z13)))))))) (cnd (iNe x.2.2.2.1 3) (some true) (bnd (Za ((x.2.1.1,x.2.1.2),(x.2.2.1.1,x.2.2.1.2))) (fun z12=>(some z12))))) (cnd
 (iNe x.2.2.2.1 3) (some true) (bnd (Za ((x.2.1.1,x.2.1.2),(x.2.2.1.1,x.2.2.1.2))) (fun z12=>(some z12)))))))))))))))) (bnd (Zd (x.1,((x.2.1.1,
 x.2.1.2),((x.2.2.1.1,x.2.2.1.2),(x.2.2.2.1,x.2.2.2.2))))) (fun z8=>(cnd z8 (cnd (iNe x.2.2.1.1 0) (some false) (cnd (bNot z6.2) (some false) (bnd (Ze (x.1,
 ((x.2.1.1,x.2.1.2),((x.2.2.1.1,x.2.2.1.2),(x.2.2.2.1,x.2.2.2.2))))) (fun z9=>(cnd z9 (cnd (bNot z5.2) (cnd (bNot x.2.2.2.2) (some false) (bnd (Zd (x.1,
 ((x.2.1.1,x.2.1.2),((x.2.2.1.1,x.2.2.1.2),(x.2.2.2.1,x.2.2.2.2))))) (fun z10=>(cnd z10 (some false) (cnd (iNe x.2.2.2.1 3) (some true) (bnd (Za
 ((x.2.1.1,x.2.1.2),(x.2.2.1.1,x.2.2.1.2))) (fun z11=>(some z11)))))))) (cnd (iNe x.2.2.2.1 3) (some true) (bnd (Za ((x.2.1.1,x.2.1.2),(x.2.2.1.1,
 x.2.2.1.2))) (fun z10=>(some z10))))) (cnd (iNe x.2.2.2.1 3) (some true) (bnd (Za ((x.2.1.1,x.2.1.2),(x.2.2.1.1,x.2.2.1.2))) (fun z10=>(some
 z10))))))))) (bnd (Ze (x.1,((x.2.1.1,x.2.1.2),((x.2.2.1.1,x.2.2.1.2),(x.2.2.2.1,x.2.2.2.2))))) (fun z9=>(cnd z9 (cnd (bNot z5.2) (cnd (bNot x.2.2.2.2)
 (some false) (bnd (Zd (x.1,((x.2.1.1,x.2.1.2),((x.2.2.1.1,x.2.2.1.2),(x.2.2.2.1,x.2.2.2.2))))) (fun z10=>(cnd z10 (some false) (cnd (iNe x.2.2.2.1 3)
 (some true) (bnd (Za ((x.2.1.1,x.2.1.2),(x.2.2.1.1,x.2.2.1.2))) (fun z11=>(some z11)))))))) (cnd (iNe x.2.2.2.1 3) (some true) (bnd (Za
 ((x.2.1.1,x.2.1.2),(x.2.2.1.1,x.2.2.1.2))) (fun z10=>(some z10))))) (cnd (iNe x.2.2.2.1 3) (some true) (bnd (Za ((x.2.1.1,x.2.1.2),(x.2.2.1.1,
 x.2.2.1.2))) (fun z10=>(some z10)))))))))))))))))))))))))))))
def Zbz (x:((Int×(List UInt8))×Int)):(Option ((Int×(List UInt8))×Bool)):=(bnd (Zi (x.1.1,x.1.2)) (fun z1 =>
 (bnd (Zbd (x.2,z1.1)) (fun z2=>(cnd (bNot z1.2) (bnd (Zr (x.1.1,x.1.2)) (fun z3=>(some ((z3.1,
 z3.2),false)))) (cnd (bNot z2.2) (bnd (Zr (x.1.1,x.1.2)) (fun z3=>(some ((z3.1,z3.2),false)))) (some ((z2.1.1,z2.1.2),true))))))))
def Zca (x:((List UInt8)×((Int×(List UInt8))×((Int×(List UInt8))×(Int×Bool))))):(Option ((List UInt8)×((Int×(List UInt8))×((Int×(List
 UInt8))×(Int×Bool))))):=(bnd (Zh (x.1,((x.2.1.1,x.2.1.2),((x.2.2.1.1,x.2.2.1.2),(x.2.2.2.1,x.2.2.2.2))))) (fun z1=>(bnd (Zm (x.1,((x.2.1.1,x.2.1.2),((x.2.2.1.1,x.2.2.1.2),(x.2.2.2.1,x.2.2.2.2))))) (fun z2=>(cnd (bNot z2)
 (some (z1.1,((z1.2.1.1,z1.2.1.2),((z1.2.2.1.1,z1.2.2.1.2),(z1.2.2.2.1,z1.2.2.2.2))))) (bnd (Zd (x.1,((x.2.1.1,x.2.1.2),((x.2.2.1.1,x.2.2.1.2),(x.2.2.2.1,
 x.2.2.2.2))))) (fun z3=>(cnd z3 (some (z1.1,((z1.2.1.1,z1.2.1.2),((z1.2.2.1.1,z1.2.2.1.2),(z1.2.2.2.1,z1.2.2.2.2))))) (bnd (Zbz ((x.2.1.1,x.2.1.2),0))
 (fun z4=>(cnd (bNot z4.2) (some (z1.1,((z1.2.1.1,z1.2.1.2),((z1.2.2.1.1,z1.2.2.1.2),(z1.2.2.2.1,true))))) (some (z1.1,((z1.2.1.1,
 z1.2.1.2),((z4.1.1,z4.1.2),(3,z1.2.2.2.2))))))))))))))))
def Zcb (x:((List UInt8)×((Int×(List UInt8))×((Int×(List UInt8))×(Int×Bool))))):(Option ((List UInt8)×((Int×(List UInt8))×((Int×(List
 UInt8))×(Int×Bool))))):=(bnd (Zh (x.1,((x.2.1.1,x.2.1.2),((x.2.2.1.1,x.2.2.1.2),(x.2.2.2.1,x.2.2.2.2))))) (fun z1=>(bnd (Zm (x.1,((x.2.1.1,x.2.1.2),((x.2.2.1.1,x.2.2.1.2),(x.2.2.2.1,x.2.2.2.2))))) (fun z2=>(cnd (bNot z2)
 (some (z1.1,((z1.2.1.1,z1.2.1.2),((z1.2.2.1.1,z1.2.2.1.2),(z1.2.2.2.1,z1.2.2.2.2))))) (bnd (Zd (x.1,((x.2.1.1,x.2.1.2),((x.2.2.1.1,x.2.2.1.2),(x.2.2.2.1,
 x.2.2.2.2))))) (fun z3=>(cnd (bNot z3) (some (z1.1,((z1.2.1.1,z1.2.1.2),((z1.2.2.1.1,z1.2.2.1.2),(z1.2.2.2.1,z1.2.2.2.2))))) (bnd (Ze (x.1,((x.2.1.1,
 x.2.1.2),((x.2.2.1.1,x.2.2.1.2),(x.2.2.2.1,x.2.2.2.2))))) (fun z4=>(cnd z4 (some (x.1,((z1.2.1.1,z1.2.1.2),((0,[]),(1,false))))) (some (z1.1,((z1.2.1.1,
 z1.2.1.2),((z1.2.2.1.1,z1.2.2.1.2),(z1.2.2.2.1,true))))))))))))))))
def Zcc (x:((List UInt8)×(Int×Int))):(Option (((List UInt8)×((Int×(List UInt8))×((Int×(List UInt8))×(Int×Bool))))×(Int×Int))):=(bnd
 (Zcy (x.1,(x.2.1,x.2.2))) (fun z1=>(bnd (Zbm (x.1,(z1.2.1,z1.2.2))) (fun z2=>(bnd (Zc ((x.1,
 (z2.2.1,z2.2.2)),6)) (fun z3=>(cnd (iEq z3.1 0) (some ((z2.1,((3,[(u8 128),(u8 65)]),((0,[]),(1,true)))),(z3.2.1,z3.2.2))) (cnd (iEq z3.1 1)
 (bnd (Zbb ((x.1,(z3.2.1,z3.2.2)),(z1.1,5))) (fun z4=>(bnd (Zbn (0,(z2.1,(z1.1,z4.1)))) (fun z5=>(some ((z5.1.1,((z5.1.2.1.1,z5.1.2.1.2),((z5.1.2.2.1.1,z5.1.2.2.1.2),(z5.1.2.2.2.1,z5.1.2.2.2.2)))),
 (z4.2.1,z4.2.2))))))) (bnd (Zc ((x.1,(z3.2.1,z3.2.2)),8)) (fun z4=>(bnd (Zf ((x.1,(z4.2.1,z4.2.2)),[z1.1,z1.1,z1.1,0])) (fun
 z5=>(bnd (Zbb ((x.1,(z5.2.1,z5.2.2)),(z5.1,5))) (fun z6=>(bnd (Zbn (z4.1,(z2.1,(z1.1,z6.1))))
 (fun z7=>(joinX (cnd (iNe z7.2 0) (bnd (Zbn (5,(z2.1,(z1.1,[120])))) (fun
 z8=>(some (.inl (z8.1.1,(z8.1.2.1.1,(z8.1.2.1.2,(z8.1.2.2.1.1,(z8.1.2.2.1.2,
 (z8.1.2.2.2.1,z8.1.2.2.2.2)))))))))) (some (.inl (z7.1.1,(z7.1.2.1.1,(z7.1.2.1.2,(z7.1.2.2.1.1,(z7.1.2.2.1.2,(z7.1.2.2.2.1,z7.1.2.2.2.2))))))))) (fun (z8:((List UInt8) ×
 (Int×((List UInt8)×(Int×((List UInt8)×(Int×Bool)))))))=>(bnd (Zc ((x.1,(z6.2.1,z6.2.2)),5)) (fun z9=>(cnd (iEq z9.1 0) (bnd
 (Zca (z8.1,((z8.2.1,z8.2.2.1),((z8.2.2.2.1,z8.2.2.2.2.1),(z8.2.2.2.2.2.1,z8.2.2.2.2.2.2))))) (fun z10=>(some ((z10.1,((z10.2.1.1,z10.2.1.2),((z10.2.2.1.1,z10.2.2.1.2),(z10.2.2.2.1,z10.2.2.2.2)))),(z9.2.1,z9.2.2))))) (cnd (iEq z9.1 1) (bnd
 (Zcb (z8.1,((z8.2.1,z8.2.2.1),((z8.2.2.2.1,z8.2.2.2.2.1),(z8.2.2.2.2.2.1,z8.2.2.2.2.2.2))))) (fun z10=>(some ((z10.1,((z10.2.1.1,z10.2.1.2),((z10.2.2.1.1,z10.2.2.1.2),(z10.2.2.2.1,z10.2.2.2.2)))),(z9.2.1,z9.2.2))))) (some ((z8.1,((z8.2.1,
 z8.2.2.1),((z8.2.2.2.1,z8.2.2.2.2.1),(z8.2.2.2.2.2.1,z8.2.2.2.2.2.2)))),(z9.2.1,z9.2.2)))))))))))))))))))))))))
def Zbo (x:(((List UInt8)×(Int×Int))×Int)):(Option (Bool×(Int×Int))):=(bnd (Zc ((x.1.1,(x.1.2.1,x.1.2.2)),x.2)) (fun z1=>(some ((iEq z1.1 0),(z1.2.1,z1.2.2)))))
def Zbf (x:((List UInt8)×(Int×Int))):(Option ((Int×(((List UInt8)×((Int×(List UInt8))×((Int×(List UInt8))×(Int×Bool))))×((List UInt8)
 × (Int×(Int×(Int×Int))))))×(Int×Int))):=(bnd (Zc (x,4)) (fun z1=>(joinX (cnd (iEq (iAdd .i64 1 z1.1) 1) (bnd (Zcc (x.1,
 z1.2)) (fun z2=>(some (.inl (z2.2.1,(z2.2.2,(z2.1.1,(z2.1.2.1.1,
 (z2.1.2.1.2,(z2.1.2.2.1.1,(z2.1.2.2.1.2,(z2.1.2.2.2.1,(z2.1.2.2.2.2,([],0)))))))))))))) (cnd (iEq (iAdd .i64 1 z1.1) 2) (bnd (Zbm (x.1,z1.2)) (fun z2=>(some (.inl (z2.2.1,(z2.2.2,([],(0,([],(0,([],(0,(false,(z2.1,0)))))))))))))) (cnd (iEq (iAdd .i64 1 z1.1) 3) (bnd (Zc ((x.1,z1.2),
 8)) (fun z2=>(some (.inl (z2.2.1,(z2.2.2,([],(0,([],(0,([],(0,(false,([],z2.1)))))))))))))) (some (.inl (z1.2.1,(z1.2.2,([],(0,([],(0,
 ([],(0,(false,([],0))))))))))))))) (fun (z2:(Int×(Int×((List UInt8)×(Int×((List UInt8)×(Int×((List UInt8)×(Int×(Bool×((List UInt8)×Int))))))))))) =>
 (joinX (cnd (iEq (iAdd .i64 1 z1.1) 4) (bnd (Zc ((x.1,(z2.1,z2.2.1)),3)) (fun z3=>(bnd (Zf ((x.1,z3.2),[0,1,2,65535])) (fun z4=>(bnd (Zc ((x.1,z4.2),7)) (fun z5=>(some (.inl (z5.2.1,(z5.2.2,((iAdd .i64 1 z3.1),(z4.1,z5.1)))))))))))) (bnd
 (Zbo ((x.1,(z2.1,z2.2.1)),2)) (fun z3=>(cnd z3.1 (bnd (Zc ((x.1,z3.2),3)) (fun z4=>(bnd (Zf
 ((x.1,z4.2),[0,1,2,65535])) (fun z5=>(bnd (Zc ((x.1,z5.2),7)) (fun z6=>(some (.inl (z6.2.1,(z6.2.2,((iAdd
 .i64 1 z4.1),(z5.1,z6.1)))))))))))) (some (.inl (z3.2.1,(z3.2.2,(0,(0,0)))))))))) (fun (z3:(Int×(Int×(Int×(Int×Int)))))=>(some (((iAdd .i64 1 z1.1),((z2.2.2.1,
 ((z2.2.2.2.1,z2.2.2.2.2.1),((z2.2.2.2.2.2.1,z2.2.2.2.2.2.2.1),(z2.2.2.2.2.2.2.2.1,z2.2.2.2.2.2.2.2.2.1)))),(z2.2.2.2.2.2.2.2.2.2.1,(z2.2.2.2.2.2.2.2.2.2.2,z3.2.2)))),
 (z3.1,z3.2.1)))))))))
def Zgj (x:((List ((List UInt8)×((Int×(List UInt8))×((Int×(List UInt8))×(Int×Bool)))))×(Int×(List (Int×(Int×Int)))))):((List ((List
 UInt8)×((Int×(List UInt8))×((Int×(List UInt8))×(Int×Bool)))))×Int)->Option (((List ((List UInt8)×((Int×(List UInt8))×((Int×(List UInt8))×(Int×Bool)))))
 × Int) ⊕ ((List ((List UInt8)×((Int×(List UInt8))×((Int×(List UInt8))×(Int×Bool))))) ⊕ ((List ((List UInt8)×((Int×(List UInt8))×((Int×(List UInt8))×(Int ×
 Bool)))))×(Int×(List (Int×(Int×Int))))))):=fun (z1:((List ((List UInt8)×((Int×(List UInt8))×((Int×(List UInt8))×(Int×Bool)))))×Int))=>(cnd (iLt z1.2
 (lLen x.1)) (bnd (idx x.1 z1.2) (fun z2=>(bnd (Zh (z2.1,((z2.2.1.1,z2.2.1.2),
 ((z2.2.2.1.1,z2.2.2.1.2),(z2.2.2.2.1,z2.2.2.2.2))))) (fun z3=>(chk (room (z1.1.length +
 1) 96) (some (.inl ((lApp z1.1 [(z3.1,((z3.2.1.1,z3.2.1.2),((z3.2.2.1.1,z3.2.2.1.2),(z3.2.2.2.1,z3.2.2.2.2))))]),(iAdd .i64 z1.2 1))))))))) (some (.inr (.inl z1.1))))
def Zgk (x:((List ((List UInt8)×((Int×(List UInt8))×((Int×(List UInt8))×(Int×Bool)))))×(Int×(List (Int×(Int×Int)))))):((List ((List
 UInt8)×((Int×(List UInt8))×((Int×(List UInt8))×(Int×Bool)))))×Int)->Option (((List ((List UInt8)×((Int×(List UInt8))×((Int×(List UInt8))×(Int×Bool)))))
 × Int) ⊕ ((List ((List UInt8)×((Int×(List UInt8))×((Int×(List UInt8))×(Int×Bool))))) ⊕ ((List ((List UInt8)×((Int×(List UInt8))×((Int×(List UInt8))×(Int ×
 Bool)))))×(Int×(List (Int×(Int×Int))))))):=fun (z1:((List ((List UInt8)×((Int×(List UInt8))×((Int×(List UInt8))×(Int×Bool)))))×Int))=>(cnd (iLt z1.2
 (lLen x.1)) (bnd (idx x.1 z1.2) (fun z2=>(bnd (Zh (z2.1,((z2.2.1.1,z2.2.1.2),
 ((z2.2.2.1.1,z2.2.2.1.2),(z2.2.2.2.1,z2.2.2.2.2))))) (fun z3=>(chk (room (z1.1.length +
 1) 96) (some (.inl ((lApp z1.1 [(z3.1,((z3.2.1.1,z3.2.1.2),((z3.2.2.1.1,z3.2.2.1.2),(z3.2.2.2.1,z3.2.2.2.2))))]),(iAdd .i64 z1.2 1))))))))) (some (.inr (.inl z1.1))))
def Zgl (x:((List ((List UInt8)×((Int×(List UInt8))×((Int×(List UInt8))×(Int×Bool)))))×(Int×(List (Int×(Int×Int)))))):((List ((List
 UInt8)×((Int×(List UInt8))×((Int×(List UInt8))×(Int×Bool)))))×Int)->Option (((List ((List UInt8)×((Int×(List UInt8))×((Int×(List UInt8))×(Int×Bool)))))
 × Int) ⊕ ((List ((List UInt8)×((Int×(List UInt8))×((Int×(List UInt8))×(Int×Bool))))) ⊕ ((List ((List UInt8)×((Int×(List UInt8))×((Int×(List UInt8))×(Int ×
 Bool)))))×(Int×(List (Int×(Int×Int))))))):=fun (z1:((List ((List UInt8)×((Int×(List UInt8))×((Int×(List UInt8))×(Int×Bool)))))×Int))=>(cnd (iLt z1.2
 (lLen x.1)) (bnd (idx x.1 z1.2) (fun z2=>(bnd (Zh (z2.1,((z2.2.1.1,z2.2.1.2),
 ((z2.2.2.1.1,z2.2.2.1.2),(z2.2.2.2.1,z2.2.2.2.2))))) (fun z3=>(chk (room (z1.1.length +
 1) 96) (some (.inl ((lApp z1.1 [(z3.1,((z3.2.1.1,z3.2.1.2),((z3.2.2.1.1,z3.2.2.1.2),(z3.2.2.2.1,z3.2.2.2.2))))]),(iAdd .i64 z1.2 1))))))))) (some (.inr (.inl z1.1))))
def Zbp (x:((List ((List UInt8)×((Int×(List UInt8))×((Int×(List UInt8))×(Int×Bool)))))×(Int×(List (Int×(Int×Int)))))):(Option ((List
 ((List UInt8)×((Int×(List UInt8))×((Int×(List UInt8))×(Int×Bool)))))×(Int×(List (Int×(Int×Int)))))):=(alt2 (chk (room (0+x.2.2.length) 24) (joinX (loopX
 (Zgj x) ([],0)) (fun (z1:(List ((List UInt8)×((Int×(List UInt8))×((Int×(List UInt8))×(Int×Bool))))))=>(some (z1,(x.2.1,(lApp [] x.2.2))))))) (alt2
 (chk (room (0+x.2.2.length) 24) (joinX (loopX (Zgk x) ([],0)) (fun (z1:(List ((List UInt8)×((Int×(List UInt8))×((Int×(List UInt8))×(Int×Bool)))))) =>
 (some (z1,(x.2.1,(lApp [] x.2.2))))))) (chk (room (0+x.2.2.length) 24) (joinX (loopX (Zgl x) ([],0)) (fun (z1:(List ((List UInt8)×((Int×(List UInt8))×((Int
 × (List UInt8))×(Int×Bool))))))=>(some (z1,(x.2.1,(lApp [] x.2.2)))))))))
def Zcd (x:Int):(Option Bool):=(bnd (Zb (x,(0,65535))) (fun z1=>(some z1)))
def Zce (x:(Int×(Int×Int))):(Option Bool):=(bnd (Zb (x.1,(1,9))) (fun z1=>(cnd z1 (bnd (Zcd x.2.1) (fun z2 =>
 (cnd z2 (bnd (Zb (x.2.2,(0,6))) (fun z3=>(some z3))) (some false)))) (some false))))
def Zdj (x:((List ((List UInt8)×((Int×(List UInt8))×((Int×(List UInt8))×(Int×Bool)))))×(Int×(List (Int×(Int×Int)))))):(Int)->Option
 ((Int) ⊕ (Unit ⊕ Bool)):=fun (z1:Int)=>(cnd (iLt z1 (lLen x.1)) (bnd (idx x.1 z1) (fun z2=>(bnd (Zm (z2.1,((z2.2.1.1,z2.2.1.2),((z2.2.2.1.1,z2.2.2.1.2),(z2.2.2.2.1,z2.2.2.2.2))))) (fun z3=>(cnd (bNot z3) (some (.inr (.inr false)))
 (cnd (iGt z1 0) (bnd (idx x.1 (iSub .i64 z1 1)) (fun z4=>(bnd (idx x.1 z1) (fun z5=>(cnd (bNot (sLt z4.1 z5.1)) (some (.inr (.inr false))) (some (.inl (iAdd .i64 z1 1)))))))) (some
 (.inl (iAdd .i64 z1 1))))))))) (some (.inr (.inl ()))))
def Zdk (x:((List ((List UInt8)×((Int×(List UInt8))×((Int×(List UInt8))×(Int×Bool)))))×(Int×(List (Int×(Int×Int)))))):(Int)->Option
 ((Int) ⊕ (Unit ⊕ Bool)):=fun (z2:Int)=>(cnd (iLt z2 (lLen x.2.2)) (bnd (idx x.2.2 z2) (fun z3=>(bnd (Zce (z3.1,(z3.2.1,z3.2.2))) (fun
 z4=>(cnd (bNot z4) (some (.inr (.inr false))) (cnd (iGt z2 0) (bnd (idx x.2.2 (iSub .i64 z2 1)) (fun z5=>(bnd (idx x.2.2 z2) (fun z6=>(cnd (iGe z5.1 z6.1) (some (.inr (.inr false))) (some (.inl (iAdd .i64 z2 1)))))))) (some (.inl (iAdd .i64 z2 1))))))))) (some (.inr (.inl ()))))
def Zbg (x:((List ((List UInt8)×((Int×(List UInt8))×((Int×(List UInt8))×(Int×Bool)))))×(Int×(List (Int×(Int×Int)))))):(Option Bool) :=
 (joinX (loopX (Zdj x) 0) (fun (z1:Unit)=>(joinX (loopX (Zdk x) 0) (fun (z2:Unit)=>(cnd (iLe (lLen x.1) 8) (bnd (Zb (x.2.1,(0,7))) (fun z3
 => (some z3))) (some false))))))
def Zdl (x:((List UInt8)×((Int×(List UInt8))×((Int×(List UInt8))×(Int×Bool))))):(Option Bool):=(cnd (sEq x.1 []) (bnd (Zu (x.2.1.1,
 x.2.1.2)) (fun z1=>(cnd z1 (bnd (Zu (x.2.2.1.1,x.2.2.1.2)) (fun z2=>(cnd z2 (cnd (iEq x.2.2.2.1 0) (some (bNot x.2.2.2.2)) (some false)) (some
 false)))) (some false)))) (some false))
def Zfj (x:(Int×(((List UInt8)×((Int×(List UInt8))×((Int×(List UInt8))×(Int×Bool))))×((List UInt8)×(Int×(Int×(Int×Int))))))) :
 (Option Bool):=(cnd (iEq x.2.2.2.2.1 0) (cnd (iEq x.2.2.2.2.2.1 0) (cnd (iEq x.2.2.2.2.2.2 0) (some (iNe x.1 4)) (some false)) (some false)) (bnd (Zb (x.2.2.2.2.1,(1,
 9))) (fun z1=>(cnd z1 (bnd (Zcd x.2.2.2.2.2.1) (fun z2=>(cnd z2 (bnd (Zb (x.2.2.2.2.2.2,(0,6))) (fun z3=>(some z3))) (some
 false)))) (some false)))))
def Zdm (x:(Int×(((List UInt8)×((Int×(List UInt8))×((Int×(List UInt8))×(Int×Bool))))×((List UInt8)×(Int×(Int×(Int×Int))))))):(Option
 Bool):=(bnd (Zdl (x.2.1.1,((x.2.1.2.1.1,x.2.1.2.1.2),((x.2.1.2.2.1.1,x.2.1.2.2.1.2),(x.2.1.2.2.2.1,x.2.1.2.2.2.2))))) (fun z1=>(joinX (cnd (iEq x.1 1)
 (bnd (Zm (x.2.1.1,((x.2.1.2.1.1,x.2.1.2.1.2),((x.2.1.2.2.1.1,x.2.1.2.2.1.2),(x.2.1.2.2.2.1,x.2.1.2.2.2.2))))) (fun z2=>(some (.inl (z2,((sEq x.2.2.1 []),
 (iEq x.2.2.2.1 0))))))) (cnd (iEq x.1 2) (bnd (Zbe x.2.2.1) (fun z2=>(some (.inl (z1,(z2,(iEq x.2.2.2.1 0))))))) (cnd (iEq x.1 3) (bnd (Zb (x.2.2.2.1,
 (0,7))) (fun z2=>(some (.inl (z1,((sEq x.2.2.1 []),z2)))))) (some (.inl (z1,((sEq x.2.2.1 []),(iEq x.2.2.2.1 0)))))))) (fun (z2:(Bool×(Bool×Bool)))=>(bnd
 (Zb (x.1,(1,4))) (fun z3=>(cnd z3 (cnd z2.1 (cnd z2.2.1 (cnd z2.2.2 (bnd (Zfj (x.1,((x.2.1.1,((x.2.1.2.1.1,x.2.1.2.1.2),((x.2.1.2.2.1.1,
 x.2.1.2.2.1.2),(x.2.1.2.2.2.1,x.2.1.2.2.2.2)))),(x.2.2.1,(x.2.2.2.1,(x.2.2.2.2.1,(x.2.2.2.2.2.1,x.2.2.2.2.2.2))))))) (fun z4=>(some z4))) (some false)) (some
 false)) (some false)) (some false))))))))
def Zdn (x:((List ((List UInt8)×((Int×(Option (List UInt8)))×((Int×(Option (List UInt8)))×(Int×Bool)))))×((List UInt8)×((Int×(List
 UInt8))×((Int×(List UInt8))×(Int×Bool)))))):((List ((List UInt8)×((Int×(Option (List UInt8)))×((Int×(Option (List UInt8)))×(Int×Bool)))))×((List ((List
 UInt8)×((Int×(List UInt8))×((Int×(List UInt8))×(Int×Bool)))))×(Bool×Int)))->Option (((List ((List UInt8)×((Int×(Option (List UInt8)))×((Int×(Option (List
 UInt8)))×(Int×Bool)))))×((List ((List UInt8)×((Int×(List UInt8))×((Int×(List UInt8))×(Int×Bool)))))×(Bool×Int))) ⊕ (((List ((List UInt8)×((Int×(List
 UInt8))×((Int×(List UInt8))×(Int×Bool)))))×Bool) ⊕ (List ((List UInt8)×((Int×(List UInt8))×((Int×(List UInt8))×(Int×Bool))))))):=fun (z1:((List ((List
 UInt8)×((Int×(Option (List UInt8)))×((Int×(Option (List UInt8)))×(Int×Bool)))))×((List ((List UInt8)×((Int×(List UInt8))×((Int×(List UInt8))×(Int ×
 Bool)))))×(Bool×Int))))=>(cnd (iLt z1.2.2.2 (lLen z1.1)) (joinX (joinX (cnd (bNot z1.2.2.1) (bnd (idx z1.1 z1.2.2.2) (fun z2=>(cnd (bNot (sLt z2.1 x.2.1)) (bnd (Zh x.2) (fun z3=>(chk (room (z1.2.1.length+1) 96) (some (.inl ((lApp z1.2.1 [z3]),true)))))) (some (.inl (z1.2.1,z1.2.2.1)))))) (some (.inl (z1.2.1,
 z1.2.2.1)))) (fun (z2:((List ((List UInt8)×((Int×(List UInt8))×((Int×(List UInt8))×(Int×Bool)))))×Bool))=>(bnd (idx z1.1 z1.2.2.2) (fun z3=>(cnd (bNot (sEq z3.1 x.2.1)) (bnd (idx z1.1 z1.2.2.2) (fun z4=>(chk (hSome z4.2.1.2) (chk (hSome z4.2.2.1.2) (bnd (idx z1.1 (Int.ofNat (nOf z1.2.2.2))) (fun z5=>(bnd (idx (lSet z1.1 (nOf z1.2.2.2) (z5.1,((z5.2.1.1,none),z5.2.2)))
 (Int.ofNat (nOf z1.2.2.2))) (fun z6=>(chk (room (z2.1.length+1) 96)
 (some (.inl ((lSet (lSet z1.1 (nOf z1.2.2.2) (z5.1,((z5.2.1.1,none),z5.2.2))) (nOf z1.2.2.2) (z6.1,(z6.2.1,((z6.2.2.1.1,none),z6.2.2.2)))),((lApp z2.1 [(z4.1,((z4.2.1.1,
 (hGet z4.2.1.2)),((z4.2.2.1.1,(hGet z4.2.2.1.2)),z4.2.2.2)))]),z2.2))))))))))))) (some (.inl (z1.1,z2)))))))) (fun (z2:((List ((List UInt8)×((Int×(Option (List
 UInt8)))×((Int×(Option (List UInt8)))×(Int×Bool)))))×((List ((List UInt8)×((Int×(List UInt8))×((Int×(List UInt8))×(Int×Bool)))))×Bool)))=>(some (.inl
 (z2.1,(z2.2.1,(z2.2.2,(iAdd .i64 z1.2.2.2 1)))))))) (some (.inr (.inl (z1.2.1,z1.2.2.1)))))
def Zcf (x:((List ((List UInt8)×((Int×(Option (List UInt8)))×((Int×(Option (List UInt8)))×(Int×Bool)))))×((List UInt8)×((Int×(List UInt8))
 × ((Int×(List UInt8))×(Int×Bool)))))):(Option (List ((List UInt8)×((Int×(List UInt8))×((Int×(List UInt8))×(Int×Bool)))))):=(joinX (loopX (Zdn x)
 (x.1,([],(false,0)))) (fun (z1:((List ((List UInt8)×((Int×(List UInt8))×((Int×(List UInt8))×(Int×Bool)))))×Bool))=>(joinX (cnd (bNot z1.2) (bnd (Zh
 x.2) (fun z2=>(chk (room (z1.1.length+1) 96) (some (.inl (lApp z1.1 [z2])))))) (some (.inl
 z1.1))) (fun (z2:(List ((List UInt8)×((Int×(List UInt8))×((Int×(List UInt8))×(Int×Bool))))))=>(some z2)))))
def Zfk (x:(((List ((List UInt8)×((Int×(List UInt8))×((Int×(List UInt8))×(Int×Bool)))))×(Int×(List (Int×(Int×Int)))))×(List UInt8))) :
 (Int)->Option ((Int) ⊕ Int):=fun (z1:Int)=>(cnd (iLt z1 (lLen x.1.1)) (bnd (idx x.1.1 z1) (fun z2=>(cnd (sEq z2.1 x.2) (some (.inr z1)) (some (.inl (iAdd .i64 z1 1)))))) (some (.inr (-1))))
def Zbq (x:(((List ((List UInt8)×((Int×(List UInt8))×((Int×(List UInt8))×(Int×Bool)))))×(Int×(List (Int×(Int×Int)))))×(List UInt8))) :
 (Option Int):=(loopX (Zfk x) 0)
def Zfl (x:((List (Int×(Int×Int)))×(Int×(Int×Int)))):((List (Int×(Int×Int)))×(Bool×Int))->Option (((List (Int×(Int×Int)))×(Bool
 × Int)) ⊕ (((List (Int×(Int×Int)))×Bool) ⊕ (List (Int×(Int×Int))))):=fun (z1:((List (Int×(Int×Int)))×(Bool×Int)))=>(cnd (iLt z1.2.2 (lLen x.1)) (joinX
 (joinX (cnd (bNot z1.2.1) (bnd (idx x.1 z1.2.2) (fun z2=>(cnd (iGe z2.1 x.2.1) (chk (room (z1.1.length+1) 24) (some (.inl ((lApp z1.1 [x.2]),true))))
 (some (.inl (z1.1,z1.2.1)))))) (some (.inl (z1.1,z1.2.1)))) (fun (z2:((List (Int×(Int×Int)))×Bool))=>(bnd (idx x.1 z1.2.2) (fun z3=>(cnd
 (iNe z3.1 x.2.1) (bnd (idx x.1 z1.2.2) (fun z4=>(chk (room (z2.1.length+1) 24) (some (.inl ((lApp z2.1 [z4]),z2.2)))))) (some (.inl z2))))))) (fun
 (z2:((List (Int×(Int×Int)))×Bool))=>(some (.inl (z2.1,(z2.2,(iAdd .i64 z1.2.2 1))))))) (some (.inr (.inl (z1.1,z1.2.1)))))
def Zcg (x:((List (Int×(Int×Int)))×(Int×(Int×Int)))):(Option (List (Int×(Int×Int)))):=(joinX (loopX (Zfl x) ([],(false,0))) (fun
 (z1:((List (Int×(Int×Int)))×Bool))=>(joinX (cnd (bNot z1.2) (chk (room (z1.1.length+1) 24) (some (.inl (lApp z1.1 [x.2])))) (some (.inl z1.1))) (fun (z2:(List (Int
 × (Int×Int))))=>(some z2)))))
def Zbr (x:(((List ((List UInt8)×((Int×(List UInt8))×((Int×(List UInt8))×(Int×Bool)))))×(Int×(List (Int×(Int×Int)))))×(Int×(((List
 UInt8)×((Int×(List UInt8))×((Int×(List UInt8))×(Int×Bool))))×((List UInt8)×(Int×(Int×(Int×Int)))))))):(Option (((List ((List UInt8)×((Int×(List
 UInt8))×((Int×(List UInt8))×(Int×Bool)))))×(Int×(List (Int×(Int×Int)))))×Bool)):=(bnd (Zbp x.1) (fun z1=>(bnd (Zbg x.1) (fun z2=>(cnd (bNot z2) (some (z1,false)) (bnd
 (Zdm x.2) (fun z3=>(cnd (bNot z3) (some (z1,false)) (joinX (cnd (iEq x.2.1 1) (bnd (cvL (.P .S (.P (.P (.I .i64) (.L .Y)) (.P (.P (.I .i64) (.L .Y)) (.P (.I
 .i64) .B)))) (.P .S (.P (.P (.I .i64) (.H .Y)) (.P (.P (.I .i64) (.H .Y)) (.P (.I .i64) .B)))) z1.1) (fun z4=>(bnd (Zcf (z4,x.2.2.1)) (fun z5
 => (some (.inl (z5,z1.2.1))))))) (cnd (iEq x.2.1 2) (bnd (Zbq (z1,x.2.2.2.1)) (fun z4=>(cnd (iGe z4 0) (chk (within 0 z4 (lLen z1.1)) (chk (fits 0 ((nOf z4) -
 0) z1.1.length) (chk (room (0+(lTake ((nOf z4)-0) z1.1).length) 96) (chk (within (iAdd .i64 z4 1) (lLen (mvW (.P .S (.P (.P (.I .i64) (.L .Y)) (.P (.P (.I .i64) (.L .Y)) (.P
 (.I .i64) .B)))) 0 ((nOf z4)-0) z1.1)) (lLen (mvW (.P .S (.P (.P (.I .i64) (.L .Y)) (.P (.P (.I .i64) (.L .Y)) (.P (.I .i64) .B)))) 0 ((nOf z4)-0) z1.1))) (chk (fits (nOf
 (iAdd .i64 z4 1)) ((nOf (lLen (mvW (.P .S (.P (.P (.I .i64) (.L .Y)) (.P (.P (.I .i64) (.L .Y)) (.P (.I .i64) .B)))) 0 ((nOf z4)-0) z1.1)))-(nOf (iAdd .i64 z4 1))) (mvW (.P
 .S (.P (.P (.I .i64) (.L .Y)) (.P (.P (.I .i64) (.L .Y)) (.P (.I .i64) .B)))) 0 ((nOf z4)-0) z1.1).length) (bnd (cvL (.P .S (.P (.P (.I .i64) (.H .Y)) (.P (.P (.I .i64) (.H
 .Y)) (.P (.I .i64) .B)))) (.P .S (.P (.P (.I .i64) (.L .Y)) (.P (.P (.I .i64) (.L .Y)) (.P (.I .i64) .B)))) (lTake ((nOf (lLen (mvW (.P .S (.P (.P (.I .i64) (.L .Y)) (.P (.P (.I
 .i64) (.L .Y)) (.P (.I .i64) .B)))) 0 ((nOf z4)-0) z1.1)))-(nOf (iAdd .i64 z4 1))) (lDrop (nOf (iAdd .i64 z4 1)) (mvW (.P .S (.P (.P (.I .i64) (.L .Y)) (.P (.P (.I .i64) (.L
 .Y)) (.P (.I .i64) .B)))) 0 ((nOf z4)-0) z1.1)))) (fun z5=>(chk (room ((lApp []
 (lTake ((nOf z4)-0) z1.1)).length+z5.length) 96) (some (.inl ((lApp (lApp [] (lTake ((nOf z4)-0) z1.1)) z5),z1.2.1))))))))))) (some (.inl (z1.1,z1.2.1)))))) (cnd (iEq
 x.2.1 3) (some (.inl (z1.1,x.2.2.2.2.1))) (some (.inl (z1.1,z1.2.1)))))) (fun (z4:((List ((List UInt8)×((Int×(List UInt8))×((Int×(List UInt8))×(Int×Bool))))) ×
 Int))=>(joinX (cnd (iNe x.2.2.2.2.2.1 0) (bnd (Zcg (z1.2.2,x.2.2.2.2.2)) (fun z5=>(some (.inl z5)))) (some (.inl z1.2.2))) (fun (z5 :
 (List (Int×(Int×Int))))=>(bnd (Zbg (z4.1,(z4.2,z5))) (fun z6=>(cnd (bNot z6) (bnd (Zbp x.1) (fun z7=>(some (z7,false)))) (some ((z4.1,(z4.2,z5)),true)))))))))))))))))
def Zdo (x:(((List UInt8)×(Int×Int))×Int)):(Int×(Int×((List ((List UInt8)×((Int×(List UInt8))×((Int×(List UInt8))×(Int×Bool))))) ×
 (Int×((List (Int×(Int×Int)))×Int)))))->Option ((Int×(Int×((List ((List UInt8)×((Int×(List UInt8))×((Int×(List UInt8))×(Int×Bool)))))×(Int×((List (Int
 × (Int×Int)))×Int))))) ⊕ ((Int×(Int×((List ((List UInt8)×((Int×(List UInt8))×((Int×(List UInt8))×(Int×Bool)))))×(Int×(List (Int×(Int×Int))))))) ⊕
 (((List ((List UInt8)×((Int×(List UInt8))×((Int×(List UInt8))×(Int×Bool)))))×(Int×(List (Int×(Int×Int)))))×(Int×Int)))):=fun (z2:(Int×(Int×((List
 ((List UInt8)×((Int×(List UInt8))×((Int×(List UInt8))×(Int×Bool)))))×(Int×((List (Int×(Int×Int)))×Int))))))=>(cnd (iGt z2.2.2.2.2.2 0) (bnd (Zbf
 (x.1.1,(z2.1,z2.2.1))) (fun z3=>(bnd (Zbr ((z2.2.2.1,(z2.2.2.2.1,z2.2.2.2.2.1)),z3.1)) (fun z4=>(some (.inl (z3.2.1,(z3.2.2,(z4.1.1,(z4.1.2.1,(z4.1.2.2,(iSub .i64 z2.2.2.2.2.2 1)))))))))))) (some (.inr (.inl
 (z2.1,(z2.2.1,(z2.2.2.1,(z2.2.2.2.1,z2.2.2.2.2.1))))))))
def Zdp (x:(((List UInt8)×(Int×Int))×Int)):(Option (((List ((List UInt8)×((Int×(List UInt8))×((Int×(List UInt8))×(Int×Bool)))))×(Int ×
 (List (Int×(Int×Int)))))×(Int×Int))):=(joinX (bnd (Zc (x.1,(iAdd .i64 x.2 1))) (fun z1=>(loopX (Zdo x) (z1.2.1,(z1.2.2,
 ([],(0,([],z1.1)))))))) (fun (z1:(Int×(Int×((List ((List UInt8)×((Int×(List UInt8))×((Int×(List UInt8))×(Int×Bool)))))×(Int×(List (Int×(Int ×
 Int))))))))=>(some (z1.2.2,(z1.1,z1.2.1)))))
def Zch (x:(List (List UInt8))):((List UInt8)×Int)->Option (((List UInt8)×Int) ⊕ ((List UInt8) ⊕ (List UInt8))):=fun (z1:((List UInt8)×Int))
 => (cnd (iLt z1.2 (lLen x)) (bnd (idx x z1.2) (fun z2=>(chk (room (z1.1.length+z2.length) 1) (some (.inl ((lApp z1.1 z2),(iAdd .i64 z1.2 1))))))) (some
 (.inr (.inl z1.1))))
def Zci (x:(List (List UInt8))):(Option (List UInt8)):=(joinX (loopX (Zch x) ([],0)) (fun (z1:(List UInt8))=>(some z1)))
def Zcj (x:(Int×(List UInt8))):(Option (Int×(List UInt8))):=(bnd (Zci [x.2]) (fun z1=>(some (x.1,z1))))
def Zk (x:((List UInt8)×((Int×(List UInt8))×((Int×(List UInt8))×(Int×Bool))))):(Option ((List UInt8)×((Int×(List UInt8))×((Int×(List
 UInt8))×(Int×Bool))))):=(bnd (Zcj x.2.1) (fun z1=>(bnd (Zcj x.2.2.1) (fun z2=>(some (x.1,(z1,(z2,
 x.2.2.2))))))))
def Zgm (x:((List ((List UInt8)×((Int×(List UInt8))×((Int×(List UInt8))×(Int×Bool)))))×(Int×(List (Int×(Int×Int)))))):((List ((List
 UInt8)×((Int×(List UInt8))×((Int×(List UInt8))×(Int×Bool)))))×Int)->Option (((List ((List UInt8)×((Int×(List UInt8))×((Int×(List UInt8))×(Int×Bool)))))
 × Int) ⊕ ((List ((List UInt8)×((Int×(List UInt8))×((Int×(List UInt8))×(Int×Bool))))) ⊕ ((List ((List UInt8)×((Int×(List UInt8))×((Int×(List UInt8))×(Int ×
 Bool)))))×(Int×(List (Int×(Int×Int))))))):=fun (z1:((List ((List UInt8)×((Int×(List UInt8))×((Int×(List UInt8))×(Int×Bool)))))×Int))=>(cnd (iLt z1.2
 (lLen x.1)) (bnd (idx x.1 z1.2) (fun z2=>(bnd (Zk (z2.1,((z2.2.1.1,z2.2.1.2),
 ((z2.2.2.1.1,z2.2.2.1.2),(z2.2.2.2.1,z2.2.2.2.2))))) (fun z3=>(chk (room (z1.1.length +
 1) 96) (some (.inl ((lApp z1.1 [(z3.1,((z3.2.1.1,z3.2.1.2),((z3.2.2.1.1,z3.2.2.1.2),(z3.2.2.2.1,z3.2.2.2.2))))]),(iAdd .i64 z1.2 1))))))))) (some (.inr (.inl z1.1))))
def Zgn (x:((List ((List UInt8)×((Int×(List UInt8))×((Int×(List UInt8))×(Int×Bool)))))×(Int×(List (Int×(Int×Int)))))):((List ((List
 UInt8)×((Int×(List UInt8))×((Int×(List UInt8))×(Int×Bool)))))×Int)->Option (((List ((List UInt8)×((Int×(List UInt8))×((Int×(List UInt8))×(Int×Bool)))))
 × Int) ⊕ ((List ((List UInt8)×((Int×(List UInt8))×((Int×(List UInt8))×(Int×Bool))))) ⊕ ((List ((List UInt8)×((Int×(List UInt8))×((Int×(List UInt8))×(Int ×
 Bool)))))×(Int×(List (Int×(Int×Int))))))):=fun (z1:((List ((List UInt8)×((Int×(List UInt8))×((Int×(List UInt8))×(Int×Bool)))))×Int))=>(cnd (iLt z1.2
 (lLen x.1)) (bnd (idx x.1 z1.2) (fun z2=>(bnd (Zk (z2.1,((z2.2.1.1,z2.2.1.2),
 ((z2.2.2.1.1,z2.2.2.1.2),(z2.2.2.2.1,z2.2.2.2.2))))) (fun z3=>(chk (room (z1.1.length +
 1) 96) (some (.inl ((lApp z1.1 [(z3.1,((z3.2.1.1,z3.2.1.2),((z3.2.2.1.1,z3.2.2.1.2),(z3.2.2.2.1,z3.2.2.2.2))))]),(iAdd .i64 z1.2 1))))))))) (some (.inr (.inl z1.1))))
def Zgo (x:((List ((List UInt8)×((Int×(List UInt8))×((Int×(List UInt8))×(Int×Bool)))))×(Int×(List (Int×(Int×Int)))))):((List ((List
 UInt8)×((Int×(List UInt8))×((Int×(List UInt8))×(Int×Bool)))))×Int)->Option (((List ((List UInt8)×((Int×(List UInt8))×((Int×(List UInt8))×(Int×Bool)))))
 × Int) ⊕ ((List ((List UInt8)×((Int×(List UInt8))×((Int×(List UInt8))×(Int×Bool))))) ⊕ ((List ((List UInt8)×((Int×(List UInt8))×((Int×(List UInt8))×(Int ×
 Bool)))))×(Int×(List (Int×(Int×Int))))))):=fun (z1:((List ((List UInt8)×((Int×(List UInt8))×((Int×(List UInt8))×(Int×Bool)))))×Int))=>(cnd (iLt z1.2
 (lLen x.1)) (bnd (idx x.1 z1.2) (fun z2=>(bnd (Zk (z2.1,((z2.2.1.1,z2.2.1.2),
 ((z2.2.2.1.1,z2.2.2.1.2),(z2.2.2.2.1,z2.2.2.2.2))))) (fun z3=>(chk (room (z1.1.length +
 1) 96) (some (.inl ((lApp z1.1 [(z3.1,((z3.2.1.1,z3.2.1.2),((z3.2.2.1.1,z3.2.2.1.2),(z3.2.2.2.1,z3.2.2.2.2))))]),(iAdd .i64 z1.2 1))))))))) (some (.inr (.inl z1.1))))
def Zck (x:((List ((List UInt8)×((Int×(List UInt8))×((Int×(List UInt8))×(Int×Bool)))))×(Int×(List (Int×(Int×Int)))))):(Option ((List
 ((List UInt8)×((Int×(List UInt8))×((Int×(List UInt8))×(Int×Bool)))))×(Int×(List (Int×(Int×Int)))))):=(alt2 (chk (room (0+x.2.2.length) 24) (joinX (loopX
 (Zgm x) ([],0)) (fun (z1:(List ((List UInt8)×((Int×(List UInt8))×((Int×(List UInt8))×(Int×Bool))))))=>(some (z1,(x.2.1,(lApp [] x.2.2))))))) (alt2
 (chk (room (0+x.2.2.length) 24) (joinX (loopX (Zgn x) ([],0)) (fun (z1:(List ((List UInt8)×((Int×(List UInt8))×((Int×(List UInt8))×(Int×Bool)))))) =>
 (some (z1,(x.2.1,(lApp [] x.2.2))))))) (chk (room (0+x.2.2.length) 24) (joinX (loopX (Zgo x) ([],0)) (fun (z1:(List ((List UInt8)×((Int×(List UInt8))×((Int
 × (List UInt8))×(Int×Bool))))))=>(some (z1,(x.2.1,(lApp [] x.2.2)))))))))
def Zj (x:((Int×(List UInt8))×(Int×(List UInt8)))):(Option Bool):=(cnd (iEq x.1.1 x.2.1) (some (sEq x.1.2 x.2.2)) (some false))
def Zv (x:(((List UInt8)×((Int×(List UInt8))×((Int×(List UInt8))×(Int×Bool))))×((List UInt8)×((Int×(List UInt8))×((Int×(List UInt8))
 × (Int×Bool)))))):(Option Bool):=(cnd (sEq x.1.1 x.2.1) (bnd (Zj ((x.1.2.1.1,x.1.2.1.2),(x.2.2.1.1,x.2.2.1.2))) (fun z1=>(cnd z1 (bnd (Zj
 ((x.1.2.2.1.1,x.1.2.2.1.2),(x.2.2.2.1.1,x.2.2.2.1.2))) (fun z2=>(cnd z2 (cnd (iEq x.1.2.2.2.1 x.2.2.2.2.1) (some (bEq x.1.2.2.2.2 x.2.2.2.2.2)) (some false)) (some
 false)))) (some false)))) (some false))
def Zg (x:(Int×(Int×Int))):(Option Bool):=(cnd (iGe x.1 x.2.1) (some (iLe x.1 x.2.2)) (some false))
def Zgp (x:(List UInt8)):(Int)->Option ((Int) ⊕ (Unit ⊕ Bool)):=fun (z1:Int)=>(cnd (iLt z1 (lLen x)) (bnd (idx x z1) (fun z2=>(bnd
 (Zg ((iConv .i64 (y2i z2)),(97,122))) (fun z3=>(cnd (bNot z3) (bnd (idx x z1) (fun z4=>(bnd (Zg ((iConv .i64 (y2i z4)),(48,57))) (fun
 z5=>(cnd (bNot z5) (some (.inr (.inr false))) (some (.inl (iAdd .i64 z1 1)))))))) (some (.inl (iAdd .i64 z1 1)))))))) (some (.inr (.inl ()))))
def Zcl (x:(List UInt8)):(Option Bool):=(joinX (loopX (Zgp x) 0) (fun (z1:Unit)=>(bnd (Zg ((lLen x),(1,6))) (fun z2 =>
 (some z2)))))
def Zdq (x:Int):(Option Bool):=(bnd (Zg (x,(0,5))) (fun z1=>(some z1)))
def Zcm (x:(Int×(List UInt8))):(Option Bool):=(bnd (Zdq x.1) (fun z1=>(cnd z1 (some (iLe (lLen x.2) 20)) (some false))))
def Zt (x:(List UInt8)):(Option (Int×Int)):=(cnd (iLt (lLen x) 1) (some (65533,0)) (bnd (idx x 0) (fun z1=>(chk (iLe 0 (y2i
 z1)) (chk (iLt (y2i z1) 256) (bnd (idx gFirst (Int.ofNat (0+((nOf (y2i z1))*1)))) (fun z2=>(cnd (iGe (y2i z2) (y2i (u8 240))) (bnd (idx x 0) (fun z3 =>
 (some ((iOr .i32 (iAndNot .i32 (iConv .i32 (y2i z3)) (iShr .i32 (iShl .i32 (iConv .i32 (y2i z2)) 31) 31)) (iAnd .i32 65533 (iShr .i32 (iShl .i32 (iConv .i32 (y2i z2)) 31) 31))),
 1)))) (chk (iLe 0 (y2i (u8 (iShr .u8 (y2i z2) 4)))) (chk (iLt (y2i (u8 (iShr .u8 (y2i z2) 4))) 16) (bnd (idx gAcc (Int.ofNat (0+((nOf (y2i (u8 (iShr .u8 (y2i z2) 4))))*2))))
 (fun z3=>(bnd (idx gAcc (Int.ofNat ((0+((nOf (y2i (u8 (iShr .u8 (y2i z2) 4))))*2))+1))) (fun z4=>(cnd (iLt (lLen x) (iConv .i64 (y2i (u8 (iAnd .u8
 (y2i z2) (y2i (u8 7))))))) (some (65533,1)) (bnd (idx x 1) (fun z5=>(cnd (iLt (y2i z5) (y2i z3)) (some (65533,1)) (cnd (iLt (y2i z4) (y2i z5)) (some (65533,1))
 (cnd (iLe (iConv .i64 (y2i (u8 (iAnd .u8 (y2i z2) (y2i (u8 7)))))) 2) (some ((iOr .i32 (iShl .i32 (iConv .i32 (y2i (u8 (iAnd .u8 (y2i z1) (y2i (u8 31)))))) 6) (iConv .i32 (y2i
 (u8 (iAnd .u8 (y2i z5) (y2i (u8 63))))))),2)) (bnd (idx x 2) (fun z6=>(cnd (iLt (y2i z6) (y2i (u8 128))) (some (65533,1)) (cnd (iLt (y2i (u8 191)) (y2i z6)) (some
 (65533,1)) (cnd (iLe (iConv .i64 (y2i (u8 (iAnd .u8 (y2i z2) (y2i (u8 7)))))) 3) (some ((iOr .i32 (iOr .i32 (iShl .i32 (iConv .i32 (y2i (u8 (iAnd .u8 (y2i z1) (y2i (u8 15))))))
 12) (iShl .i32 (iConv .i32 (y2i (u8 (iAnd .u8 (y2i z5) (y2i (u8 63)))))) 6)) (iConv .i32 (y2i (u8 (iAnd .u8 (y2i z6) (y2i (u8 63))))))),3)) (bnd (idx x 3) (fun z7 =>
 (cnd (iLt (y2i z7) (y2i (u8 128))) (some (65533,1)) (cnd (iLt (y2i (u8 191)) (y2i z7)) (some (65533,1)) (some ((iOr .i32 (iOr .i32 (iOr .i32 (iShl .i32 (iConv .i32 (y2i (u8
 (iAnd .u8 (y2i z1) (y2i (u8 7)))))) 18) (iShl .i32 (iConv .i32 (y2i (u8 (iAnd .u8 (y2i z5) (y2i (u8 63)))))) 12)) (iShl .i32 (iConv .i32 (y2i (u8 (iAnd .u8 (y2i z6) (y2i (u8
 63)))))) 6)) (iConv .i32 (y2i (u8 (iAnd .u8 (y2i z7) (y2i (u8 63))))))),4)))))))))))))))))))))))))))))))
def Zcn (x:(List UInt8)):(Int)->Option ((Int) ⊕ (Unit ⊕ (Int×Int))):=fun (z1:Int)=>(cnd (iLt z1 (lLen x)) (bnd (idx x z1) (fun z2=>(cnd (iLt (y2i z2) (y2i (u8 128))) (some (.inr (.inr ((iConv .i32 (y2i z2)),1)))) (some (.inr (.inl ())))))) (some (.inr (.inl ()))))
def Zdr (x:(List UInt8)):(Option (Int×Int)):=(joinX (loopX (Zcn x) 0) (fun (z1:Unit)=>(bnd (Zt x) (fun
 z2=>(some (z2.1,z2.2))))))
def Zds (x:((List UInt8)×Int)):(Option (Int×(Int×Bool))):=(cnd (iLt x.2 0) (some (0,(0,false))) (cnd (iGe x.2 (lLen x.1)) (some (0,(0,false)))
 (chk (within x.2 (lLen x.1) (lLen x.1)) (chk (posW (nOf x.2) (lTake ((nOf (lLen x.1))-(nOf x.2)) (lDrop (nOf x.2) x.1)).length) (bnd (Zdr (lTake ((nOf (lLen x.1))
 - (nOf x.2)) (lDrop (nOf x.2) x.1))) (fun z1=>(cnd (iEq z1.1 65533) (cnd (iLt z1.2 2) (some (0,(0,false))) (some ((iConv .i64 z1.1),((iAdd .i64 x.2 z1.2),
 true)))) (some ((iConv .i64 z1.1),((iAdd .i64 x.2 z1.2),true))))))))))
def Zfm (x:(Int×Int)):(Option (Int×Bool)):=(cnd (iEq x.1 164) (bnd (Zg (x.2,(161,243))) (fun z1=>(cnd z1 (some ((iSub .i64
 (iAdd .i64 12353 x.2) 161),true)) (cnd (iEq x.1 165) (bnd (Zg (x.2,(161,246))) (fun z2=>(cnd z2 (some ((iSub .i64 (iAdd .i64 12449 x.2) 161),true)) (some
 (0,false))))) (some (0,false)))))) (cnd (iEq x.1 165) (bnd (Zg (x.2,(161,246))) (fun z1=>(cnd z1 (some ((iSub .i64 (iAdd .i64 12449 x.2) 161),true)) (some
 (0,false))))) (some (0,false))))
def Zdt (x:((List UInt8)×Int)):(Option (Int×(Int×Bool))):=(cnd (iLt x.2 0) (some (0,(0,false))) (cnd (iGe x.2 (lLen x.1)) (some (0,(0,false)))
 (bnd (idx x.1 x.2) (fun z1=>(cnd (iLe (y2i z1) (y2i (u8 127))) (bnd (idx x.1 x.2) (fun z2=>(some ((iConv .i64 (y2i z2)),((iAdd .i64 x.2 1),true)))))
 (cnd (iEq (iAdd .i64 x.2 1) (lLen x.1)) (some (0,(0,false))) (bnd (idx x.1 x.2) (fun z2=>(bnd (idx x.1 (iAdd .i64 x.2 1)) (fun z3=>(bnd (Zfm
 ((iConv .i64 (y2i z2)),(iConv .i64 (y2i z3)))) (fun z4=>(cnd (bNot z4.2) (some (0,(0,false))) (some (z4.1,((iAdd .i64 x.2 2),true))))))))))))))))
def Zgg (x:Int):(Option Int):=(cnd (iEq x 164) (some 8364) (cnd (iEq x 166) (some 352) (cnd (iEq x 168) (some 353) (cnd (iEq x 180) (some 381) (cnd
 (iEq x 184) (some 382) (cnd (iEq x 188) (some 338) (cnd (iEq x 189) (some 339) (cnd (iEq x 190) (some 376) (some x)))))))))
def Zgh (x:Int):(Option Int):=(cnd (iGe x 224) (chk (iLe 0 (iSub .i64 x 224)) (chk (iLt (iSub .i64 x 224) 32) (bnd (idx [1102,1072,1073,1094,1076,
 1077,1092,1075,1093,1080,1081,1082,1083,1084,1085,1086,1087,1103,1088,1089,1090,1091,1078,1074,1100,1099,1079,1096,1101,1097,1095,1098] (Int.ofNat (0 +
 ((nOf (iSub .i64 x 224))*1)))) (fun z1=>(some (iSub .i64 z1 32)))))) (cnd (iGe x 192) (chk (iLe 0 (iSub .i64 x 192)) (chk (iLt (iSub .i64 x 192) 32) (bnd (idx [1102,
 1072,1073,1094,1076,1077,1092,1075,1093,1080,1081,1082,1083,1084,1085,1086,1087,1103,1088,1089,1090,1091,1078,1074,1100,1099,1079,1096,1101,1097,
 1095,1098] (Int.ofNat (0+((nOf (iSub .i64 x 192))*1)))) (fun z1=>(some z1))))) (cnd (iEq x 163) (some 1105) (cnd (iEq x 179) (some 1025) (some 0)))))
def Zgi (x:Int):(Option Int):=(cnd (iGe x 160) (some x) (chk (iLe 0 (iSub .i64 x 128)) (chk (iLt (iSub .i64 x 128) 32) (bnd (idx [8364,0,8218,402,
 8222,8230,8224,8225,710,8240,352,8249,338,0,381,0,0,8216,8217,8220,8221,8226,8211,8212,732,8482,353,8250,339,0,382,376] (Int.ofNat (0+((nOf (iSub
 .i64 x 128))*1)))) (fun z1=>(some z1))))))
def Zbh (x:(Int×Int)):(Option (Int×Bool)):=(bnd (Zg (x.1,(1,4))) (fun z1=>(cnd (bNot z1) (some (0,false)) (bnd (Zg
 (x.2,(0,255))) (fun z2=>(cnd (bNot z2) (some (0,false)) (cnd (iLe x.2 127) (some (x.2,true)) (joinX (cnd (iEq x.1 2) (bnd (Zgg x.2) (fun z3 =>
 (some (.inl z3)))) (cnd (iEq x.1 3) (bnd (Zgh x.2) (fun z3=>(some (.inl z3)))) (cnd (iEq x.1 4) (bnd (Zgi x.2) (fun z3=>(some (.inl z3))))
 (some (.inl x.2))))) (fun (z3:Int)=>(some (z3,(iNe z3 0))))))))))))
def Zdu (x:(Int×((List UInt8)×Int))):(Option (Int×(Int×Bool))):=(cnd (iEq x.1 0) (bnd (Zds (x.2.1,x.2.2)) (fun z1=>(some (z1.1,(z1.2.1,z1.2.2))))) (cnd (iEq x.1 5) (bnd (Zdt (x.2.1,x.2.2)) (fun z1=>(some (z1.1,(z1.2.1,z1.2.2))))) (bnd (idx
 x.2.1 x.2.2) (fun z1=>(bnd (Zbh (x.1,(iConv .i64 (y2i z1)))) (fun z2=>(some (z2.1,((iAdd .i64 x.2.2 1),z2.2)))))))))
def Zfn (x:Int):(Option Bool):=(bnd (Zg (x,(0,1114111))) (fun z1=>(cnd z1 (bnd (Zg (x,(55296,57343))) (fun z2 =>
 (some (bNot z2)))) (some false))))
def Zfo (x:((List UInt8)×Int)):(Option (List UInt8)):=(cnd (iLe (iConv .u32 x.2) 2047) (chk (room (x.1.length+2) 1) (some (lApp x.1
 [(u8 (iOr .u8 (y2i (u8 192)) (y2i (u8 (iConv .u8 (iShr .i32 x.2 6)))))),(u8 (iOr .u8 (y2i (u8 128)) (y2i (u8 (iAnd .u8 (y2i (u8 (iConv .u8 x.2))) (y2i (u8 63)))))))]))) (joinX
 (cnd (iLt (iConv .u32 x.2) 55296) (some (.inl true)) (cnd (iLt 57343 (iConv .u32 x.2)) (some (.inl (iLe (iConv .u32 x.2) 65535))) (some (.inl false)))) (fun (z1:Bool)=>(cnd
 z1 (chk (room (x.1.length+3) 1) (some (lApp x.1 [(u8 (iOr .u8 (y2i (u8 224)) (y2i (u8 (iConv .u8 (iShr .i32 x.2 12)))))),(u8 (iOr .u8 (y2i (u8 128)) (y2i (u8 (iAnd .u8 (y2i
 (u8 (iConv .u8 (iShr .i32 x.2 6)))) (y2i (u8 63))))))),(u8 (iOr .u8 (y2i (u8 128)) (y2i (u8 (iAnd .u8 (y2i (u8 (iConv .u8 x.2))) (y2i (u8 63)))))))]))) (cnd (iGt (iConv .u32
 x.2) 65535) (cnd (iLe (iConv .u32 x.2) 1114111) (chk (room (x.1.length+4) 1) (some (lApp x.1 [(u8 (iOr .u8 (y2i (u8 240)) (y2i (u8 (iConv .u8 (iShr .i32 x.2 18)))))),(u8 (iOr
 .u8 (y2i (u8 128)) (y2i (u8 (iAnd .u8 (y2i (u8 (iConv .u8 (iShr .i32 x.2 12)))) (y2i (u8 63))))))),(u8 (iOr .u8 (y2i (u8 128)) (y2i (u8 (iAnd .u8 (y2i (u8 (iConv .u8 (iShr .i32
 x.2 6)))) (y2i (u8 63))))))),(u8 (iOr .u8 (y2i (u8 128)) (y2i (u8 (iAnd .u8 (y2i (u8 (iConv .u8 x.2))) (y2i (u8 63)))))))]))) (chk (room (x.1.length+3) 1) (some (lApp x.1 [(u8
 239),(u8 191),(u8 189)])))) (chk (room (x.1.length+3) 1) (some (lApp x.1 [(u8 239),(u8 191),(u8 189)]))))))))
def Zfp (x:((List UInt8)×Int)):(Option (List UInt8)):=(cnd (iLe (iConv .u32 x.2) 127) (chk (room (x.1.length+1) 1) (some (lApp x.1 [(u8 (iConv
 .u8 x.2))]))) (bnd (Zfo (x.1,x.2)) (fun z1=>(some z1))))
def Zdv (x:((List UInt8)×Int)):(Option (List UInt8)):=(bnd (Zci [x.1]) (fun z1=>(bnd (Zfn x.2) (fun z2 =>
 (cnd (bNot z2) (some z1) (bnd (Zfp (z1,(iConv .i32 x.2))) (fun z3=>(some z3))))))))
def Zfq (x:(Int×(List UInt8))):((List UInt8)×Int)->Option (((List UInt8)×Int) ⊕ ((List UInt8) ⊕ ((List UInt8)×Bool))):=fun (z2:((List UInt8)
 × Int))=>(cnd (iLt z2.2 (lLen x.2)) (bnd (Zdu (x.1,(x.2,z2.2))) (fun z3=>(cnd (bNot z3.2.2) (some (.inr (.inr ([],false)))) (bnd
 (Zdv (z2.1,z3.1)) (fun z4=>(some (.inl (z4,z3.2.1)))))))) (some (.inr (.inl z2.1))))
def Zdw (x:(Int×(List UInt8))):(Option ((List UInt8)×Bool)):=(bnd (Zdq x.1) (fun z1=>(cnd (bNot z1) (some ([],false)) (joinX (loopX
 (Zfq x) ([],0)) (fun (z2:(List UInt8))=>(some (z2,true)))))))
def Zbi (x:(Int×(List UInt8))):(Option ((List UInt8)×Bool)):=(bnd (Zcm (x.1,x.2)) (fun z1=>(cnd (bNot z1) (some ([],false))
 (bnd (Zdw (x.1,x.2)) (fun z2=>(some (z2.1,z2.2)))))))
def Zfr (x:((Int×(List UInt8))×(Int×(List UInt8)))):(Option Bool):=(bnd (Zbi (x.1.1,x.1.2)) (fun z1=>(bnd
 (Zbi (x.2.1,x.2.2)) (fun z2=>(cnd z1.2 (cnd z2.2 (some (sEq z1.1 z2.1)) (some false)) (some false))))))
def Zbj (x:((List UInt8)×((Int×(List UInt8))×((Int×(List UInt8))×(Int×Bool))))):(Option Bool):=(bnd (Zcl x.1) (fun z1=>(cnd
 (bNot z1) (some false) (bnd (Zg (x.2.2.2.1,(1,3))) (fun z2=>(cnd (bNot z2) (some false) (bnd (Zbi (x.2.1.1,x.2.1.2)) (fun z3=>(bnd (Zbi (x.2.2.1.1,x.2.2.1.2)) (fun z4=>(bnd (Zj ((x.2.1.1,x.2.1.2),(0,[]))) (fun z5=>(joinX (cnd (iNe
 x.2.2.2.1 2) (bnd (Zcm (x.2.1.1,x.2.1.2)) (fun z6=>(cnd z6 (cnd (iNe x.2.1.1 0) (cnd z3.2 (some (.inl true)) (cnd x.2.2.2.2 (some (.inl (iEq x.2.2.2.1 1)))
 (some (.inl false)))) (some (.inl false))) (some (.inl false))))) (some (.inl z5))) (fun (z6:Bool)=>(bnd (Zj ((x.2.2.1.1,x.2.2.1.2),(0,[]))) (fun z7 =>
 (joinX (cnd (iNe x.2.2.2.1 1) (cnd (iEq x.2.2.1.1 0) (some (.inl z4.2)) (some (.inl false))) (some (.inl z7))) (fun (z8:Bool)=>(cnd z6 (cnd z8 (cnd (iNe x.2.2.2.1 3) (some
 true) (bnd (Zfr ((x.2.1.1,x.2.1.2),(x.2.2.1.1,x.2.2.1.2))) (fun z9=>(some z9)))) (some false)) (some false))))))))))))))))))))
def Zco (x:Int):(Option Bool):=(bnd (Zg (x,(0,65535))) (fun z1=>(some z1)))
def Zdx (x:(Int×(((List UInt8)×((Int×(List UInt8))×((Int×(List UInt8))×(Int×Bool))))×((List UInt8)×(Int×(Int×(Int×Int))))))):(Option
 Bool):=(bnd (Zv ((x.2.1.1,((x.2.1.2.1.1,x.2.1.2.1.2),((x.2.1.2.2.1.1,x.2.1.2.2.1.2),(x.2.1.2.2.2.1,x.2.1.2.2.2.2)))),([],((0,[]),((0,[]),(0,false))))))
 (fun z1=>(joinX (cnd (iEq x.1 1) (bnd (Zbj (x.2.1.1,((x.2.1.2.1.1,x.2.1.2.1.2),((x.2.1.2.2.1.1,x.2.1.2.2.1.2),(x.2.1.2.2.2.1,x.2.1.2.2.2.2))))) (fun z2=>(cnd z2 (cnd (sEq x.2.2.1 []) (some (.inl (iEq x.2.2.2.1 0))) (some (.inl false))) (some (.inl false))))) (cnd (iEq x.1 2) (cnd z1 (bnd (Zcl x.2.2.1) (fun z2=>(cnd z2 (some (.inl (iEq x.2.2.2.1 0))) (some (.inl false))))) (some (.inl false))) (cnd (iEq x.1 3) (cnd z1 (cnd (sEq x.2.2.1 []) (bnd (Zg (x.2.2.2.1,(0,7)))
 (fun z2=>(some (.inl z2)))) (some (.inl false))) (some (.inl false))) (cnd (iEq x.1 4) (cnd z1 (cnd (sEq x.2.2.1 []) (cnd (iEq x.2.2.2.1 0) (some (.inl (iNe
 x.2.2.2.2.1 0))) (some (.inl false))) (some (.inl false))) (some (.inl false))) (some (.inl false)))))) (fun (z2:Bool)=>(cnd (iEq x.2.2.2.2.1 0) (cnd z2 (cnd (iEq
 x.2.2.2.2.2.1 0) (some (iEq x.2.2.2.2.2.2 0)) (some false)) (some false)) (cnd z2 (bnd (Zg (x.2.2.2.2.1,(1,9))) (fun z3=>(cnd z3 (bnd (Zco
 x.2.2.2.2.2.1) (fun z4=>(cnd z4 (bnd (Zg (x.2.2.2.2.2.2,(0,6))) (fun z5=>(some z5))) (some false)))) (some false)))) (some false)))))))
def Zdy (x:((List ((List UInt8)×((Int×(List UInt8))×((Int×(List UInt8))×(Int×Bool)))))×(Int×(List (Int×(Int×Int)))))):(Int)->Option
 ((Int) ⊕ (Unit ⊕ Bool)):=fun (z1:Int)=>(cnd (iLt z1 (lLen x.1)) (bnd (idx x.1 z1) (fun z2=>(bnd (Zbj (z2.1,((z2.2.1.1,z2.2.1.2),((z2.2.2.1.1,z2.2.2.1.2),(z2.2.2.2.1,z2.2.2.2.2))))) (fun z3=>(cnd (bNot z3) (some (.inr (.inr false)))
 (cnd (iGt z1 0) (bnd (idx x.1 (iSub .i64 z1 1)) (fun z4=>(cnd (bNot (sLt z4.1 z2.1)) (some
 (.inr (.inr false))) (some (.inl (iAdd .i64 z1 1)))))) (some (.inl (iAdd .i64 z1 1))))))))) (some (.inr (.inl ()))))
def Zdz (x:((List ((List UInt8)×((Int×(List UInt8))×((Int×(List UInt8))×(Int×Bool)))))×(Int×(List (Int×(Int×Int)))))):(Int)->Option
 ((Int) ⊕ (Unit ⊕ Bool)):=fun (z2:Int)=>(cnd (iLt z2 (lLen x.2.2)) (bnd (idx x.2.2 z2) (fun z3=>(bnd (Zg (z3.1,(1,9))) (fun z4
 => (cnd (bNot z4) (some (.inr (.inr false))) (bnd (Zco z3.2.1) (fun z5=>(cnd (bNot z5) (some (.inr (.inr false))) (bnd (Zg (z3.2.2,(0,6))) (fun z6=>(cnd (bNot z6) (some (.inr (.inr false))) (cnd (iGt z2 0) (bnd (idx x.2.2 (iSub .i64 z2 1)) (fun z7=>(cnd (iGe z7.1 z3.1) (some (.inr (.inr
 false))) (some (.inl (iAdd .i64 z2 1)))))) (some (.inl (iAdd .i64 z2 1))))))))))))))) (some (.inr (.inl ()))))
def Zbk (x:((List ((List UInt8)×((Int×(List UInt8))×((Int×(List UInt8))×(Int×Bool)))))×(Int×(List (Int×(Int×Int)))))):(Option Bool) :=
 (joinX (loopX (Zdy x) 0) (fun (z1:Unit)=>(joinX (loopX (Zdz x) 0) (fun (z2:Unit)=>(cnd (iLe (lLen x.1) 8) (bnd (Zg (x.2.1,(0,7))) (fun z3=>(some z3))) (some false))))))
def Zea (x:((List ((List UInt8)×((Int×(Option (List UInt8)))×((Int×(Option (List UInt8)))×(Int×Bool)))))×((List UInt8)×((Int×(List
 UInt8))×((Int×(List UInt8))×(Int×Bool)))))):((List ((List UInt8)×((Int×(List UInt8))×((Int×(List UInt8))×(Int×Bool)))))×(Bool×((List ((List UInt8) ×
 ((Int×(Option (List UInt8)))×((Int×(Option (List UInt8)))×(Int×Bool)))))×Int)))->Option (((List ((List UInt8)×((Int×(List UInt8))×((Int×(List UInt8))×(Int
 × Bool)))))×(Bool×((List ((List UInt8)×((Int×(Option (List UInt8)))×((Int×(Option (List UInt8)))×(Int×Bool)))))×Int))) ⊕ (((List ((List UInt8)×((Int×(List
 UInt8))×((Int×(List UInt8))×(Int×Bool)))))×Bool) ⊕ (List ((List UInt8)×((Int×(List UInt8))×((Int×(List UInt8))×(Int×Bool))))))):=fun (z1:((List ((List
 UInt8)×((Int×(List UInt8))×((Int×(List UInt8))×(Int×Bool)))))×(Bool×((List ((List UInt8)×((Int×(Option (List UInt8)))×((Int×(Option (List UInt8)))×(Int
 × Bool)))))×Int))))=>(cnd (iLt z1.2.2.2 (lLen x.1)) (joinX (bnd (idx z1.2.2.1 z1.2.2.2) (fun z2=>(chk (hSome z2.2.1.2) (chk (hSome z2.2.2.1.2) (joinX (cnd (bNot z1.2.1) (cnd (bNot (sLt z2.1 x.2.1)) (bnd (Zk x.2) (fun z3=>(chk (room (z1.1.length+1) 96) (some (.inl ((lApp z1.1 [z3]),true)))))) (some (.inl (z1.1,
 z1.2.1)))) (some (.inl (z1.1,z1.2.1)))) (fun (z3:((List ((List UInt8)×((Int×(List UInt8))×((Int×(List UInt8))×(Int×Bool)))))×Bool))=>(cnd (bNot (sEq z2.1
 x.2.1)) (bnd (idx z1.2.2.1 (Int.ofNat (nOf z1.2.2.2))) (fun z4=>(bnd (idx
 (lSet z1.2.2.1 (nOf z1.2.2.2) (z4.1,((z4.2.1.1,none),z4.2.2))) (Int.ofNat (nOf z1.2.2.2))) (fun z5=>(chk (room (z3.1.length+1) 96) (some (.inl ((lApp z3.1 [(z2.1,((z2.2.1.1,(hGet z2.2.1.2)),((z2.2.2.1.1,(hGet z2.2.2.1.2)),z2.2.2.2)))]),
 (z3.2,(lSet (lSet z1.2.2.1 (nOf z1.2.2.2) (z4.1,((z4.2.1.1,none),z4.2.2))) (nOf z1.2.2.2) (z5.1,(z5.2.1,((z5.2.2.1.1,none),z5.2.2.2))))))))))))) (some (.inl (z3.1,(z3.2,
 z1.2.2.1))))))))))) (fun (z2:((List ((List UInt8)×((Int×(List UInt8))×((Int×(List UInt8))×(Int×Bool)))))×(Bool×(List ((List UInt8)×((Int×(Option (List
 UInt8)))×((Int×(Option (List UInt8)))×(Int×Bool))))))))=>(some (.inl (z2.1,(z2.2.1,(z2.2.2,(iAdd .i64 z1.2.2.2 1)))))))) (some (.inr (.inl (z1.1,z1.2.1)))))
def Zcp (x:((List ((List UInt8)×((Int×(Option (List UInt8)))×((Int×(Option (List UInt8)))×(Int×Bool)))))×((List UInt8)×((Int×(List UInt8))
 × ((Int×(List UInt8))×(Int×Bool)))))):(Option (List ((List UInt8)×((Int×(List UInt8))×((Int×(List UInt8))×(Int×Bool)))))):=(joinX (loopX (Zea x)
 ([],(false,(x.1,0)))) (fun (z1:((List ((List UInt8)×((Int×(List UInt8))×((Int×(List UInt8))×(Int×Bool)))))×Bool))=>(joinX (cnd (bNot z1.2) (bnd (Zk
 x.2) (fun z2=>(chk (room (z1.1.length+1) 96) (some (.inl (lApp z1.1 [z2])))))) (some (.inl
 z1.1))) (fun (z2:(List ((List UInt8)×((Int×(List UInt8))×((Int×(List UInt8))×(Int×Bool))))))=>(some z2)))))
def Zcq (x:(((List UInt8)×((Int×(List UInt8))×((Int×(List UInt8))×(Int×Bool))))×(Int×(((List UInt8)×((Int×(List UInt8))×((Int×(List
 UInt8))×(Int×Bool))))×((List UInt8)×(Int×(Int×(Int×Int)))))))):(Option (Bool×(Int×((List UInt8)×(Int×(Int×(Int×(Bool×((List UInt8)×(Int×(Int ×
 (Int×Int)))))))))))):=(some ((sEq x.1.1 x.2.2.2.1),(x.2.1,(x.2.2.1.1,(x.2.2.1.2.1.1,(x.2.2.1.2.2.1.1,(x.2.2.1.2.2.2.1,(x.2.2.1.2.2.2.2,x.2.2.2))))))))
def Zfs (x:((List ((List UInt8)×((Int×(List UInt8))×((Int×(List UInt8))×(Int×Bool)))))×(Int×(((List UInt8)×((Int ×
 (List UInt8))×((Int×(List UInt8))×(Int×Bool))))×((List UInt8)×(Int×(Int×(Int×Int)))))))):(Int×((List UInt8)×(Int×(Int×(Int×(Bool×((List UInt8) ×
 (Int×(Int×(Int×(Int×Int)))))))))))->Option ((Int×((List UInt8)×(Int×(Int×(Int×(Bool×((List UInt8)×(Int×(Int×(Int×(Int×Int))))))))))) ⊕ (Int×(Int
 × ((List UInt8)×(Int×(Int×(Int×(Bool×((List UInt8)×(Int×(Int×(Int×Int)))))))))))):=fun (z1:(Int×((List UInt8)×(Int×(Int×(Int×(Bool×((List UInt8)
 × (Int×(Int×(Int×(Int×Int))))))))))))=>(cnd (iLt z1.2.2.2.2.2.2.2.2.2.2.2 (lLen x.1)) (bnd (idx x.1 z1.2.2.2.2.2.2.2.2.2.2.2) (fun z2=>(bnd (Zcq (z2,(z1.1,((z1.2.1,((z1.2.2.1,x.2.2.1.2.1.2),((z1.2.2.2.1,x.2.2.1.2.2.1.2),(z1.2.2.2.2.1,
 z1.2.2.2.2.2.1)))),(z1.2.2.2.2.2.2.1,(z1.2.2.2.2.2.2.2.1,(z1.2.2.2.2.2.2.2.2.1,(z1.2.2.2.2.2.2.2.2.2.1,z1.2.2.2.2.2.2.2.2.2.2.1)))))))) (fun z3=>(cnd z3.1 (some (.inr (z1.2.2.2.2.2.2.2.2.2.2.2,z3.2))) (some (.inl (z3.2.1,
 (z3.2.2.1,(z3.2.2.2.1,(z3.2.2.2.2.1,(z3.2.2.2.2.2.1,(z3.2.2.2.2.2.2.1,(z3.2.2.2.2.2.2.2.1,(z3.2.2.2.2.2.2.2.2.1,(z3.2.2.2.2.2.2.2.2.2.1,(z3.2.2.2.2.2.2.2.2.2.2.1,
 (z3.2.2.2.2.2.2.2.2.2.2.2,(iAdd .i64 z1.2.2.2.2.2.2.2.2.2.2.2 1))))))))))))))))))) (some (.inr ((-1),(z1.1,(z1.2.1,(z1.2.2.1,(z1.2.2.2.1,(z1.2.2.2.2.1,(z1.2.2.2.2.2.1,
 (z1.2.2.2.2.2.2.1,(z1.2.2.2.2.2.2.2.1,(z1.2.2.2.2.2.2.2.2.1,(z1.2.2.2.2.2.2.2.2.2.1,z1.2.2.2.2.2.2.2.2.2.2.1))))))))))))))
def Zeb (x:((List ((List UInt8)×((Int×(List UInt8))×((Int×(List UInt8))×(Int×Bool)))))×(Int×(((List UInt8)×((Int×(List
 UInt8))×((Int×(List UInt8))×(Int×Bool))))×((List UInt8)×(Int×(Int×(Int×Int)))))))):(Option (Int×(Int×((List UInt8)×(Int×(Int×(Int×(Bool×((List
 UInt8)×(Int×(Int×(Int×Int)))))))))))):=(loopX (Zfs x) (x.2.1,(x.2.2.1.1,(x.2.2.1.2.1.1,(x.2.2.1.2.2.1.1,(x.2.2.1.2.2.2.1,
 (x.2.2.1.2.2.2.2,(x.2.2.2.1,(x.2.2.2.2.1,(x.2.2.2.2.2.1,(x.2.2.2.2.2.2.1,(x.2.2.2.2.2.2.2,0))))))))))))
def Zcr (x:((List ((List UInt8)×((Int×(Option (List UInt8)))×((Int×(Option (List UInt8)))×(Int×Bool)))))×(Int×(((List
 UInt8)×((Int×(List UInt8))×((Int×(List UInt8))×(Int×Bool))))×((List UInt8)×(Int×(Int×(Int×Int)))))))):((List ((List UInt8)×((Int×(Option (List
 UInt8)))×((Int×(Option (List UInt8)))×(Int×Bool)))))×(Int×((List UInt8)×(Int×(Int×(Int×(Bool×((List UInt8)×(Int×(Int×(Int×(Int×(Int ×
 Int)))))))))))))->Option (((List ((List UInt8)×((Int×(Option (List UInt8)))×((Int×(Option (List UInt8)))×(Int×Bool)))))×(Int×((List UInt8)×(Int×(Int×(Int ×
 (Bool×((List UInt8)×(Int×(Int×(Int×(Int×(Int×Int))))))))))))) ⊕ (((List ((List UInt8)×((Int×(Option (List UInt8)))×((Int×(Option (List UInt8)))×(Int ×
 Bool)))))×(Int×((List UInt8)×(Int×(Int×(Int×(Bool×((List UInt8)×(Int×(Int×(Int×(Int×Int)))))))))))) ⊕ ((List ((List UInt8)×((Int×(List UInt8))×((Int
 × (List UInt8))×(Int×Bool)))))×(Int×((List UInt8)×(Int×(Int×(Int×(Bool×((List UInt8)×(Int×(Int×(Int×Int))))))))))))):=fun (z3:((List ((List UInt8) ×
 ((Int×(Option (List UInt8)))×((Int×(Option (List UInt8)))×(Int×Bool)))))×(Int×((List UInt8)×(Int×(Int×(Int×(Bool×((List UInt8)×(Int×(Int×(Int×(Int
 × (Int×Int))))))))))))))=>(cnd (iLt z3.2.2.2.2.2.2.2.2.2.2.2.2.2 (lLen z3.1)) (joinX (bnd (idx z3.1 z3.2.2.2.2.2.2.2.2.2.2.2.2.2) (fun z4=>(chk (hSome z4.2.1.2) (chk (hSome z4.2.2.1.2) (bnd (Zcq ((z4.1,((z4.2.1.1,(hGet z4.2.1.2)),
 ((z4.2.2.1.1,(hGet z4.2.2.1.2)),z4.2.2.2))),(z3.2.1,((z3.2.2.1,((z3.2.2.2.1,x.2.2.1.2.1.2),((z3.2.2.2.2.1,x.2.2.1.2.2.1.2),(z3.2.2.2.2.2.1,z3.2.2.2.2.2.2.1)))),
 (z3.2.2.2.2.2.2.2.1,(z3.2.2.2.2.2.2.2.2.1,(z3.2.2.2.2.2.2.2.2.2.1,(z3.2.2.2.2.2.2.2.2.2.2.1,z3.2.2.2.2.2.2.2.2.2.2.2.1)))))))) (fun z5=>(cnd (bNot z5.1) (bnd (idx z3.1 z3.2.2.2.2.2.2.2.2.2.2.2.2.1) (fun z6=>(chk (nNe (nOf z3.2.2.2.2.2.2.2.2.2.2.2.2.1) (nOf z3.2.2.2.2.2.2.2.2.2.2.2.2.2)) (bnd (idx z3.1
 (Int.ofNat (nOf z3.2.2.2.2.2.2.2.2.2.2.2.2.2))) (fun z7=>(chk (nEq (nOf
 z3.2.2.2.2.2.2.2.2.2.2.2.2.2) (nOf z3.2.2.2.2.2.2.2.2.2.2.2.2.2)) (chk (nEq (nOf z3.2.2.2.2.2.2.2.2.2.2.2.2.2) (nOf z3.2.2.2.2.2.2.2.2.2.2.2.2.2)) (some (.inl ((lSet (lSet z3.1
 (nOf z3.2.2.2.2.2.2.2.2.2.2.2.2.1) (z4.1,((z4.2.1.1,(some (hGet z4.2.1.2))),((z4.2.2.1.1,(some (hGet z4.2.2.1.2))),z4.2.2.2)))) (nOf z3.2.2.2.2.2.2.2.2.2.2.2.2.2) (z7.1,
 ((z7.2.1.1,none),((z7.2.2.1.1,none),z7.2.2.2)))),(z5.2.1,(z5.2.2.1,(z5.2.2.2.1,(z5.2.2.2.2.1,(z5.2.2.2.2.2.1,(z5.2.2.2.2.2.2.1,(z5.2.2.2.2.2.2.2.1,
 (z5.2.2.2.2.2.2.2.2.1,(z5.2.2.2.2.2.2.2.2.2.1,(z5.2.2.2.2.2.2.2.2.2.2.1,(z5.2.2.2.2.2.2.2.2.2.2.2,(iAdd .i64 z3.2.2.2.2.2.2.2.2.2.2.2.2.1 1)))))))))))))))))))))) (some (.inl
 (z3.1,(z5.2.1,(z5.2.2.1,(z5.2.2.2.1,(z5.2.2.2.2.1,(z5.2.2.2.2.2.1,(z5.2.2.2.2.2.2.1,(z5.2.2.2.2.2.2.2.1,(z5.2.2.2.2.2.2.2.2.1,(z5.2.2.2.2.2.2.2.2.2.1,
 (z5.2.2.2.2.2.2.2.2.2.2.1,(z5.2.2.2.2.2.2.2.2.2.2.2,z3.2.2.2.2.2.2.2.2.2.2.2.2.1))))))))))))))))))))) (fun (z4:((List ((List UInt8)×((Int×(Option (List UInt8)))×((Int ×
 (Option (List UInt8)))×(Int×Bool)))))×(Int×((List UInt8)×(Int×(Int×(Int×(Bool×((List UInt8)×(Int×(Int×(Int×(Int×Int)))))))))))))=>(some (.inl (z4.1,
 (z4.2.1,(z4.2.2.1,(z4.2.2.2.1,(z4.2.2.2.2.1,(z4.2.2.2.2.2.1,(z4.2.2.2.2.2.2.1,(z4.2.2.2.2.2.2.2.1,(z4.2.2.2.2.2.2.2.2.1,(z4.2.2.2.2.2.2.2.2.2.1,
 (z4.2.2.2.2.2.2.2.2.2.2.1,(z4.2.2.2.2.2.2.2.2.2.2.2.1,(z4.2.2.2.2.2.2.2.2.2.2.2.2,(iAdd .i64 z3.2.2.2.2.2.2.2.2.2.2.2.2.2 1)))))))))))))))))) (some (.inr (.inl (z3.1,(z3.2.1,
 (z3.2.2.1,(z3.2.2.2.1,(z3.2.2.2.2.1,(z3.2.2.2.2.2.1,(z3.2.2.2.2.2.2.1,(z3.2.2.2.2.2.2.2.1,(z3.2.2.2.2.2.2.2.2.1,(z3.2.2.2.2.2.2.2.2.2.1,(z3.2.2.2.2.2.2.2.2.2.2.1,
 (z3.2.2.2.2.2.2.2.2.2.2.2.1,z3.2.2.2.2.2.2.2.2.2.2.2.2.1))))))))))))))))
def Zcs (x:((List ((List UInt8)×((Int×(Option (List UInt8)))×((Int×(Option (List UInt8)))×(Int×Bool)))))×(Int×(((List
 UInt8)×((Int×(List UInt8))×((Int×(List UInt8))×(Int×Bool))))×((List UInt8)×(Int×(Int×(Int×Int)))))))):(Option ((List ((List UInt8)×((Int×(List UInt8))
 × ((Int×(List UInt8))×(Int×Bool)))))×(Int×((List UInt8)×(Int×(Int×(Int×(Bool×((List UInt8)×(Int×(Int×(Int×Int)))))))))))):=(bnd (cvL (.P .S (.P (.P
 (.I .i64) (.H .Y)) (.P (.P (.I .i64) (.H .Y)) (.P (.I .i64) .B)))) (.P .S (.P (.P (.I .i64) (.L .Y)) (.P (.P (.I .i64) (.L .Y)) (.P (.I .i64) .B)))) x.1) (fun z1=>(bnd (Zeb (z1,x.2)) (fun z2=>(cnd (iEq z2.1 (-1)) (bnd (cvL (.P .S (.P (.P (.I .i64) (.H .Y)) (.P (.P (.I .i64) (.H .Y)) (.P (.I .i64)
 .B)))) (.P .S (.P (.P (.I .i64) (.L .Y)) (.P (.P (.I .i64) (.L .Y)) (.P (.I .i64) .B)))) x.1) (fun z3=>(some (z3,z2.2)))) (joinX (loopX (Zcr x) (x.1,(z2.2.1,(z2.2.2.1,(z2.2.2.2.1,(z2.2.2.2.2.1,(z2.2.2.2.2.2.1,
 (z2.2.2.2.2.2.2.1,(z2.2.2.2.2.2.2.2.1,(z2.2.2.2.2.2.2.2.2.1,(z2.2.2.2.2.2.2.2.2.2.1,(z2.2.2.2.2.2.2.2.2.2.2.1,(z2.2.2.2.2.2.2.2.2.2.2.2,(z2.1,(iAdd .i64 z2.1
 1))))))))))))))) (fun (z3:((List ((List UInt8)×((Int×(Option (List UInt8)))×((Int×(Option (List UInt8)))×(Int×Bool)))))×(Int×((List UInt8)×(Int×(Int×(Int
 × (Bool×((List UInt8)×(Int×(Int×(Int×(Int×Int)))))))))))))=>(chk (within z3.2.2.2.2.2.2.2.2.2.2.2.2 (lLen z3.1) (lLen z3.1)) (chk (nEq ((nOf
 z3.2.2.2.2.2.2.2.2.2.2.2.2)+((nOf (lLen z3.1))-(nOf z3.2.2.2.2.2.2.2.2.2.2.2.2))) z3.1.length) (chk (within 0 z3.2.2.2.2.2.2.2.2.2.2.2.2 (lLen (lApp (lTake (nOf
 z3.2.2.2.2.2.2.2.2.2.2.2.2) z3.1) (lRep ((nOf (lLen z3.1))-(nOf z3.2.2.2.2.2.2.2.2.2.2.2.2)) ([],((0,none),((0,none),(0,false)))))))) (chk (fits 0 ((nOf
 z3.2.2.2.2.2.2.2.2.2.2.2.2)-0) (lApp (lTake (nOf z3.2.2.2.2.2.2.2.2.2.2.2.2) z3.1) (lRep ((nOf (lLen z3.1))-(nOf z3.2.2.2.2.2.2.2.2.2.2.2.2)) ([],((0,none),((0,none),(0,
 false)))))).length) (bnd (cvL (.P .S (.P (.P (.I .i64) (.H .Y)) (.P (.P (.I .i64) (.H .Y)) (.P (.I .i64) .B)))) (.P .S (.P (.P (.I .i64) (.L .Y)) (.P (.P (.I .i64) (.L .Y)) (.P
 (.I .i64) .B)))) (lTake ((nOf z3.2.2.2.2.2.2.2.2.2.2.2.2)-0) (lApp (lTake (nOf z3.2.2.2.2.2.2.2.2.2.2.2.2) z3.1) (lRep ((nOf (lLen z3.1))-(nOf z3.2.2.2.2.2.2.2.2.2.2.2.2))
 ([],((0,none),((0,none),(0,false)))))))) (fun z4=>(some (z4,(z3.2.1,
 (z3.2.2.1,(z3.2.2.2.1,(z3.2.2.2.2.1,(z3.2.2.2.2.2.1,(z3.2.2.2.2.2.2.1,(z3.2.2.2.2.2.2.2.1,(z3.2.2.2.2.2.2.2.2.1,(z3.2.2.2.2.2.2.2.2.2.1,(z3.2.2.2.2.2.2.2.2.2.2.1,
 z3.2.2.2.2.2.2.2.2.2.2.2.1)))))))))))))))))))))))))
def Zft (x:((List (Int×(Int×Int)))×(Int×(Int×Int)))):((List (Int×(Int×Int)))×(Bool×Int))->Option (((List (Int×(Int×Int))) ×
 (Bool×Int)) ⊕ (((List (Int×(Int×Int)))×Bool) ⊕ (List (Int×(Int×Int))))):=fun (z1:((List (Int×(Int×Int)))×(Bool×Int)))=>(cnd (iLt z1.2.2 (lLen x.1))
 (joinX (bnd (idx x.1 z1.2.2) (fun z2=>(joinX (cnd (bNot z1.2.1) (cnd (iGe z2.1 x.2.1) (chk (room (z1.1.length+1) 24) (some (.inl ((lApp z1.1 [x.2]),
 true)))) (some (.inl (z1.1,z1.2.1)))) (some (.inl (z1.1,z1.2.1)))) (fun (z3:((List (Int×(Int×Int)))×Bool))=>(cnd (iNe z2.1 x.2.1) (chk (room (z3.1.length+1) 24)
 (some (.inl ((lApp z3.1 [z2]),z3.2)))) (some (.inl z3))))))) (fun (z2:((List (Int×(Int×Int)))×Bool))=>(some (.inl (z2.1,(z2.2,(iAdd .i64 z1.2.2 1))))))) (some (.inr
 (.inl (z1.1,z1.2.1)))))
def Zbs (x:((List (Int×(Int×Int)))×(Int×(Int×Int)))):(Option (List (Int×(Int×Int)))):=(joinX (loopX (Zft x) ([],(false,0)))
 (fun (z1:((List (Int×(Int×Int)))×Bool))=>(joinX (cnd (bNot z1.2) (chk (room (z1.1.length+1) 24) (some (.inl (lApp z1.1 [x.2])))) (some (.inl z1.1))) (fun (z2:(List
 (Int×(Int×Int))))=>(some z2)))))
def Zec (x:(((List ((List UInt8)×((Int×(List UInt8))×((Int×(List UInt8))×(Int×Bool)))))×(Int×(List (Int×(Int×Int)))))×(Int×(((List
 UInt8)×((Int×(List UInt8))×((Int×(List UInt8))×(Int×Bool))))×((List UInt8)×(Int×(Int×(Int×Int)))))))):(Option (((List ((List UInt8)×((Int×(List
 UInt8))×((Int×(List UInt8))×(Int×Bool)))))×(Int×(List (Int×(Int×Int)))))×Bool)):=(bnd (Zck x.1) (fun z1=>(bnd (Zdx x.2) (fun z2=>(cnd (bNot z2) (some (z1,false)) (bnd
 (Zbk x.1) (fun z3=>(cnd (bNot z3) (some (z1,false)) (joinX (cnd (iEq x.2.1 1) (bnd (cvL (.P .S (.P (.P (.I .i64) (.L .Y)) (.P (.P (.I .i64) (.L .Y)) (.P (.I
 .i64) .B)))) (.P .S (.P (.P (.I .i64) (.H .Y)) (.P (.P (.I .i64) (.H .Y)) (.P (.I .i64) .B)))) z1.1) (fun z4=>(bnd (Zcp (z4,x.2.2.1)) (fun z5
 => (some (.inl (x.2.1,(x.2.2.1.1,(x.2.2.1.2.1.1,(x.2.2.1.2.2.1.1,(x.2.2.1.2.2.2.1,(x.2.2.1.2.2.2.2,(x.2.2.2.1,(x.2.2.2.2.1,(x.2.2.2.2.2.1,(x.2.2.2.2.2.2.1,
 (x.2.2.2.2.2.2.2,(z5,z1.2.1)))))))))))))))))) (cnd (iEq x.2.1 2) (bnd (cvL (.P .S (.P (.P (.I .i64) (.L .Y)) (.P (.P (.I .i64) (.L .Y)) (.P (.I .i64) .B)))) (.P .S (.P (.P (.I
 .i64) (.H .Y)) (.P (.P (.I .i64) (.H .Y)) (.P (.I .i64) .B)))) z1.1) (fun z4=>(bnd (Zcs (z4,x.2)) (fun z5=>(some (.inl (z5.2.1,(z5.2.2.1,(z5.2.2.2.1,(z5.2.2.2.2.1,(z5.2.2.2.2.2.1,
 (z5.2.2.2.2.2.2.1,(z5.2.2.2.2.2.2.2.1,(z5.2.2.2.2.2.2.2.2.1,(z5.2.2.2.2.2.2.2.2.2.1,(z5.2.2.2.2.2.2.2.2.2.2.1,(z5.2.2.2.2.2.2.2.2.2.2.2,(z5.1,z1.2.1)))))))))))))))))) (cnd
 (iEq x.2.1 3) (some (.inl (x.2.1,(x.2.2.1.1,(x.2.2.1.2.1.1,(x.2.2.1.2.2.1.1,(x.2.2.1.2.2.2.1,(x.2.2.1.2.2.2.2,(x.2.2.2.1,(x.2.2.2.2.1,(x.2.2.2.2.2.1,(x.2.2.2.2.2.2.1,
 (x.2.2.2.2.2.2.2,(z1.1,x.2.2.2.2.1)))))))))))))) (some (.inl (x.2.1,(x.2.2.1.1,(x.2.2.1.2.1.1,(x.2.2.1.2.2.1.1,(x.2.2.1.2.2.2.1,(x.2.2.1.2.2.2.2,(x.2.2.2.1,(x.2.2.2.2.1,
 (x.2.2.2.2.2.1,(x.2.2.2.2.2.2.1,(x.2.2.2.2.2.2.2,(z1.1,z1.2.1))))))))))))))))) (fun (z4:(Int×((List UInt8)×(Int×(Int×(Int×(Bool×((List UInt8)×(Int×(Int ×
 (Int×(Int×((List ((List UInt8)×((Int×(List UInt8))×((Int×(List UInt8))×(Int×Bool)))))×Int)))))))))))))=>(joinX (cnd (iGt z4.2.2.2.2.2.2.2.2.1 0) (bnd
 (Zbs (z1.2.2,(z4.2.2.2.2.2.2.2.2.1,(z4.2.2.2.2.2.2.2.2.2.1,z4.2.2.2.2.2.2.2.2.2.2.1)))) (fun z5=>(some (.inl z5)))) (some (.inl
 z1.2.2))) (fun (z5:(List (Int×(Int×Int))))=>(bnd (Zbk (z4.2.2.2.2.2.2.2.2.2.2.2.1,(z4.2.2.2.2.2.2.2.2.2.2.2.2,z5))) (fun z6=>(cnd (bNot z6) (bnd
 (Zck x.1) (fun z7=>(some (z7,
 false)))) (some ((z4.2.2.2.2.2.2.2.2.2.2.2.1,(z4.2.2.2.2.2.2.2.2.2.2.2.2,z5)),true)))))))))))))))))
def Zw (x:((Int×(List UInt8))×(Int×(List UInt8)))):(Option Bool):=(cnd (iEq x.1.1 x.2.1) (some (sEq x.1.2 x.2.2)) (some false))
def Zx (x:(((List UInt8)×((Int×(List UInt8))×((Int×(List UInt8))×(Int×Bool))))×((List UInt8)×((Int×(List UInt8))×((Int×(List UInt8))
 × (Int×Bool)))))):(Option Bool):=(cnd (sEq x.1.1 x.2.1) (bnd (Zw (x.1.2.1,x.2.2.1)) (fun z1=>(cnd z1 (bnd (Zw (x.1.2.2.1,x.2.2.2.1)) (fun
 z2=>(cnd z2 (cnd (iEq x.1.2.2.2.1 x.2.2.2.2.1) (some (bEq x.1.2.2.2.2 x.2.2.2.2.2)) (some false)) (some false)))) (some false)))) (some false))
def Zed (x:(((List ((List UInt8)×((Int×(List UInt8))×((Int×(List UInt8))×(Int×Bool)))))×(Int×(List (Int×(Int×Int)))))×((List ((List
 UInt8)×((Int×(List UInt8))×((Int×(List UInt8))×(Int×Bool)))))×(Int×(List (Int×(Int×Int))))))):(Int)->Option ((Int) ⊕ (Unit ⊕ Bool)):=fun (z1:Int) =>
 (cnd (iLt z1 (lLen x.1.1)) (bnd (idx x.1.1 z1) (fun z2=>(bnd (idx x.2.1 z1) (fun z3=>(bnd (Zx (z2,z3)) (fun z4=>(cnd (bNot z4) (some (.inr (.inr false)))
 (some (.inl (iAdd .i64 z1 1)))))))))) (some (.inr (.inl ()))))
def Zee (x:(((List ((List UInt8)×((Int×(List UInt8))×((Int×(List UInt8))×(Int×Bool)))))×(Int×(List (Int×(Int×Int)))))×((List ((List
 UInt8)×((Int×(List UInt8))×((Int×(List UInt8))×(Int×Bool)))))×(Int×(List (Int×(Int×Int))))))):(Int)->Option ((Int) ⊕ Bool):=fun (z2:Int)=>(cnd (iLt
 z2 (lLen x.1.2.2)) (bnd (idx x.1.2.2 z2) (fun z3=>(bnd (idx x.2.2.2 z2) (fun z4=>(cnd (bNot (zEq [z3.1,z3.2.1,z3.2.2] [z4.1,
 z4.2.1,z4.2.2])) (some (.inr false)) (some (.inl (iAdd .i64 z2 1)))))))) (some (.inr true)))
def Zct (x:(((List ((List UInt8)×((Int×(List UInt8))×((Int×(List UInt8))×(Int×Bool)))))×(Int×(List (Int×(Int×Int)))))×((List ((List
 UInt8)×((Int×(List UInt8))×((Int×(List UInt8))×(Int×Bool)))))×(Int×(List (Int×(Int×Int))))))):(Option Bool):=(cnd (iNe (lLen x.1.1) (lLen x.2.1)) (some
 false) (cnd (iNe x.1.2.1 x.2.2.1) (some false) (cnd (iNe (lLen x.1.2.2) (lLen x.2.2.2)) (some false) (joinX (loopX (Zed x) 0) (fun (z1:Unit)=>(loopX (Zee
 x) 0))))))
def Zfu (x:(((List UInt8)×((Int×(List UInt8))×((Int×(List UInt8))×(Int×Bool))))×(List UInt8))):(Option (Bool×(List UInt8))):=(some ((sEq
 x.1.1 x.2),x.2))
def Zef (x:((List ((List UInt8)×((Int×(List UInt8))×((Int×(List UInt8))×(Int×Bool)))))×(List UInt8))):((List UInt8) ×
 Int)->Option (((List UInt8)×Int) ⊕ (Int×(List UInt8))):=fun (z1:((List UInt8)×Int))=>(cnd (iLt z1.2 (lLen x.1)) (bnd (idx x.1 z1.2) (fun z2=>(bnd (Zfu ((z2.1,((z2.2.1.1,z2.2.1.2),((z2.2.2.1.1,z2.2.2.1.2),(z2.2.2.2.1,z2.2.2.2.2)))),z1.1)) (fun
 z3=>(cnd z3.1 (some (.inr (z1.2,z3.2))) (some (.inl (z3.2,(iAdd .i64 z1.2 1))))))))) (some (.inr ((-1),z1.1))))
def Zeg (x:((List ((List UInt8)×((Int×(List UInt8))×((Int×(List UInt8))×(Int×Bool)))))×(List UInt8))):(Option (Int×(List
 UInt8))):=(loopX (Zef x) (x.2,0))
def Zeh (x:(((List ((List UInt8)×((Int×(List UInt8))×((Int×(List UInt8))×(Int×Bool)))))×(Int×(List (Int×(Int×Int)))))×(List UInt8))) :
 (Option Int):=(bnd (Zeg (x.1.1,x.2)) (fun z1=>(some z1.1)))
def Zfv (x:(((List ((List UInt8)×((Int×(List UInt8))×((Int×(List UInt8))×(Int×Bool)))))×(Int×(List (Int×(Int×Int)))))×Int)):(Int ×
 (Int×(Int×Int)))->Option ((Int×(Int×(Int×Int))) ⊕ ((Int×(Int×Int)) ⊕ ((Int×(Int×Int))×Bool))):=fun (z1:(Int×(Int×(Int×Int))))=>(cnd (iLt z1.2.2.2
 (lLen x.1.2.2)) (bnd (idx x.1.2.2 z1.2.2.2) (fun z2=>(cnd (iEq z2.1 x.2) (some (.inr (.inr (z2,true)))) (some (.inl (z1.1,(z1.2.1,(z1.2.2.1,(iAdd
 .i64 z1.2.2.2 1))))))))) (some (.inr (.inl (z1.1,(z1.2.1,z1.2.2.1))))))
def Zei (x:(((List ((List UInt8)×((Int×(List UInt8))×((Int×(List UInt8))×(Int×Bool)))))×(Int×(List (Int×(Int×Int)))))×Int)):(Option
 ((Int×(Int×Int))×Bool)):=(joinX (loopX (Zfv x) (0,(0,(0,0)))) (fun (z1:(Int×(Int×Int)))=>(some ((0,(0,0)),false))))
def Zfw (x:((List ((List UInt8)×((Int×(List UInt8))×((Int×(List UInt8))×(Int×Bool)))))×(Int×(List (Int×(Int×Int)))))):((List (Int ×
 (((List UInt8)×((Int×(List UInt8))×((Int×(List UInt8))×(Int×Bool))))×((List UInt8)×(Int×(Int×(Int×Int)))))))×Int)->Option (((List (Int×(((List UInt8) ×
 ((Int×(List UInt8))×((Int×(List UInt8))×(Int×Bool))))×((List UInt8)×(Int×(Int×(Int×Int)))))))×Int) ⊕ ((List (Int×(((List UInt8)×((Int×(List UInt8)) ×
 ((Int×(List UInt8))×(Int×Bool))))×((List UInt8)×(Int×(Int×(Int×Int))))))) ⊕ (List (Int×(((List UInt8)×((Int×(List UInt8))×((Int×(List UInt8))×(Int ×
 Bool))))×((List UInt8)×(Int×(Int×(Int×Int))))))))):=fun (z1:((List (Int×(((List UInt8)×((Int×(List UInt8))×((Int×(List UInt8))×(Int×Bool))))×((List
 UInt8)×(Int×(Int×(Int×Int)))))))×Int))=>(cnd (iLt z1.2 (lLen x.1)) (bnd (idx x.1 z1.2) (fun z2=>(bnd (Zk (z2.1,((z2.2.1.1,z2.2.1.2),((z2.2.2.1.1,z2.2.2.1.2),(z2.2.2.2.1,z2.2.2.2.2))))) (fun z3=>(chk (room (z1.1.length+1) 152) (some (.inl ((lApp z1.1 [(1,((z3.1,((z3.2.1.1,z3.2.1.2),((z3.2.2.1.1,z3.2.2.1.2),(z3.2.2.2.1,
 z3.2.2.2.2)))),([],(0,(0,(0,0))))))]),(iAdd .i64 z1.2 1))))))))) (some (.inr (.inl z1.1))))
def Zfx (x:((List ((List UInt8)×((Int×(List UInt8))×((Int×(List UInt8))×(Int×Bool)))))×(Int×(List (Int×(Int×Int)))))):((List (Int ×
 (((List UInt8)×((Int×(List UInt8))×((Int×(List UInt8))×(Int×Bool))))×((List UInt8)×(Int×(Int×(Int×Int)))))))×Int)->Option (((List (Int×(((List UInt8) ×
 ((Int×(List UInt8))×((Int×(List UInt8))×(Int×Bool))))×((List UInt8)×(Int×(Int×(Int×Int)))))))×Int) ⊕ ((List (Int×(((List UInt8)×((Int×(List UInt8)) ×
 ((Int×(List UInt8))×(Int×Bool))))×((List UInt8)×(Int×(Int×(Int×Int))))))) ⊕ (List (Int×(((List UInt8)×((Int×(List UInt8))×((Int×(List UInt8))×(Int ×
 Bool))))×((List UInt8)×(Int×(Int×(Int×Int))))))))):=fun (z2:((List (Int×(((List UInt8)×((Int×(List UInt8))×((Int×(List UInt8))×(Int×Bool))))×((List
 UInt8)×(Int×(Int×(Int×Int)))))))×Int))=>(cnd (iLt z2.2 (lLen x.2.2)) (bnd (idx x.2.2 z2.2) (fun z3=>(chk (room (z2.1.length+1) 152) (some
 (.inl ((lApp z2.1 [(4,(([],((0,[]),((0,[]),(0,false)))),([],(0,(z3.1,(z3.2.1,z3.2.2))))))]),(iAdd .i64 z2.2 1))))))) (some (.inr (.inl z2.1))))
def Zej (x:((List ((List UInt8)×((Int×(List UInt8))×((Int×(List UInt8))×(Int×Bool)))))×(Int×(List (Int×(Int×Int)))))):(Option (List
 (Int×(((List UInt8)×((Int×(List UInt8))×((Int×(List UInt8))×(Int×Bool))))×((List UInt8)×(Int×(Int×(Int×Int)))))))):=(joinX (loopX (Zfw x) ([(3,
 (([],((0,[]),((0,[]),(0,false)))),([],(x.2.1,(0,(0,0))))))],0)) (fun (z1:(List (Int×(((List UInt8)×((Int×(List UInt8))×((Int×(List UInt8))×(Int ×
 Bool))))×((List UInt8)×(Int×(Int×(Int×Int))))))))=>(joinX (loopX (Zfx x) (z1,0)) (fun (z2:(List (Int×(((List UInt8)×((Int×(List UInt8))×((Int ×
 (List UInt8))×(Int×Bool))))×((List UInt8)×(Int×(Int×(Int×Int))))))))=>(some z2)))))
def Zek (x:((List ((List UInt8)×((Int×(List UInt8))×((Int×(List UInt8))×(Int×Bool)))))×(List ((List UInt8)×((Int×(List
 UInt8))×((Int×(List UInt8))×(Int×Bool))))))):(Int)->Option ((Int) ⊕ Bool):=fun (z1:Int)=>(cnd (iLt z1 (lLen x.1)) (bnd (idx x.1 z1) (fun z2=>(bnd (idx x.2 z1) (fun z3
 => (bnd (Zv ((z2.1,((z2.2.1.1,z2.2.1.2),((z2.2.2.1.1,z2.2.2.1.2),(z2.2.2.2.1,z2.2.2.2.2)))),(z3.1,((z3.2.1.1,z3.2.1.2),((z3.2.2.1.1,z3.2.2.1.2),(z3.2.2.2.1,
 z3.2.2.2.2)))))) (fun z4=>(cnd (bNot z4) (some (.inr false)) (some (.inl (iAdd .i64 z1 1)))))))))) (some (.inr true)))
def Zel (x:((List ((List UInt8)×((Int×(List UInt8))×((Int×(List UInt8))×(Int×Bool)))))×(List ((List UInt8)×((Int×(List
 UInt8))×((Int×(List UInt8))×(Int×Bool))))))):(Option Bool):=(cnd (iNe (lLen x.1) (lLen x.2)) (some false) (loopX (Zek x) 0))
def Zem (x:((List (Int×(Int×Int)))×(List (Int×(Int×Int))))):(Int)->Option ((Int) ⊕ Bool):=fun (z1:Int)=>(cnd (iLt z1 (lLen x.1))
 (bnd (idx x.1 z1) (fun z2=>(bnd (idx x.2 z1) (fun z3=>(cnd (bNot (zEq [z2.1,z2.2.1,z2.2.2] [z3.1,z3.2.1,z3.2.2])) (some
 (.inr false)) (some (.inl (iAdd .i64 z1 1)))))))) (some (.inr true)))
def Zen (x:((List (Int×(Int×Int)))×(List (Int×(Int×Int))))):(Option Bool):=(cnd (iNe (lLen x.1) (lLen x.2)) (some false) (loopX
 (Zem x) 0))
def Zeo (x:(((List ((List UInt8)×((Int×(List UInt8))×((Int×(List UInt8))×(Int×Bool)))))×(Int×(List (Int×(Int×Int)))))×((List ((List
 UInt8)×((Int×(List UInt8))×((Int×(List UInt8))×(Int×Bool)))))×(Int×(List (Int×(Int×Int))))))):(Option Bool):=(bnd (Zel (x.1.1,
 x.2.1)) (fun z1=>(cnd z1 (cnd (iEq x.1.2.1 x.2.2.1) (bnd (Zen (x.1.2.2,x.2.2.2)) (fun z2=>(some z2))) (some false)) (some false))))
def Zcu (x:((List UInt8)×(Int×Int))):(Option ((List UInt8)×(Int×Int))):=(bnd (Zbt ((x.1,(x.2.1,x.2.2)),[[],[97],[98,49],[115,105,
 120,108,101,116],[115,101,118,101,110,108,101],[65],[97,32,98],[0],[104,101,108,108,111]])) (fun z1=>(some (z1.1,(z1.2.1,
 z1.2.2)))))
def Zep (x:((List UInt8)×(Int×Int))):(Option ((Int×(List UInt8))×(Int×Int))):=(bnd (Zc ((x.1,(x.2.1,x.2.2)),6)) (fun z1=>(bnd (Zbb ((x.1,(z1.2.1,z1.2.2)),(z1.1,6))) (fun z2=>(bnd (Zbd (z1.1,z2.1)) (fun z3=>(some ((z3.1.1,z3.1.2),(z2.2.1,z2.2.2)))))))))
def Zeq (x:((List UInt8)×(Int×Int))):(Option (Int×(Int×Int))):=(bnd (Zf ((x.1,(x.2.1,x.2.2)),[0,1,2,3,4,5,6,(-1)])) (fun z1=>(some (z1.1,(z1.2.1,z1.2.2)))))
def Zer (x:(((List UInt8)×(Int×Int))×(List UInt8))):(Option ((List UInt8)×(Int×Int))):=(chk (room (0+x.2.length) 1) (joinX (bnd (Zc
 ((x.1.1,(x.1.2.1,x.1.2.2)),5)) (fun z1=>(cnd (iEq z1.1 0) (bnd (Zc ((x.1.1,(z1.2.1,z1.2.2)),(iAdd .i64 (lLen (lApp [] x.2)) 1))) (fun z2=>(chk (within 0 z2.1 (lLen (lApp [] x.2))) (outX (chk (fits 0 ((nOf z2.1)-0) (lApp [] x.2).length) (some ((lTake ((nOf z2.1)-0) (lApp [] x.2)),
 (z2.2.1,z2.2.2)))))))) (cnd (iEq z1.1 1) (cnd (iGt (lLen (lApp [] x.2)) 0) (bnd (Zc ((x.1.1,(z1.2.1,z1.2.2)),(lLen (lApp [] x.2)))) (fun z2
 => (bnd (idx (lApp [] x.2) z2.1) (fun z3=>(bnd (Zc ((x.1.1,(z2.2.1,z2.2.2)),255)) (fun z4=>(bnd (idx (lApp [] x.2) z2.1) (fun
 z5=>(some (.inl (z4.2.1,(z4.2.2,(lSet (lApp [] x.2) (nOf z2.1) (u8 (iXor .u8 (y2i z3) (y2i (u8 (iConv .u8 (iAdd .i64 1 z4.1))))))))))))))))))) (some (.inl (z1.2.1,
 (z1.2.2,(lApp [] x.2)))))) (some (.inl (z1.2.1,(z1.2.2,(lApp [] x.2))))))))) (fun (z1:(Int×(Int×(List UInt8))))=>(some (z1.2.2,(z1.1,z1.2.1))))))
def Zes (x:(((List UInt8)×(Int×Int))×Int)):(Option ((List UInt8)×(Int×Int))):=(bnd (Zbb ((x.1.1,(x.1.2.1,x.1.2.2)),(x.2,5))) (fun
 z1=>(bnd (Zbx (x.2,z1.1)) (fun z2=>(bnd (Zc ((x.1.1,(z1.2.1,z1.2.2)),5)) (fun z3=>(cnd (iEq z3.1 0) (bnd (Zer ((x.1.1,(z3.2.1,z3.2.2)),z2.1)) (fun z4=>(some (z4.1,(z4.2.1,z4.2.2))))) (cnd (iEq z3.1 1)
 (bnd (Zf ((x.1.1,(z3.2.1,z3.2.2)),[128,129,164,255,194,157])) (fun z4=>(chk (room (z2.1.length+1) 1) (some ((lApp z2.1 [(u8 (iConv .u8
 z4.1))]),(z4.2.1,z4.2.2)))))) (some (z2.1,(z3.2.1,z3.2.2)))))))))))
def Zcv (x:((List UInt8)×(Int×Int))):(Option ((Int×(List UInt8))×(Int×Int))):=(bnd (Zep (x.1,(x.2.1,x.2.2))) (fun z1=>(joinX (bnd (Zc ((x.1,(z1.2.1,z1.2.2)),6)) (fun z2=>(cnd (iEq z2.1 0) (bnd (Zeq (x.1,(z2.2.1,z2.2.2)))
 (fun z3=>(some (.inl (z3.2.1,(z3.2.2,(z3.1,z1.1.2))))))) (cnd (iEq z2.1 1) (bnd (Zes ((x.1,(z2.2.1,z2.2.2)),z1.1.1)) (fun z3=>(some (.inl (z3.2.1,(z3.2.2,(z1.1.1,z3.1))))))) (cnd (iEq z2.1 2) (bnd (Zc ((x.1,(z2.2.1,z2.2.2)),3)) (fun z3 =>
 (chk (iEq (iAdd .i64 19 z3.1) (iAdd .i64 19 z3.1)) (chk (mkOk (iAdd .i64 19 z3.1) 1) (some (.inl (z3.2.1,(z3.2.2,(z1.1.1,(lRep (nOf (iAdd .i64 19 z3.1)) 0)))))))))) (some
 (.inl (z2.2.1,(z2.2.2,(z1.1.1,z1.1.2)))))))))) (fun (z2:(Int×(Int×(Int×(List UInt8)))))=>(some ((z2.2.2.1,z2.2.2.2),(z2.1,z2.2.1)))))))
def Zcw (x:((List UInt8)×(Int×Int))):(Option (((List UInt8)×((Int×(List UInt8))×((Int×(List UInt8))×(Int×Bool))))×(Int×Int))):=(bnd
 (Zcc x) (fun z1=>(joinX (bnd (Zc ((x.1,z1.2),14)) (fun z2=>(cnd (iEq z2.1 0) (bnd (Zcu (x.1,z2.2)) (fun z3=>(some (.inl (z3.2.1,(z3.2.2,(z3.1,(z1.1.2.1.1,
 (z1.1.2.1.2,(z1.1.2.2.1.1,(z1.1.2.2.1.2,z1.1.2.2.2))))))))))) (cnd (iEq z2.1 1) (bnd (Zf ((x.1,z2.2),[0,1,2,3,4,(-1)])) (fun z3=>(some
 (.inl (z3.2.1,(z3.2.2,(z1.1.1,(z1.1.2.1.1,(z1.1.2.1.2,(z1.1.2.2.1.1,(z1.1.2.2.1.2,(z3.1,z1.1.2.2.2.2)))))))))))) (cnd (iEq z2.1 2) (some (.inl (z2.2.1,(z2.2.2,(z1.1.1,
 (z1.1.2.1.1,(z1.1.2.1.2,(z1.1.2.2.1.1,(z1.1.2.2.1.2,(z1.1.2.2.2.1,(bNot z1.1.2.2.2.2))))))))))) (cnd (iEq z2.1 3) (bnd (Zcv (x.1,z2.2)) (fun z3=>(some (.inl (z3.2.1,(z3.2.2,(z1.1.1,(z3.1.1,(z3.1.2,(z1.1.2.2.1.1,(z1.1.2.2.1.2,z1.1.2.2.2))))))))))) (cnd (iEq z2.1 4) (bnd (Zcv (x.1,
 z2.2)) (fun z3=>(some (.inl (z3.2.1,(z3.2.2,(z1.1.1,(z1.1.2.1.1,(z1.1.2.1.2,(z3.1.1,(z3.1.2,z1.1.2.2.2))))))))))) (cnd (iEq z2.1
 5) (some (.inl (z2.2.1,(z2.2.2,(z1.1.1,(z1.1.2.1.1,([(u8 129)],(z1.1.2.2.1.1,(z1.1.2.2.1.2,z1.1.2.2.2))))))))) (some (.inl (z2.2.1,(z2.2.2,(z1.1.1,(z1.1.2.1.1,
 (z1.1.2.1.2,(z1.1.2.2.1.1,(z1.1.2.2.1.2,z1.1.2.2.2))))))))))))))))) (fun (z2:(Int×(Int×((List UInt8)×(Int×((List UInt8)×(Int×((List UInt8)×(Int×Bool)))))))))
 => (some ((z2.2.2.1,((z2.2.2.2.1,z2.2.2.2.2.1),((z2.2.2.2.2.2.1,z2.2.2.2.2.2.2.1),z2.2.2.2.2.2.2.2))),(z2.1,z2.2.1)))))))
def Zy (x:((List UInt8)×(Int×Int))):(Option (Int×(Int×Int))):=(bnd (Zf (x,[0,1,7,255,256,4660,65535,65536,(-1),
 9223372036854775807,(-9223372036854775808)])) (fun z1=>(some z1)))
def Zet (z1:(((List ((List UInt8)×((Int×(List UInt8))×((Int×(List UInt8))×(Int×Bool)))))×(Int×(List (Int×(Int×Int)))))×(Int×Int)))
 (z2:(Int×(Int×Int))):((List ((List UInt8)×((Int×(List UInt8))×((Int×(List UInt8))×(Int×Bool)))))×Int)->Option (((List ((List UInt8)×((Int×(List UInt8))
 × ((Int×(List UInt8))×(Int×Bool)))))×Int) ⊕ ((Int×(Int×((List ((List UInt8)×((Int×(List UInt8))×((Int×(List UInt8))×(Int×Bool)))))×(Int×(List (Int ×
 (Int×Int))))))) ⊕ (((List ((List UInt8)×((Int×(List UInt8))×((Int×(List UInt8))×(Int×Bool)))))×(Int×(List (Int×(Int×Int)))))×(Int×Int)))):=fun (z3 :
 ((List ((List UInt8)×((Int×(List UInt8))×((Int×(List UInt8))×(Int×Bool)))))×Int))=>(cnd (iLt z3.2 7) (chk (small [122] [(u8 (iConv .u8 (iAdd .i64 48 z3.2)))])
 (chk (room (z3.1.length+1) 96) (some (.inl ((lApp z3.1 [((lApp [122] [(u8 (iConv .u8 (iAdd .i64 48 z3.2)))]),((0,[]),((0,[(u8 120)]),(2,false))))]),(iAdd .i64 z3.2
 1)))))) (some (.inr (.inl (z2.2.1,(z2.2.2,(z3.1,z1.1.2)))))))
def Zn (x:(((List UInt8)×(Int×Int))×Int)):(Option (((List ((List UInt8)×((Int×(List UInt8))×((Int×(List UInt8))×(Int×Bool)))))×(Int ×
 (List (Int×(Int×Int)))))×(Int×Int))):=(bnd (Zdp x) (fun z1=>(joinX (bnd (Zc ((x.1.1,z1.2),10)) (fun z2=>(cnd (iEq z2.1 0) (bnd (Zcw (x.1.1,z2.2))
 (fun z3=>(chk (room (z1.1.1.length+1) 96) (some (.inl (z3.2.1,(z3.2.2,
 ((lApp z1.1.1 [z3.1]),z1.1.2)))))))) (cnd (iEq z2.1 1) (bnd (Zf ((x.1.1,z2.2),[(-1),7,8])) (fun z3=>(some (.inl (z3.2.1,(z3.2.2,(z1.1.1,
 (z3.1,z1.1.2.2)))))))) (cnd (iEq z2.1 2) (alt2 (bnd (Zf ((x.1.1,z2.2),[0,1,9,10])) (fun z3=>(bnd (Zy (x.1.1,z3.2)) (fun z4=>(bnd (Zf ((x.1.1,z4.2),[0,6,7])) (fun z5=>(chk (room (z1.1.2.2.length+1) 24) (some (.inl (z5.2.1,(z5.2.2,(z1.1.1,
 (z1.1.2.1,(lApp z1.1.2.2 [(z3.1,(z4.1,z5.1))])))))))))))))) (alt2 (bnd (Zf ((x.1.1,z2.2),[0,1,9,10])) (fun z3=>(bnd (Zy (x.1.1,
 z3.2)) (fun z4=>(bnd (Zf ((x.1.1,z4.2),[0,6,7])) (fun z5=>(chk (room (z1.1.2.2.length+1) 24) (some (.inl (z5.2.1,
 (z5.2.2,(z1.1.1,(z1.1.2.1,(lApp z1.1.2.2 [(z3.1,(z4.1,z5.1))])))))))))))))) (alt2 (bnd (Zf ((x.1.1,z2.2),[0,1,9,10])) (fun z3=>(bnd
 (Zy (x.1.1,z3.2)) (fun z4=>(bnd (Zf ((x.1.1,z4.2),[0,6,7])) (fun z5=>(chk (room (z1.1.2.2.length+1) 24)
 (some (.inl (z5.2.1,(z5.2.2,(z1.1.1,(z1.1.2.1,(lApp z1.1.2.2 [(z3.1,(z4.1,z5.1))])))))))))))))) (bnd (Zf ((x.1.1,z2.2),[0,1,9,10])) (fun z3=>(bnd (Zy (x.1.1,z3.2)) (fun z4=>(bnd (Zf ((x.1.1,z4.2),[0,6,7])) (fun z5=>(chk (room
 (z1.1.2.2.length+1) 24) (some (.inl (z5.2.1,(z5.2.2,(z1.1.1,(z1.1.2.1,(lApp z1.1.2.2 [(z3.1,(z4.1,z5.1))]))))))))))))))))) (cnd (iEq z2.1 3) (loopX (Zet z1 z2)
 (z1.1.1,0)) (some (.inl (z2.2.1,(z2.2.2,z1.1)))))))))) (fun (z2:(Int×(Int×((List ((List UInt8)×((Int×(List UInt8))×((Int×(List UInt8))×(Int×Bool)))))×(Int
 × (List (Int×(Int×Int))))))))=>(some (z2.2.2,(z2.1,z2.2.1)))))))
def Zeu (x:(List UInt8)):(Option ((List ((List UInt8)×((Int×(List UInt8))×((Int×(List UInt8))×(Int×Bool)))))×(Int×(List (Int×(Int ×
 Int)))))):=(bnd (Zo x) (fun z1=>(bnd (Zn ((x,(0,z1)),8)) (fun z2=>(some z2.1)))))
def Zev (x:(List UInt8)):(Option (((List ((List UInt8)×((Int×(List UInt8))×((Int×(List UInt8))×(Int×Bool)))))×(Int×(List (Int×(Int ×
 Int)))))×(List UInt8))):=(bnd (Zo x) (fun z1=>(bnd (Zn ((x,(0,z1)),8)) (fun z2=>(bnd (Zbm (x,z2.2)) (fun z3=>(some (z2.1,
 z3.1))))))))
def Zew (x:(List UInt8)):(Option (((List ((List UInt8)×((Int×(List UInt8))×((Int×(List UInt8))×(Int×Bool)))))×(Int×(List (Int×(Int ×
 Int)))))×Int)):=(bnd (Zo x) (fun z1=>(bnd (Zn ((x,(0,z1)),8)) (fun z2=>(bnd (Zc ((x,z2.2),5)) (fun z3=>(some (z2.1,z3.1))))))))
def Zfy (x:(((List ((List UInt8)×((Int×(List UInt8))×((Int×(List UInt8))×(Int×Bool)))))×(Int×(List (Int×(Int×Int)))))×Int)):(Int ×
 (Int×(Int×Int)))->Option ((Int×(Int×(Int×Int))) ⊕ ((Int×(Int×Int)) ⊕ ((Int×(Int×Int))×Bool))):=fun (z1:(Int×(Int×(Int×Int))))=>(cnd (iLt z1.2.2.2
 (lLen x.1.2.2)) (bnd (idx x.1.2.2 z1.2.2.2) (fun z2=>(cnd (iEq z2.1 x.2) (bnd (idx x.1.2.2 z1.2.2.2) (fun z3=>(some (.inr
 (.inr (z3,true)))))) (some (.inl (z1.1,(z1.2.1,(z1.2.2.1,(iAdd .i64 z1.2.2.2 1))))))))) (some (.inr (.inl (z1.1,(z1.2.1,z1.2.2.1))))))
def Zex (x:(((List ((List UInt8)×((Int×(List UInt8))×((Int×(List UInt8))×(Int×Bool)))))×(Int×(List (Int×(Int×Int)))))×Int)):(Option
 ((Int×(Int×Int))×Bool)):=(joinX (loopX (Zfy x) (0,(0,(0,0)))) (fun (z1:(Int×(Int×Int)))=>(some ((0,(0,0)),false))))
def Zey (x:((List UInt8)×(Int×Int))):(Option ((Int×(((List UInt8)×((Int×(List UInt8))×((Int×(List UInt8))×(Int×Bool))))×((List UInt8) ×
 (Int×(Int×(Int×Int))))))×(Int×Int))):=(bnd (Zbf x) (fun z1=>(joinX (bnd (Zc ((x.1,z1.2),14)) (fun z2=>(cnd (iEq z2.1 0) (bnd
 (Zc ((x.1,z2.2),6)) (fun z3=>(some (.inl (z3.2.1,(z3.2.2,(z3.1,(z1.1.2.1.1,(z1.1.2.1.2.1.1,(z1.1.2.1.2.1.2,(z1.1.2.1.2.2.1.1,
 (z1.1.2.1.2.2.1.2,(z1.1.2.1.2.2.2.1,(z1.1.2.1.2.2.2.2,z1.1.2.2)))))))))))))) (cnd (iEq z2.1 1) (bnd (Zcw (x.1,z2.2)) (fun z3=>(some (.inl (z3.2.1,(z3.2.2,(z1.1.1,(z3.1.1,(z3.1.2.1.1,(z3.1.2.1.2,(z3.1.2.2.1.1,(z3.1.2.2.1.2,(z3.1.2.2.2.1,
 (z3.1.2.2.2.2,z1.1.2.2)))))))))))))) (cnd (iEq z2.1 2) (bnd (Zcu (x.1,z2.2)) (fun z3=>(some (.inl (z3.2.1,(z3.2.2,(z1.1.1,
 (z1.1.2.1.1,(z1.1.2.1.2.1.1,(z1.1.2.1.2.1.2,(z1.1.2.1.2.2.1.1,(z1.1.2.1.2.2.1.2,(z1.1.2.1.2.2.2.1,(z1.1.2.1.2.2.2.2,(z3.1,z1.1.2.2.2))))))))))))))) (cnd (iEq z2.1 3) (bnd
 (Zf ((x.1,z2.2),[(-1),7,8])) (fun z3=>(some (.inl (z3.2.1,(z3.2.2,(z1.1.1,(z1.1.2.1.1,(z1.1.2.1.2.1.1,(z1.1.2.1.2.1.2,
 (z1.1.2.1.2.2.1.1,(z1.1.2.1.2.2.1.2,(z1.1.2.1.2.2.2.1,(z1.1.2.1.2.2.2.2,(z1.1.2.2.1,(z3.1,z1.1.2.2.2.2)))))))))))))))) (cnd (iEq z2.1 4) (bnd (Zf ((x.1,z2.2),
 [(-1),0,9,10])) (fun z3=>(some (.inl (z3.2.1,(z3.2.2,(z1.1.1,(z1.1.2.1.1,(z1.1.2.1.2.1.1,(z1.1.2.1.2.1.2,(z1.1.2.1.2.2.1.1,(z1.1.2.1.2.2.1.2,
 (z1.1.2.1.2.2.2.1,(z1.1.2.1.2.2.2.2,(z1.1.2.2.1,(z1.1.2.2.2.1,(z3.1,z1.1.2.2.2.2.2))))))))))))))))) (cnd (iEq z2.1 5) (bnd (Zy (x.1,z2.2)) (fun z3=>(some (.inl (z3.2.1,(z3.2.2,(z1.1.1,(z1.1.2.1.1,(z1.1.2.1.2.1.1,(z1.1.2.1.2.1.2,(z1.1.2.1.2.2.1.1,(z1.1.2.1.2.2.1.2,(z1.1.2.1.2.2.2.1,(z1.1.2.1.2.2.2.2,
 (z1.1.2.2.1,(z1.1.2.2.2.1,(z1.1.2.2.2.2.1,(z3.1,z1.1.2.2.2.2.2.2)))))))))))))))))) (cnd (iEq z2.1 6) (bnd (Zf ((x.1,z2.2),[(-1),6,7])) (fun z3=>(some (.inl (z3.2.1,(z3.2.2,(z1.1.1,(z1.1.2.1.1,(z1.1.2.1.2.1.1,(z1.1.2.1.2.1.2,(z1.1.2.1.2.2.1.1,(z1.1.2.1.2.2.1.2,(z1.1.2.1.2.2.2.1,(z1.1.2.1.2.2.2.2,
 (z1.1.2.2.1,(z1.1.2.2.2.1,(z1.1.2.2.2.2.1,(z1.1.2.2.2.2.2.1,z3.1)))))))))))))))))) (some (.inl (z2.2.1,(z2.2.2,(z1.1.1,(z1.1.2.1.1,(z1.1.2.1.2.1.1,(z1.1.2.1.2.1.2,
 (z1.1.2.1.2.2.1.1,(z1.1.2.1.2.2.1.2,(z1.1.2.1.2.2.2.1,(z1.1.2.1.2.2.2.2,z1.1.2.2))))))))))))))))))))) (fun (z2:(Int×(Int×(Int×((List UInt8)×(Int×((List UInt8) ×
 (Int×((List UInt8)×(Int×(Bool×((List UInt8)×(Int×(Int×(Int×Int)))))))))))))))=>(some ((z2.2.2.1,((z2.2.2.2.1,((z2.2.2.2.2.1,z2.2.2.2.2.2.1),
 ((z2.2.2.2.2.2.2.1,z2.2.2.2.2.2.2.2.1),(z2.2.2.2.2.2.2.2.2.1,z2.2.2.2.2.2.2.2.2.2.1)))),z2.2.2.2.2.2.2.2.2.2.2)),(z2.1,z2.2.1)))))))
def Zez (x:(List UInt8)):(Option (((List ((List UInt8)×((Int×(List UInt8))×((Int×(List UInt8))×(Int×Bool)))))×(Int×(List (Int×(Int ×
 Int)))))×(Int×(((List UInt8)×((Int×(List UInt8))×((Int×(List UInt8))×(Int×Bool))))×((List UInt8)×(Int×(Int×(Int×Int)))))))):=(bnd (Zo x) (fun
 z1=>(bnd (Zn ((x,(0,z1)),8)) (fun z2=>(bnd (Zbo ((x,z2.2),4)) (fun z3=>(cnd z3.1 (bnd (Zey (x,z3.2)) (fun z4=>(some (z2.1,z4.1)))) (bnd (Zbf (x,z3.2))
 (fun z4=>(some
 (z2.1,z4.1)))))))))))
def Zfa (x:(List UInt8)):(Option (((List ((List UInt8)×((Int×(List UInt8))×((Int×(List UInt8))×(Int×Bool)))))×(Int×(List (Int×(Int ×
 Int)))))×((List ((List UInt8)×((Int×(List UInt8))×((Int×(List UInt8))×(Int×Bool)))))×(Int×(List (Int×(Int×Int))))))):=(bnd (Zo x) (fun z1
 => (bnd (Zn ((x,(0,z1)),6)) (fun z2=>(bnd (Zbp z2.1) (fun z3
 => (joinX (bnd (Zc ((x,z2.2),6)) (fun z4=>(cnd (iEq z4.1 0) (bnd (Zn ((x,z4.2),6)) (fun z5=>(some (.inr (z2.1,z5.1))))) (cnd (iEq z4.1 1) (some (.inl ([],(0,
 ([],([],(0,([],(z3.1,((iAdd .i64 z3.2.1 1),z3.2.2)))))))))) (cnd (iEq z4.1 2) (cnd (iGt (lLen z3.1) 0) (bnd (idx z3.1 0) (fun z5=>(bnd (idx z3.1 0) (fun z6=>(some (.inl ([],(0,
 ([],([],(0,([],((lSet z3.1 (nOf 0) (z6.1,(z6.2.1,(z6.2.2.1,(z6.2.2.2.1,(bNot z5.2.2.2.2)))))),z3.2))))))))))))) (some (.inl ([],(0,([],([],(0,([],z3))))))))) (cnd
 (iEq z4.1 3) (cnd (iGt (lLen z3.2.2) 0) (bnd (idx z3.2.2 0) (fun z5=>(bnd (idx z3.2.2 0) (fun z6=>(some (.inl ([],(0,([],
 ([],(0,([],(z3.1,(z3.2.1,(lSet z3.2.2 (nOf 0) (z6.1,((iAdd .i64 z5.2.1 1),z6.2.2))))))))))))))))) (some (.inl ([],(0,([],([],(0,([],z3))))))))) (some (.inl ([],(0,
 ([],([],(0,([],z3)))))))))))))) (fun (z4:((List ((List UInt8)×((Int×(List UInt8))×((Int×(List UInt8))×(Int×Bool)))))×(Int×((List (Int×(Int×Int))) ×
 ((List ((List UInt8)×((Int×(List UInt8))×((Int×(List UInt8))×(Int×Bool)))))×(Int×((List (Int×(Int×Int)))×((List ((List UInt8)×((Int×(List UInt8)) ×
 ((Int×(List UInt8))×(Int×Bool)))))×(Int×(List (Int×(Int×Int))))))))))))=>(some (z2.1,z4.2.2.2.2.2.2))))))))))
def Zfb (x:(List UInt8)):(Option ((List ((List UInt8)×((Int×(List UInt8))×((Int×(List UInt8))×(Int×Bool)))))×(Int×(List (Int×(Int ×
 Int)))))):=(bnd (Zo x) (fun z1=>(bnd (Zn ((x,(0,z1)),8)) (fun z2=>(some z2.1)))))
def Zfz (x:((List ((List UInt8)×((Int×(List UInt8))×((Int×(List UInt8))×(Int×Bool)))))×(Int×(List (Int×(Int×Int)))))):((List (Int ×
 (((List UInt8)×((Int×(List UInt8))×((Int×(List UInt8))×(Int×Bool))))×((List UInt8)×(Int×(Int×(Int×Int)))))))×Int)->Option (((List (Int×(((List UInt8) ×
 ((Int×(List UInt8))×((Int×(List UInt8))×(Int×Bool))))×((List UInt8)×(Int×(Int×(Int×Int)))))))×Int) ⊕ ((List (Int×(((List UInt8)×((Int×(List UInt8)) ×
 ((Int×(List UInt8))×(Int×Bool))))×((List UInt8)×(Int×(Int×(Int×Int))))))) ⊕ (List (Int×(((List UInt8)×((Int×(List UInt8))×((Int×(List UInt8))×(Int ×
 Bool))))×((List UInt8)×(Int×(Int×(Int×Int))))))))):=fun (z1:((List (Int×(((List UInt8)×((Int×(List UInt8))×((Int×(List UInt8))×(Int×Bool))))×((List
 UInt8)×(Int×(Int×(Int×Int)))))))×Int))=>(cnd (iLt z1.2 (lLen x.1)) (bnd (idx x.1 z1.2) (fun z2=>(bnd (Zh (z2.1,((z2.2.1.1,z2.2.1.2),((z2.2.2.1.1,z2.2.2.1.2),(z2.2.2.2.1,z2.2.2.2.2))))) (fun z3=>(chk (room (z1.1.length+1) 152) (some (.inl ((lApp z1.1 [(1,((z3.1,((z3.2.1.1,z3.2.1.2),((z3.2.2.1.1,z3.2.2.1.2),(z3.2.2.2.1,
 z3.2.2.2.2)))),([],(0,(0,(0,0))))))]),(iAdd .i64 z1.2 1))))))))) (some (.inr (.inl z1.1))))
def Zga (x:((List ((List UInt8)×((Int×(List UInt8))×((Int×(List UInt8))×(Int×Bool)))))×(Int×(List (Int×(Int×Int)))))):((List (Int ×
 (((List UInt8)×((Int×(List UInt8))×((Int×(List UInt8))×(Int×Bool))))×((List UInt8)×(Int×(Int×(Int×Int)))))))×Int)->Option (((List (Int×(((List UInt8) ×
 ((Int×(List UInt8))×((Int×(List UInt8))×(Int×Bool))))×((List UInt8)×(Int×(Int×(Int×Int)))))))×Int) ⊕ ((List (Int×(((List UInt8)×((Int×(List UInt8)) ×
 ((Int×(List UInt8))×(Int×Bool))))×((List UInt8)×(Int×(Int×(Int×Int))))))) ⊕ (List (Int×(((List UInt8)×((Int×(List UInt8))×((Int×(List UInt8))×(Int ×
 Bool))))×((List UInt8)×(Int×(Int×(Int×Int))))))))):=fun (z2:((List (Int×(((List UInt8)×((Int×(List UInt8))×((Int×(List UInt8))×(Int×Bool))))×((List
 UInt8)×(Int×(Int×(Int×Int)))))))×Int))=>(cnd (iLt z2.2 (lLen x.2.2)) (bnd (idx x.2.2 z2.2) (fun z3=>(bnd (idx x.2.2 z2.2) (fun z4=>(bnd (idx x.2.2 z2.2) (fun z5=>(chk (room (z2.1.length+1) 152) (some (.inl ((lApp z2.1 [(4,(([],((0,[]),((0,[]),(0,false)))),
 ([],(0,(z3.1,(z4.2.1,z5.2.2))))))]),(iAdd .i64 z2.2 1))))))))))) (some (.inr (.inl z2.1))))
def Zfc (x:((List ((List UInt8)×((Int×(List UInt8))×((Int×(List UInt8))×(Int×Bool)))))×(Int×(List (Int×(Int×Int)))))):(Option (List
 (Int×(((List UInt8)×((Int×(List UInt8))×((Int×(List UInt8))×(Int×Bool))))×((List UInt8)×(Int×(Int×(Int×Int)))))))):=(joinX (loopX (Zfz x) ([(3,
 (([],((0,[]),((0,[]),(0,false)))),([],(x.2.1,(0,(0,0))))))],0)) (fun (z1:(List (Int×(((List UInt8)×((Int×(List UInt8))×((Int×(List UInt8))×(Int ×
 Bool))))×((List UInt8)×(Int×(Int×(Int×Int))))))))=>(joinX (loopX (Zga x) (z1,0)) (fun (z2:(List (Int×(((List UInt8)×((Int×(List UInt8))×((Int ×
 (List UInt8))×(Int×Bool))))×((List UInt8)×(Int×(Int×(Int×Int))))))))=>(some z2)))))
def Zfd (x:((Int×(((List UInt8)×((Int×(List UInt8))×((Int×(List UInt8))×(Int×Bool))))×((List UInt8)×(Int×(Int×(Int×Int))))))×(Int
 × (((List UInt8)×((Int×(List UInt8))×((Int×(List UInt8))×(Int×Bool))))×((List UInt8)×(Int×(Int×(Int×Int)))))))):(Option Bool):=(cnd (iEq x.1.1 x.2.1)
 (bnd (Zx (x.1.2.1,x.2.2.1)) (fun z1=>(cnd z1 (cnd (sEq x.1.2.2.1 x.2.2.2.1) (cnd (iEq x.1.2.2.2.1 x.2.2.2.2.1) (cnd (iEq x.1.2.2.2.2.1 x.2.2.2.2.2.1) (cnd
 (iEq x.1.2.2.2.2.2.1 x.2.2.2.2.2.2.1) (some (iEq x.1.2.2.2.2.2.2 x.2.2.2.2.2.2.2)) (some false)) (some false)) (some false)) (some false)) (some false)))) (some false))
def Zfe (z12:(List (Int×(((List UInt8)×((Int×(List UInt8))×((Int×(List UInt8))×(Int×Bool))))×((List UInt8)×(Int×(Int×(Int ×
 Int)))))))) (z13:(List (Int×(((List UInt8)×((Int×(List UInt8))×((Int×(List UInt8))×(Int×Bool))))×((List UInt8)×(Int×(Int×(Int×Int)))))))):(Int) ->
 Option ((Int) ⊕ (Unit ⊕ Bool)):=fun (z14:Int)=>(cnd (iLt z14 (lLen z12)) (bnd (idx z12 z14) (fun z15=>(bnd (idx z13 z14) (fun z16=>(bnd (Zfd (z15,z16)) (fun z17=>(cnd (bNot z17) (some (.inr (.inr false))) (some
 (.inl (iAdd .i64 z14 1)))))))))) (some (.inr (.inl ()))))
def Zgb (x:(List UInt8)):(Option Bool):=(bnd (Zbl x) (fun z1=>(cnd z1 (some true) (bnd (Zeu x) (fun z2=>(bnd (Zev x) (fun z3=>(bnd (Zew x) (fun z4=>(bnd (Zei z4) (fun z5=>(bnd (Zex z4) (fun z6=>(bnd (Zez x) (fun z7=>(bnd (Zec z7) (fun z8=>(bnd (Zbr z7) (fun z9=>(bnd (Zfa x) (fun z10=>(bnd (Zfb x) (fun z11=>(bnd (Zej z11) (fun z12=>(bnd (Zfc z11) (fun z13=>(cnd (iNe (lLen z12) (lLen z13)) (some
 false) (joinX (loopX (Zfe z12 z13) 0) (fun (z14:Unit)=>(bnd (Zbk z2) (fun z15=>(bnd (Zbg z2) (fun z16=>(cnd (bEq z15 z16) (bnd
 (Zeh z3) (fun z17=>(bnd (Zbq z3) (fun z18=>(cnd (iEq z17 z18) (cnd (bEq z5.2 z6.2) (cnd (zEq [z5.1.1,z5.1.2.1,z5.1.2.2] [z6.1.1,z6.1.2.1,
 z6.1.2.2]) (cnd (bEq z8.2 z9.2) (bnd (Zct (z8.1,z9.1)) (fun z19=>(cnd z19 (bnd (Zeo z10) (fun z20=>(bnd (Zct z10) (fun z21
 => (some (bEq z20 z21)))))) (some false)))) (some false)) (some false)) (some false)) (some false)))))) (some false))))))))))))))))))))))))))))))))))))
end
end Go.Vs
