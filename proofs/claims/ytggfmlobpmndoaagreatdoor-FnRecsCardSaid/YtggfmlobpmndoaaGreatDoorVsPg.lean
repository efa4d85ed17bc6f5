import Derived.Test.YtggfmlobpmndoaaGreatDoorVsW5
set_option linter.all false
namespace Go.Vs
noncomputable section
def gFirst:List UInt8:=[240,240,240,240,240,240,240,240,240,240,240,240,240,240,240,240,240,240,240,240,240,240,240,240,240,240,240,240,240,240,
 240,240,240,240,240,240,240,240,240,240,240,240,240,240,240,240,240,240,240,240,240,240,240,240,240,240,240,240,240,240,240,240,240,240,240,
 240,240,240,240,240,240,240,240,240,240,240,240,240,240,240,240,240,240,240,240,240,240,240,240,240,240,240,240,240,240,240,240,240,240,240,
 240,240,240,240,240,240,240,240,240,240,240,240,240,240,240,240,240,240,240,240,240,240,240,240,240,240,240,240,241,241,241,241,241,241,241,
 241,241,241,241,241,241,241,241,241,241,241,241,241,241,241,241,241,241,241,241,241,241,241,241,241,241,241,241,241,241,241,241,241,241,241,
 241,241,241,241,241,241,241,241,241,241,241,241,241,241,241,241,241,241,241,241,241,241,241,241,2,2,2,2,2,2,2,2,2,2,2,2,2,2,2,2,2,2,2,
 2,2,2,2,2,2,2,2,2,2,2,19,3,3,3,3,3,3,3,3,3,3,3,3,35,3,3,52,4,4,4,68,241,241,241,241,241,241,241,241,241,241,241]
def gAcc:List UInt8:=[128,191,160,191,128,159,144,191,128,143,0,0,0,0,0,0,0,0,0,0,0,0,0,0,0,0,0,0,0,0,0,0]
instance glbI:Glb:=⟨[(0,gFirst),(1,gAcc)]⟩
def F_l_big (x:(List UInt8)):(Option Bool):=(some (iGt (lLen x) 1048576))
def S_s_l1New_0 (x:(List UInt8)):(Int×Int)->Option ((Int×Int) ⊕ (Int ⊕ Int)):=fun (z1:(Int×Int))=>(cnd (iLt z1.2 (lLen x)) (cnd (iLt z1.2 4000) (bnd
 (idx x z1.2) (fun z2=>(some (.inl ((iAnd .i64 (iAdd .i64 (iAdd .i64 (iMul .i64 z1.1 137) (iConv .i64 (y2i z2))) 11) 1073741823),(iAdd .i64 z1.2 1)))))) (some (.inr
 (.inl z1.1)))) (some (.inr (.inl z1.1))))
def F_s_l1New (x:(List UInt8)):(Option Int):=(joinX (loopX (S_s_l1New_0 x) ((iAdd .i64 953953 (lLen x)),0)) (fun (z1:Int)=>(some z1)))
def F_s_l1Byte (x:((List UInt8)×(Int×Int))):(Option (Int×(Int×Int))):=(joinX (cnd (iLt x.2.1 (lLen x.1)) (bnd (idx x.1 x.2.1) (fun z1=>(some
 (.inl ((iAdd .i64 x.2.1 1),(iAnd .i64 (iAdd .i64 (iAnd .i64 (iXor .i64 (iShr .i64 (iAdd .i64 (iMul .i64 x.2.2 6364136223846793005) 1442695040888963407) 33) (iShr .i64 (iAdd .i64
 (iMul .i64 x.2.2 6364136223846793005) 1442695040888963407) 47)) 255) (iConv .i64 (y2i z1))) 255)))))) (some (.inl (x.2.1,(iAnd .i64 (iXor .i64 (iShr .i64 (iAdd .i64 (iMul .i64
 x.2.2 6364136223846793005) 1442695040888963407) 33) (iShr .i64 (iAdd .i64 (iMul .i64 x.2.2 6364136223846793005) 1442695040888963407) 47)) 255))))) (fun (z1:(Int×Int)) =>
 (some (z1.2,(z1.1,(iAdd .i64 (iMul .i64 x.2.2 6364136223846793005) 1442695040888963407))))))
def F_s_l1Below (x:(((List UInt8)×(Int×Int))×Int)):(Option (Int×(Int×Int))):=(cnd (iLe x.2 0) (some (0,(x.1.2.1,x.1.2.2))) (cnd (iLe x.2 256) (bnd
 (F_s_l1Byte (x.1.1,(x.1.2.1,x.1.2.2))) (fun z1=>(chk (iNe x.2 0) (some ((iRem z1.1 x.2),(z1.2.1,z1.2.2)))))) (bnd (F_s_l1Byte (x.1.1,(x.1.2.1,
 x.1.2.2))) (fun z1=>(bnd (F_s_l1Byte (x.1.1,(z1.2.1,z1.2.2))) (fun z2=>(bnd (F_s_l1Byte (x.1.1,(z2.2.1,z2.2.2))) (fun z3=>(chk (iNe x.2 0) (some ((iRem (iAdd .i64 (iAdd .i64 (iMul .i64 z1.1 65536) (iMul .i64 z2.1 256)) z3.1) x.2),(z3.2.1,z3.2.2))))))))))))
def F_s_l3Cs (x:((List UInt8)×(Int×Int))):(Option (Int×(Int×Int))):=(bnd (F_s_l1Below ((x.1,(x.2.1,x.2.2)),5)) (fun z1 =>
 (some ((iAdd .i64 1 z1.1),(z1.2.1,z1.2.2)))))
def F_s_l1Str (x:(((List UInt8)×(Int×Int))×(List (List UInt8)))):(Option ((List UInt8)×(Int×Int))):=(bnd (F_s_l1Below ((x.1.1,(x.1.2.1,x.1.2.2)),
 (lLen x.2))) (fun z1=>(bnd (idx x.2 z1.1) (fun z2=>(some (z2,(z1.2.1,z1.2.2)))))))
def F_s_l1Name (x:((List UInt8)×(Int×Int))):(Option ((List UInt8)×(Int×Int))):=(bnd (F_s_l1Str ((x.1,(x.2.1,x.2.2)),[[97],[98],[99],[100],[101,
 53]])) (fun z1=>(some (z1.1,(z1.2.1,z1.2.2)))))
def F_s_l1Int (x:(((List UInt8)×(Int×Int))×(List Int))):(Option (Int×(Int×Int))):=(bnd (F_s_l1Below ((x.1.1,(x.1.2.1,x.1.2.2)),(lLen x.2))) (fun
 z1=>(bnd (idx x.2 z1.1) (fun z2=>(some (z2,(z1.2.1,z1.2.2)))))))
def F_s_l2Sign (x:((List UInt8)×(Int×Int))):(Option (Int×(Int×Int))):=(bnd (F_s_l1Int ((x.1,(x.2.1,x.2.2)),[0,97,90,127,128,164,233,2047,
 2048,8364,1072,1102,1025,12354,12450,352,65535,65536,1114111])) (fun z1=>(some (z1.1,(z1.2.1,z1.2.2)))))
def F_s_l1In (x:(Int×(Int×Int))):(Option Bool):=(cnd (iGe x.1 x.2.1) (some (iLe x.1 x.2.2)) (some false))
def F_s_l3Nine (x:Int):(Option Int):=(cnd (iEq x 164) (some 8364) (cnd (iEq x 166) (some 352) (cnd (iEq x 168) (some 353) (cnd (iEq x 180) (some 381) (cnd (iEq
 x 184) (some 382) (cnd (iEq x 188) (some 338) (cnd (iEq x 189) (some 339) (cnd (iEq x 190) (some 376) (some x)))))))))
def F_s_l3Koi (x:Int):(Option Int):=(cnd (iGe x 224) (bnd (idx [1102,1072,1073,1094,1076,1077,1092,1075,1093,1080,1081,1082,1083,1084,1085,1086,
 1087,1103,1088,1089,1090,1091,1078,1074,1100,1099,1079,1096,1101,1097,1095,1098] (iSub .i64 x 224)) (fun z1=>(some (iSub .i64 z1 32)))) (cnd (iGe x 192)
 (bnd (idx [1102,1072,1073,1094,1076,1077,1092,1075,1093,1080,1081,1082,1083,1084,1085,1086,1087,1103,1088,1089,1090,1091,1078,1074,1100,1099,1079,1096,
 1101,1097,1095,1098] (iSub .i64 x 192)) (fun z1=>(some z1))) (cnd (iEq x 163) (some 1105) (cnd (iEq x 179) (some 1025) (some (-1))))))
def F_s_l3Win (x:Int):(Option Int):=(cnd (iGe x 160) (some x) (bnd (idx [8364,(-1),8218,402,8222,8230,8224,8225,710,8240,352,8249,338,(-1),381,
 (-1),(-1),8216,8217,8220,8221,8226,8211,8212,732,8482,353,8250,339,(-1),382,376] (iSub .i64 x 128)) (fun z1=>(some z1))))
def F_s_ByteSign (x:(Int×Int)):(Option (Int×Bool)):=(bnd (F_s_l1In (x.1,(1,4))) (fun z1=>(cnd (bNot z1) (some (0,false)) (bnd (F_s_l1In (x.2,
 (0,255))) (fun z2=>(cnd (bNot z2) (some (0,false)) (joinX (cnd (iGe x.2 128) (cnd (iEq x.1 2) (bnd (F_s_l3Nine x.2) (fun z3=>(some (.inl z3)))) (cnd (iEq
 x.1 3) (bnd (F_s_l3Koi x.2) (fun z3=>(some (.inl z3)))) (cnd (iEq x.1 4) (bnd (F_s_l3Win x.2) (fun z3=>(some (.inl z3)))) (some (.inl x.2))))) (some (.inl
 x.2))) (fun (z3:Int)=>(cnd (iLt z3 0) (some (0,false)) (some (z3,true)))))))))))
def F_s_l5Sign (x:(((List UInt8)×(Int×Int))×Int)):(Option (Int×(Int×Int))):=(cnd (iEq x.2 0) (bnd (F_s_l2Sign (x.1.1,(x.1.2.1,x.1.2.2))) (fun z1=>(some (z1.1,(z1.2.1,z1.2.2))))) (cnd (iEq x.2 5) (bnd (F_s_l1Int ((x.1.1,(x.1.2.1,x.1.2.2)),[97,32,12353,12435,12449,12534,12354])) (fun z1=>(some (z1.1,(z1.2.1,z1.2.2))))) (bnd (F_s_l1Int ((x.1.1,(x.1.2.1,x.1.2.2)),[65,97,32,164,192,200,228,255,163,128,130,189])) (fun z1=>(bnd (F_s_ByteSign (x.2,z1.1)) (fun z2=>(cnd (bNot z2.2) (some (120,(z1.2.1,z1.2.2))) (some (z2.1,(z1.2.1,z1.2.2))))))))))
def F_s_SignOk (x:Int):(Option Bool):=(bnd (F_s_l1In (x,(0,1114111))) (fun z1=>(cnd z1 (bnd (F_s_l1In (x,(55296,57343))) (fun z2 =>
 (some (bNot z2)))) (some false))))
def F_s_PutSign (x:((List UInt8)×Int)):(Option (List UInt8)):=(chk (room (0+x.1.length) 1) (bnd (F_s_SignOk x.2) (fun z1=>(cnd (bNot z1) (some
 (lApp [] x.1)) (cnd (iLe x.2 127) (chk (room ((lApp [] x.1).length+1) 1) (some (lApp (lApp [] x.1) [(u8 (iConv .u8 x.2))]))) (cnd (iLe x.2 2047) (chk (room ((lApp []
 x.1).length+2) 1) (some (lApp (lApp [] x.1) [(u8 (iConv .u8 (iOr .i64 192 (iShr .i64 x.2 6)))),(u8 (iConv .u8 (iOr .i64 128 (iAnd .i64 x.2 63))))]))) (cnd (iLe x.2 65535) (chk
 (room ((lApp [] x.1).length+3) 1) (some (lApp (lApp [] x.1) [(u8 (iConv .u8 (iOr .i64 224 (iShr .i64 x.2 12)))),(u8 (iConv .u8 (iOr .i64 128 (iAnd .i64 (iShr .i64 x.2 6)
 63)))),(u8 (iConv .u8 (iOr .i64 128 (iAnd .i64 x.2 63))))]))) (chk (room ((lApp [] x.1).length+4) 1) (some (lApp (lApp [] x.1) [(u8 (iConv .u8 (iOr .i64 240 (iShr .i64 x.2
 18)))),(u8 (iConv .u8 (iOr .i64 128 (iAnd .i64 (iShr .i64 x.2 12) 63)))),(u8 (iConv .u8 (iOr .i64 128 (iAnd .i64 (iShr .i64 x.2 6) 63)))),(u8 (iConv .u8 (iOr .i64 128 (iAnd
 .i64 x.2 63))))]))))))))))
def S_s_l5Text_0 (x:(((List UInt8)×(Int×Int))×(Int×Int))):(Int×(Int×((List UInt8)×Int)))->Option ((Int×(Int×((List UInt8)×Int))) ⊕ ((Int ×
 (Int×(List UInt8))) ⊕ ((List UInt8)×(Int×Int)))):=fun (z2:(Int×(Int×((List UInt8)×Int))))=>(cnd (iGt z2.2.2.2 0) (bnd (F_s_l5Sign ((x.1.1,(z2.1,z2.2.1)),
 x.2.1)) (fun z3=>(bnd (F_s_PutSign (z2.2.2.1,z3.1)) (fun z4=>(some (.inl (z3.2.1,(z3.2.2,(z4,(iSub .i64 z2.2.2.2 1))))))))))
 (some (.inr (.inl (z2.1,(z2.2.1,z2.2.2.1))))))
def F_s_l5Text (x:(((List UInt8)×(Int×Int))×(Int×Int))):(Option ((List UInt8)×(Int×Int))):=(joinX (bnd (F_s_l1Below ((x.1.1,(x.1.2.1,x.1.2.2)),
 (iAdd .i64 x.2.2 1))) (fun z1=>(loopX (S_s_l5Text_0 x) (z1.2.1,(z1.2.2,([],z1.1)))))) (fun (z1:(Int×(Int×(List UInt8))))=>(some (z1.2.2,
 (z1.1,z1.2.1)))))
def F_s_l2Len (x:UInt8):(Option Int):=(cnd (iLt (y2i x) (y2i (u8 128))) (some 1) (bnd (F_s_l1In ((iConv .i64 (y2i x)),(194,223))) (fun z1=>(cnd z1
 (some 2) (bnd (F_s_l1In ((iConv .i64 (y2i x)),(224,239))) (fun z2=>(cnd z2 (some 3) (bnd (F_s_l1In ((iConv .i64 (y2i x)),(240,244))) (fun z3=>(cnd z3
 (some 4) (some 0)))))))))))
def S_s_GetSign_0 (x:((List UInt8)×Int)) (z3:Int):(Int×Int)->Option ((Int×Int) ⊕ (Int ⊕ (Int×(Int×Bool)))):=fun (z6:(Int×Int))=>(cnd (iLt
 z6.2 z3) (bnd (idx x.1 (iAdd .i64 x.2 z6.2)) (fun z7=>(cnd (iNe (y2i (u8 (iAnd .u8 (y2i z7) (y2i (u8 192))))) (y2i (u8 128))) (some (.inr (.inr (0,(0,false)))))
 (bnd (idx x.1 (iAdd .i64 x.2 z6.2)) (fun z8=>(some (.inl ((iOr .i64 (iShl .i64 z6.1 6) (iConv .i64 (y2i (u8 (iAnd .u8 (y2i z8) (y2i (u8 63))))))),(iAdd .i64 z6.2
 1))))))))) (some (.inr (.inl z6.1))))
def F_s_GetSign (x:((List UInt8)×Int)):(Option (Int×(Int×Bool))):=(bnd (F_s_l1In (x.2,(0,(iSub .i64 (lLen x.1) 1)))) (fun z1=>(cnd (bNot z1)
 (some (0,(0,false))) (bnd (idx x.1 x.2) (fun z2=>(bnd (F_s_l2Len z2) (fun z3=>(cnd (iEq z3 0) (some (0,(0,false))) (cnd (iGt z3 (iSub .i64 (lLen x.1)
 x.2)) (some (0,(0,false))) (bnd (idx x.1 x.2) (fun z4=>(joinX (cnd (iGt z3 1) (chk (iLe 0 (iConv .u64 z3)) (some (.inl (iAnd .i64 (iConv .i64 (y2i z4)) (iShr .i64
 127 (iConv .u64 z3)))))) (some (.inl (iConv .i64 (y2i z4))))) (fun (z5:Int)=>(joinX (loopX (S_s_GetSign_0 x z3) (z5,1)) (fun (z6:Int)=>(bnd (F_s_SignOk z6) (fun z7=>(cnd (bNot z7) (some (0,(0,false))) (bnd (F_s_PutSign ([],z6)) (fun z8=>(chk (within x.2 (iAdd .i64 x.2 z3) (lLen x.1)) (cnd (bNot (sEq z8 (lTake
 ((nOf (iAdd .i64 x.2 z3)) - (nOf x.2)) (lDrop (nOf x.2) x.1)))) (some (0,(0,false))) (some (z6,((iAdd .i64 x.2 z3),true)))))))))))))))))))))))))
def S_s_Signs_0 (x:(List UInt8)):((List Int)×Int)->Option (((List Int)×Int) ⊕ ((List Int) ⊕ ((List Int)×Bool))):=fun (z1:((List Int)×Int))=>(cnd
 (iLt z1.2 (lLen x)) (bnd (F_s_GetSign (x,z1.2)) (fun z2=>(cnd (bNot z2.2.2) (some (.inr (.inr ([],false)))) (chk (room (z1.1.length+1) 8) (some
 (.inl ((lApp z1.1 [z2.1]),z2.2.1))))))) (some (.inr (.inl z1.1))))
def F_s_Signs (x:(List UInt8)):(Option ((List Int)×Bool)):=(joinX (loopX (S_s_Signs_0 x) ([],0)) (fun (z1:(List Int))=>(some (z1,true))))
def F_s_l5Cs (x:Int):(Option Bool):=(bnd (F_s_l1In (x,(0,5))) (fun z1=>(some z1)))
def F_s_SignPair (x:Int):(Option (Int×(Int×Bool))):=(bnd (F_s_l1In (x,(12353,12435))) (fun z1=>(cnd z1 (some (164,((iAdd .i64 (iSub .i64 x
 12353) 161),true))) (bnd (F_s_l1In (x,(12449,12534))) (fun z2=>(cnd z2 (some (165,((iAdd .i64 (iSub .i64 x 12449) 161),true))) (some (0,(0,false)))))))))
def F_s_PutEuc (x:((List UInt8)×Int)):(Option ((List UInt8)×Bool)):=(chk (room (0+x.1.length) 1) (bnd (F_s_l1In (x.2,(0,127))) (fun z1=>(cnd
 z1 (chk (room ((lApp [] x.1).length+1) 1) (some ((lApp (lApp [] x.1) [(u8 (iConv .u8 x.2))]),true))) (bnd (F_s_SignPair x.2) (fun z2=>(cnd (bNot
 z2.2.2) (some ((lApp [] x.1),false)) (chk (room ((lApp [] x.1).length+2) 1) (some ((lApp (lApp [] x.1) [(u8 (iConv .u8 z2.1)),(u8 (iConv .u8 z2.2.1))]),true))))))))))
def S_s_SignByte_0 (x:(Int×Int)):(Int)->Option ((Int) ⊕ (Unit ⊕ (Int×Bool))):=fun (z1:Int)=>(cnd (iLt z1 256) (bnd (F_s_ByteSign (x.1,z1)) (fun z2=>(cnd z2.2 (cnd (iEq z2.1 x.2) (some (.inr (.inr (z1,true)))) (some (.inl (iAdd .i64 z1 1)))) (some (.inl (iAdd .i64 z1 1)))))) (some (.inr (.inl ()))))
def F_s_SignByte (x:(Int×Int)):(Option (Int×Bool)):=(joinX (loopX (S_s_SignByte_0 x) 0) (fun (z1:Unit)=>(some (0,false))))
def F_s_l5Put (x:(Int×((List UInt8)×Int))):(Option ((List UInt8)×Bool)):=(cnd (iEq x.1 0) (bnd (F_s_PutSign (x.2.1,x.2.2)) (fun z1 =>
 (bnd (F_s_SignOk x.2.2) (fun z2=>(some (z1,z2)))))) (cnd (iEq x.1 5) (bnd (F_s_PutEuc (x.2.1,x.2.2)) (fun z1=>(some (z1.1,z1.2)))) (bnd
 (F_s_SignByte (x.1,x.2.2)) (fun z1=>(cnd (bNot z1.2) (chk (room (0+x.2.1.length) 1) (some ((lApp [] x.2.1),false))) (chk (room (0+x.2.1.length) 1) (chk
 (room ((lApp [] x.2.1).length+1) 1) (some ((lApp (lApp [] x.2.1) [(u8 (iConv .u8 z1.1))]),true)))))))))
def S_s_Encode_0 (x:(Int×(List UInt8))) (z1:((List Int)×Bool)):((List UInt8)×Int)->Option (((List UInt8)×Int) ⊕ ((List UInt8) ⊕ ((List UInt8)×Bool)))
 := fun (z3:((List UInt8)×Int))=>(cnd (iLt z3.2 (lLen z1.1)) (bnd (idx z1.1 z3.2) (fun z4=>(bnd (F_s_l5Put (x.1,(z3.1,z4))) (fun z5 =>
 (cnd (bNot z5.2) (some (.inr (.inr ([],false)))) (some (.inl (z5.1,(iAdd .i64 z3.2 1))))))))) (some (.inr (.inl z3.1))))
def F_s_Encode (x:(Int×(List UInt8))):(Option ((List UInt8)×Bool)):=(bnd (F_s_Signs x.2) (fun z1=>(bnd (F_s_l5Cs x.1) (fun z2=>(cnd (bNot z2) (some ([],false)) (cnd (bNot z1.2) (some ([],false)) (joinX (loopX (S_s_Encode_0 x z1) ([],0)) (fun (z3:(List UInt8))=>(some (z3,true))))))))))
def F_s_CellOf (x:(Int×(List UInt8))):(Option ((Int×(List UInt8))×Bool)):=(bnd (F_s_Encode (x.1,x.2)) (fun z1=>(cnd (bNot
 z1.2) (some ((0,[]),false)) (cnd (iGt (lLen z1.1) 20) (some ((0,[]),false)) (some ((x.1,z1.1),true))))))
def S_s_NameOk_0 (x:(List UInt8)):(Int)->Option ((Int) ⊕ (Unit ⊕ Bool)):=fun (z1:Int)=>(cnd (iLt z1 (lLen x)) (bnd (idx x z1) (fun z2=>(bnd
 (F_s_l1In ((iConv .i64 (y2i z2)),(97,122))) (fun z3=>(cnd (bNot z3) (bnd (idx x z1) (fun z4=>(bnd (F_s_l1In ((iConv .i64 (y2i z4)),(48,57))) (fun z5=>(cnd (bNot z5) (some (.inr (.inr false))) (some (.inl (iAdd .i64 z1 1)))))))) (some (.inl (iAdd .i64 z1 1)))))))) (some (.inr (.inl ()))))
def F_s_NameOk (x:(List UInt8)):(Option Bool):=(joinX (loopX (S_s_NameOk_0 x) 0) (fun (z1:Unit)=>(bnd (F_s_l1In ((lLen x),(1,6))) (fun z2 =>
 (some z2)))))
def F_s_RowOf (x:(Int×((List UInt8)×(Int×(List UInt8))))):(Option (((List UInt8)×((Int×(List UInt8))×((Int×(List UInt8))×(Int×Bool))))×Int))
 := (bnd (F_s_CellOf (0,x.2.2.2)) (fun z1=>(bnd (F_s_l1In (x.1,(0,7))) (fun z2=>(cnd (bNot z2) (some (([],((0,[]),((0,[]),
 (0,false)))),1)) (bnd (F_s_NameOk x.2.1) (fun z3=>(cnd (bNot z3) (some (([],((0,[]),((0,[]),(0,false)))),1)) (bnd (F_s_l1In (x.2.2.1,(1,5))) (fun z4=>(cnd (bNot z4) (some (([],((0,[]),((0,[]),(0,false)))),1)) (cnd (bNot z1.2) (some (([],((0,[]),((0,[]),(0,false)))),1)) (bnd (F_s_CellOf (x.2.2.1,
 x.2.2.2)) (fun z5=>(joinX (joinX (cnd (iEq x.1 0) (some (.inl true)) (some (.inl (iEq x.1 7)))) (fun (z6:Bool)=>(cnd z6 (cnd (bNot z5.2)
 (some (.inr (([],((0,[]),((0,[]),(0,false)))),3))) (some (.inr ((x.2.1,((z5.1.1,z5.1.2),((0,[]),(1,false)))),0)))) (joinX (cnd (iEq x.1 4) (some (.inl true)) (some
 (.inl (iEq x.1 5)))) (fun (z7:Bool)=>(cnd z7 (some (.inr ((x.2.1,((0,[]),((z1.1.1,z1.1.2),(2,false)))),0))) (cnd (iEq x.1 6) (cnd z5.2 (some (.inr ((x.2.1,((z5.1.1,
 z5.1.2),((0,[]),(1,false)))),0))) (some (.inr ((x.2.1,((0,[]),((z1.1.1,z1.1.2),(2,true)))),0)))) (some (.inl ([],(0,([],(0,([],(0,false))))))))))))))) (fun (z6
 : ((List UInt8)×(Int×((List UInt8)×(Int×((List UInt8)×(Int×Bool)))))))=>(cnd (bNot z5.2) (some ((x.2.1,((0,[]),((z1.1.1,z1.1.2),(2,true)))),0)) (some
 ((x.2.1,((z5.1.1,z5.1.2),((z1.1.1,z1.1.2),(3,false)))),0)))))))))))))))))))
def F_s_l8Copy (x:(Int×(List UInt8))):(Option (Int×(List UInt8))):=(chk (room (0+x.2.length) 1) (some (x.1,(lApp [] x.2))))
def F_s_l9Copy (x:((List UInt8)×((Int×(List UInt8))×((Int×(List UInt8))×(Int×Bool))))):(Option ((List UInt8)×((Int×(List UInt8))×((Int×(List
 UInt8))×(Int×Bool))))):=(bnd (F_s_l8Copy (x.2.1.1,x.2.1.2)) (fun z1=>(bnd (F_s_l8Copy (x.2.2.1.1,x.2.2.1.2)) (fun z2
 => (some (x.1,((z1.1,z1.2),((z2.1,z2.2),(x.2.2.2.1,x.2.2.2.2)))))))))
def F_s_l9Old (x:((List UInt8)×((Int×(List UInt8))×((Int×(List UInt8))×(Int×Bool))))):(Option Bool):=(some (iEq (iAnd .i64 x.2.2.2.1 1) 1))
def F_s_l9None (x:(Int×(List UInt8))):(Option Bool):=(cnd (iEq x.1 0) (some (iEq (lLen x.2) 0)) (some false))
def F_s_l9New (x:((List UInt8)×((Int×(List UInt8))×((Int×(List UInt8))×(Int×Bool))))):(Option Bool):=(some (iEq (iAnd .i64 x.2.2.2.1 2) 2))
def F_s_CellOk (x:(Int×(List UInt8))):(Option Bool):=(bnd (F_s_l5Cs x.1) (fun z1=>(cnd z1 (some (iLe (lLen x.2) 20)) (some false))))
def F_s_PairSign (x:(Int×Int)):(Option (Int×Bool)):=(cnd (iEq x.1 164) (bnd (F_s_l1In (x.2,(161,243))) (fun z1=>(cnd z1 (some ((iSub .i64 (iAdd
 .i64 12353 x.2) 161),true)) (cnd (iEq x.1 165) (bnd (F_s_l1In (x.2,(161,246))) (fun z2=>(cnd z2 (some ((iSub .i64 (iAdd .i64 12449 x.2) 161),true)) (some (0,
 false))))) (some (0,false)))))) (cnd (iEq x.1 165) (bnd (F_s_l1In (x.2,(161,246))) (fun z1=>(cnd z1 (some ((iSub .i64 (iAdd .i64 12449 x.2) 161),true)) (some (0,
 false))))) (some (0,false))))
def F_s_EucSign (x:((List UInt8)×Int)):(Option (Int×(Int×Bool))):=(bnd (F_s_l1In (x.2,(0,(iSub .i64 (lLen x.1) 1)))) (fun z1=>(cnd (bNot z1)
 (some (0,(0,false))) (bnd (idx x.1 x.2) (fun z2=>(cnd (iLt (y2i z2) (y2i (u8 128))) (bnd (idx x.1 x.2) (fun z3=>(some ((iConv .i64 (y2i z3)),((iAdd
 .i64 x.2 1),true))))) (cnd (iGe (iAdd .i64 x.2 1) (lLen x.1)) (some (0,(0,false))) (bnd (idx x.1 x.2) (fun z3=>(bnd (idx x.1 (iAdd .i64 x.2 1)) (fun z4
 => (bnd (F_s_PairSign ((iConv .i64 (y2i z3)),(iConv .i64 (y2i z4)))) (fun z5=>(cnd (bNot z5.2) (some (0,(0,false))) (some (z5.1,((iAdd .i64 x.2 2),
 true)))))))))))))))))
def F_s_l5Get (x:(Int×((List UInt8)×Int))):(Option (Int×(Int×Bool))):=(cnd (iEq x.1 0) (bnd (F_s_GetSign (x.2.1,x.2.2)) (fun z1=>(some (z1.1,(z1.2.1,z1.2.2))))) (cnd (iEq x.1 5) (bnd (F_s_EucSign (x.2.1,x.2.2)) (fun z1=>(some (z1.1,(z1.2.1,z1.2.2))))) (bnd (idx
 x.2.1 x.2.2) (fun z1=>(bnd (F_s_ByteSign (x.1,(iConv .i64 (y2i z1)))) (fun z2=>(some (z2.1,((iAdd .i64 x.2.2 1),z2.2)))))))))
def S_s_Decode_0 (x:(Int×(List UInt8))):((List UInt8)×Int)->Option (((List UInt8)×Int) ⊕ ((List UInt8) ⊕ ((List UInt8)×Bool))):=fun (z2:((List UInt8)
 × Int))=>(cnd (iLt z2.2 (lLen x.2)) (bnd (F_s_l5Get (x.1,(x.2,z2.2))) (fun z3=>(cnd (bNot z3.2.2) (some (.inr (.inr ([],false)))) (bnd
 (F_s_PutSign (z2.1,z3.1)) (fun z4=>(some (.inl (z4,z3.2.1)))))))) (some (.inr (.inl z2.1))))
def F_s_Decode (x:(Int×(List UInt8))):(Option ((List UInt8)×Bool)):=(bnd (F_s_l5Cs x.1) (fun z1=>(cnd (bNot z1) (some ([],false)) (joinX (loopX
 (S_s_Decode_0 x) ([],0)) (fun (z2:(List UInt8))=>(some (z2,true)))))))
def F_s_CellText (x:(Int×(List UInt8))):(Option ((List UInt8)×Bool)):=(bnd (F_s_CellOk (x.1,x.2)) (fun z1=>(cnd (bNot z1) (some ([],false))
 (bnd (F_s_Decode (x.1,x.2)) (fun z2=>(some (z2.1,z2.2)))))))
def F_s_SameText (x:((Int×(List UInt8))×(Int×(List UInt8)))):(Option Bool):=(bnd (F_s_CellText (x.1.1,x.1.2)) (fun z1=>(bnd
 (F_s_CellText (x.2.1,x.2.2)) (fun z2=>(cnd z1.2 (cnd z2.2 (some (sEq z1.1 z2.1)) (some false)) (some false))))))
def F_s_RowOk (x:((List UInt8)×((Int×(List UInt8))×((Int×(List UInt8))×(Int×Bool))))):(Option Bool):=(bnd (F_s_NameOk x.1) (fun z1=>(cnd
 (bNot z1) (some false) (bnd (F_s_l1In (x.2.2.2.1,(1,3))) (fun z2=>(cnd (bNot z2) (some false) (bnd (F_s_l9Old (x.1,((x.2.1.1,x.2.1.2),((x.2.2.1.1,x.2.2.1.2),
 (x.2.2.2.1,x.2.2.2.2))))) (fun z3=>(cnd (bNot z3) (bnd (F_s_l9None (x.2.1.1,x.2.1.2)) (fun z4=>(cnd (bNot z4) (some false) (bnd (F_s_l9New (x.1,
 ((x.2.1.1,x.2.1.2),((x.2.2.1.1,x.2.2.1.2),(x.2.2.2.1,x.2.2.2.2))))) (fun z5=>(cnd (bNot z5) (bnd (F_s_l9None (x.2.2.1.1,x.2.2.1.2)) (fun z6=>(cnd
 (bNot z6) (some false) (bnd (F_s_CellText (x.2.1.1,x.2.1.2)) (fun z7=>(bnd (F_s_CellText (x.2.2.1.1,x.2.2.1.2)) (fun z8 =>
 (bnd (F_s_l9Old (x.1,((x.2.1.1,x.2.1.2),((x.2.2.1.1,x.2.2.1.2),(x.2.2.2.1,x.2.2.2.2))))) (fun z9=>(cnd z9 (bnd (F_s_l1In (x.2.1.1,(1,5))) (fun z10 =>
 (cnd (bNot z10) (some false) (bnd (F_s_CellOk (x.2.1.1,x.2.1.2)) (fun z11=>(cnd (bNot z11) (some false) (bnd (F_s_l9New (x.1,((x.2.1.1,x.2.1.2),((x.2.2.1.1,
 x.2.2.1.2),(x.2.2.2.1,x.2.2.2.2))))) (fun z12=>(cnd z12 (cnd (iNe x.2.2.1.1 0) (some false) (cnd (bNot z8.2) (some false) (bnd (F_s_l9Old (x.1,((x.2.1.1,x.2.1.2),
 ((x.2.2.1.1,x.2.2.1.2),(x.2.2.2.1,x.2.2.2.2))))) (fun z13=>(cnd z13 (cnd (bNot z7.2) (cnd (bNot x.2.2.2.2) (some false) (bnd (F_s_l9New (x.1,((x.2.1.1,x.2.1.2),
 ((x.2.2.1.1,x.2.2.1.2),(x.2.2.2.1,x.2.2.2.2))))) (fun z14=>(cnd z14 (some false) (cnd (iNe x.2.2.2.1 3) (some true) (bnd (F_s_SameText ((x.2.1.1,x.2.1.2),
 (x.2.2.1.1,x.2.2.1.2))) (fun z15=>(some z15)))))))) (cnd (iNe x.2.2.2.1 3) (some true) (bnd (F_s_SameText ((x.2.1.1,x.2.1.2),(x.2.2.1.1,x.2.2.1.2))) (fun z14=>(some z14))))) (cnd (iNe x.2.2.2.1 3) (some true) (bnd (F_s_SameText ((x.2.1.1,x.2.1.2),(x.2.2.1.1,x.2.2.1.2))) (fun z14=>(some z14))))))))) (bnd
 (F_s_l9Old (x.1,((x.2.1.1,x.2.1.2),((x.2.2.1.1,x.2.2.1.2),(x.2.2.2.1,x.2.2.2.2))))) (fun z13=>(cnd z13 (cnd (bNot z7.2) (cnd (bNot x.2.2.2.2) (some false) (bnd
 (F_s_l9New (x.1,((x.2.1.1,x.2.1.2),((x.2.2.1.1,x.2.2.1.2),(x.2.2.2.1,x.2.2.2.2))))) (fun z14=>(cnd z14 (some false) (cnd (iNe x.2.2.2.1 3) (some true) (bnd
 (F_s_SameText ((x.2.1.1,x.2.1.2),(x.2.2.1.1,x.2.2.1.2))) (fun z15=>(some z15)))))))) (cnd (iNe x.2.2.2.1 3) (some true) (bnd (F_s_SameText ((x.2.1.1,x.2.1.2),
 (x.2.2.1.1,x.2.2.1.2))) (fun z14=>(some z14))))) (cnd (iNe x.2.2.2.1 3) (some true) (bnd (F_s_SameText ((x.2.1.1,x.2.1.2),(x.2.2.1.1,x.2.2.1.2))) (fun z14
 => (some z14)))))))))))))))) (bnd (F_s_l9New (x.1,((x.2.1.1,x.2.1.2),((x.2.2.1.1,x.2.2.1.2),(x.2.2.2.1,x.2.2.2.2))))) (fun z10=>(cnd z10 (cnd (iNe x.2.2.1.1 0)
 (some false) (cnd (bNot z8.2) (some false) (bnd (F_s_l9Old (x.1,((x.2.1.1,x.2.1.2),((x.2.2.1.1,x.2.2.1.2),(x.2.2.2.1,x.2.2.2.2))))) (fun z11=>(cnd z11 (cnd (bNot
 z7.2) (cnd (bNot x.2.2.2.2) (some false) (bnd (F_s_l9New (x.1,((x.2.1.1,x.2.1.2),((x.2.2.1.1,x.2.2.1.2),(x.2.2.2.1,x.2.2.2.2))))) (fun z12=>(cnd z12 (some false)
 (cnd (iNe x.2.2.2.1 3) (some true) (bnd (F_s_SameText ((x.2.1.1,x.2.1.2),(x.2.2.1.1,x.2.2.1.2))) (fun z13=>(some z13)))))))) (cnd (iNe x.2.2.2.1 3) (some true) (bnd
 (F_s_SameText ((x.2.1.1,x.2.1.2),(x.2.2.1.1,x.2.2.1.2))) (fun z12=>(some z12))))) (cnd (iNe x.2.2.2.1 3) (some true) (bnd (F_s_SameText ((x.2.1.1,x.2.1.2),
 (x.2.2.1.1,x.2.2.1.2))) (fun z12=>(some z12))))))))) (bnd (F_s_l9Old (x.1,((x.2.1.1,x.2.1.2),((x.2.2.1.1,x.2.2.1.2),(x.2.2.2.1,x.2.2.2.2))))) (fun z11
 => (cnd z11 (cnd (bNot z7.2) (cnd (bNot x.2.2.2.2) (some false) (bnd (F_s_l9New (x.1,((x.2.1.1,x.2.1.2),((x.2.2.1.1,x.2.2.1.2),(x.2.2.2.1,x.2.2.2.2))))) (fun z12
 => (cnd z12 (some false) (cnd (iNe x.2.2.2.1 3) (some true) (bnd (F_s_SameText ((x.2.1.1,x.2.1.2),(x.2.2.1.1,x.2.2.1.2))) (fun z13=>(some z13)))))))) (cnd (iNe
 x.2.2.2.1 3) (some true) (bnd (F_s_SameText ((x.2.1.1,x.2.1.2),(x.2.2.1.1,x.2.2.1.2))) (fun z12=>(some z12))))) (cnd (iNe x.2.2.2.1 3) (some true) (bnd
 (F_s_SameText ((x.2.1.1,x.2.1.2),(x.2.2.1.1,x.2.2.1.2))) (fun z12=>(some z12)))))))))))))))))))) (bnd (F_s_CellText (x.2.1.1,x.2.1.2)) (fun z6=>(bnd (F_s_CellText (x.2.2.1.1,x.2.2.1.2)) (fun z7=>(bnd (F_s_l9Old (x.1,((x.2.1.1,x.2.1.2),((x.2.2.1.1,x.2.2.1.2),(x.2.2.2.1,
 x.2.2.2.2))))) (fun z8=>(cnd z8 (bnd (F_s_l1In (x.2.1.1,(1,5))) (fun z9=>(cnd (bNot z9) (some false) (bnd (F_s_CellOk (x.2.1.1,x.2.1.2)) (fun z10=>(cnd (bNot z10) (some false) (bnd (F_s_l9New (x.1,((x.2.1.1,x.2.1.2),((x.2.2.1.1,x.2.2.1.2),(x.2.2.2.1,x.2.2.2.2))))) (fun z11=>(cnd z11 (cnd (iNe
 x.2.2.1.1 0) (some false) (cnd (bNot z7.2) (some false) (bnd (F_s_l9Old (x.1,((x.2.1.1,x.2.1.2),((x.2.2.1.1,x.2.2.1.2),(x.2.2.2.1,x.2.2.2.2))))) (fun z12=>(cnd
 z12 (cnd (bNot z6.2) (cnd (bNot x.2.2.2.2) (some false) (bnd (F_s_l9New (x.1,((x.2.1.1,x.2.1.2),((x.2.2.1.1,x.2.2.1.2),(x.2.2.2.1,x.2.2.2.2))))) (fun z13=>(cnd
 z13 (some false) (cnd (iNe x.2.2.2.1 3) (some true) (bnd (F_s_SameText ((x.2.1.1,x.2.1.2),(x.2.2.1.1,x.2.2.1.2))) (fun z14=>(some z14)))))))) (cnd (iNe x.2.2.2.1 3)
 (some true) (bnd (F_s_SameText ((x.2.1.1,x.2.1.2),(x.2.2.1.1,x.2.2.1.2))) (fun z13=>(some z13))))) (cnd (iNe x.2.2.2.1 3) (some true) (bnd (F_s_SameText ((x.2.1.1,
 x.2.1.2),(x.2.2.1.1,x.2.2.1.2))) (fun z13=>(some z13))))))))) (bnd (F_s_l9Old (x.1,((x.2.1.1,x.2.1.2),((x.2.2.1.1,x.2.2.1.2),(x.2.2.2.1,x.2.2.2.2))))) (fun
 z12=>(cnd z12 (cnd (bNot z6.2) (cnd (bNot x.2.2.2.2) (some false) (bnd (F_s_l9New (x.1,((x.2.1.1,x.2.1.2),((x.2.2.1.1,x.2.2.1.2),(x.2.2.2.1,x.2.2.2.2))))) (fun
 z13=>(cnd z13 (some false) (cnd (iNe x.2.2.2.1 3) (some true) (bnd (F_s_SameText ((x.2.1.1,x.2.1.2),(x.2.2.1.1,x.2.2.1.2))) (fun z14=>(some z14))))))))
 (cnd (iNe x.2.2.2.1 3) (some true) (bnd (F_s_SameText ((x.2.1.1,x.2.1.2),(x.2.2.1.1,x.2.2.1.2))) (fun z13=>(some z13))))) (cnd (iNe x.2.2.2.1 3) (some true) (bnd
 (F_s_SameText ((x.2.1.1,x.2.1.2),(x.2.2.1.1,x.2.2.1.2))) (fun z13=>(some z13)))))))))))))))) (bnd (F_s_l9New (x.1,((x.2.1.1,x.2.1.2),((x.2.2.1.1,x.2.2.1.2),
 (x.2.2.2.1,x.2.2.2.2))))) (fun z9=>(cnd z9 (cnd (iNe x.2.2.1.1 0) (some false) (cnd (bNot z7.2) (some false) (bnd (F_s_l9Old (x.1,((x.2.1.1,x.2.1.2),((x.2.2.1.1,
 x.2.2.1.2),(x.2.2.2.1,x.2.2.2.2))))) (fun z10=>(cnd z10 (cnd (bNot z6.2) (cnd (bNot x.2.2.2.2) (some false) (bnd (F_s_l9New (x.1,((x.2.1.1,x.2.1.2),((x.2.2.1.1,
 x.2.2.1.2),(x.2.2.2.1,x.2.2.2.2))))) (fun z11=>(cnd z11 (some false) (cnd (iNe x.2.2.2.1 3) (some true) (bnd (F_s_SameText ((x.2.1.1,x.2.1.2),(x.2.2.1.1,
 x.2.2.1.2))) (fun z12=>(some z12)))))))) (cnd (iNe x.2.2.2.1 3) (some true) (bnd (F_s_SameText ((x.2.1.1,x.2.1.2),(x.2.2.1.1,x.2.2.1.2))) (fun z11=>(some
 z11))))) (cnd (iNe x.2.2.2.1 3) (some true) (bnd (F_s_SameText ((x.2.1.1,x.2.1.2),(x.2.2.1.1,x.2.2.1.2))) (fun z11=>(some z11))))))))) (bnd (F_s_l9Old (x.1,
 ((x.2.1.1,x.2.1.2),((x.2.2.1.1,x.2.2.1.2),(x.2.2.2.1,x.2.2.2.2))))) (fun z10=>(cnd z10 (cnd (bNot z6.2) (cnd (bNot x.2.2.2.2) (some false) (bnd (F_s_l9New (x.1,
 ((x.2.1.1,x.2.1.2),((x.2.2.1.1,x.2.2.1.2),(x.2.2.2.1,x.2.2.2.2))))) (fun z11=>(cnd z11 (some false) (cnd (iNe x.2.2.2.1 3) (some true) (bnd (F_s_SameText
 ((x.2.1.1,x.2.1.2),(x.2.2.1.1,x.2.2.1.2))) (fun z12=>(some z12)))))))) (cnd (iNe x.2.2.2.1 3) (some true) (bnd (F_s_SameText ((x.2.1.1,x.2.1.2),(x.2.2.1.1,
 x.2.2.1.2))) (fun z11=>(some z11))))) (cnd (iNe x.2.2.2.1 3) (some true) (bnd (F_s_SameText ((x.2.1.1,x.2.1.2),(x.2.2.1.1,x.2.2.1.2))) (fun z11=>(some
 z11))))))))))))))))))))))) (bnd (F_s_l9New (x.1,((x.2.1.1,x.2.1.2),((x.2.2.1.1,x.2.2.1.2),(x.2.2.2.1,x.2.2.2.2))))) (fun z4=>(cnd (bNot z4) (bnd (F_s_l9None
 (x.2.2.1.1,x.2.2.1.2)) (fun z5=>(cnd (bNot z5) (some false) (bnd (F_s_CellText (x.2.1.1,x.2.1.2)) (fun z6=>(bnd (F_s_CellText (x.2.2.1.1,
 x.2.2.1.2)) (fun z7=>(bnd (F_s_l9Old (x.1,((x.2.1.1,x.2.1.2),((x.2.2.1.1,x.2.2.1.2),(x.2.2.2.1,x.2.2.2.2))))) (fun z8=>(cnd z8 (bnd
 (F_s_l1In (x.2.1.1,(1,5))) (fun z9=>(cnd (bNot z9) (some false) (bnd (F_s_CellOk (x.2.1.1,x.2.1.2)) (fun z10=>(cnd (bNot z10) (some false) (bnd
 (F_s_l9New (x.1,((x.2.1.1,x.2.1.2),((x.2.2.1.1,x.2.2.1.2),(x.2.2.2.1,x.2.2.2.2))))) (fun z11=>(cnd z11 (cnd (iNe x.2.2.1.1 0) (some false) (cnd (bNot z7.2) (some
 false) (bnd (F_s_l9Old (x.1,((x.2.1.1,x.2.1.2),((x.2.2.1.1,x.2.2.1.2),(x.2.2.2.1,x.2.2.2.2))))) (fun z12=>(cnd z12 (cnd (bNot z6.2) (cnd (bNot x.2.2.2.2) (some
 false) (bnd (F_s_l9New (x.1,((x.2.1.1,x.2.1.2),((x.2.2.1.1,x.2.2.1.2),(x.2.2.2.1,x.2.2.2.2))))) (fun z13=>(cnd z13 (some false) (cnd (iNe x.2.2.2.1 3) (some
 true) (bnd (F_s_SameText ((x.2.1.1,x.2.1.2),(x.2.2.1.1,x.2.2.1.2))) (fun z14=>(some z14)))))))) (cnd (iNe x.2.2.2.1 3) (some true) (bnd (F_s_SameText ((x.2.1.1,
 x.2.1.2),(x.2.2.1.1,x.2.2.1.2))) (fun z13=>(some z13))))) (cnd (iNe x.2.2.2.1 3) (some true) (bnd (F_s_SameText ((x.2.1.1,x.2.1.2),(x.2.2.1.1,x.2.2.1.2))) (fun
 z13=>(some z13))))))))) (bnd (F_s_l9Old (x.1,((x.2.1.1,x.2.1.2),((x.2.2.1.1,x.2.2.1.2),(x.2.2.2.1,x.2.2.2.2))))) (fun z12=>(cnd z12 (cnd (bNot z6.2)
 (cnd (bNot x.2.2.2.2) (some false) (bnd (F_s_l9New (x.1,((x.2.1.1,x.2.1.2),((x.2.2.1.1,x.2.2.1.2),(x.2.2.2.1,x.2.2.2.2))))) (fun z13=>(cnd z13 (some false) (cnd
 (iNe x.2.2.2.1 3) (some true) (bnd (F_s_SameText ((x.2.1.1,x.2.1.2),(x.2.2.1.1,x.2.2.1.2))) (fun z14=>(some z14)))))))) (cnd (iNe x.2.2.2.1 3) (some true) (bnd
 (F_s_SameText ((x.2.1.1,x.2.1.2),(x.2.2.1.1,x.2.2.1.2))) (fun z13=>(some z13))))) (cnd (iNe x.2.2.2.1 3) (some true) (bnd (F_s_SameText ((x.2.1.1,x.2.1.2),
 (x.2.2.1.1,x.2.2.1.2))) (fun z13=>(some z13)))))))))))))))) (bnd (F_s_l9New (x.1,((x.2.1.1,x.2.1.2),((x.2.2.1.1,x.2.2.1.2),(x.2.2.2.1,x.2.2.2.2))))) (fun z9=>(cnd z9 (cnd (iNe x.2.2.1.1 0) (some false) (cnd (bNot z7.2) (some false) (bnd (F_s_l9Old (x.1,((x.2.1.1,x.2.1.2),((x.2.2.1.1,x.2.2.1.2),(x.2.2.2.1,x.2.2.2.2)))))
 (fun z10=>(cnd z10 (cnd (bNot z6.2) (cnd (bNot x.2.2.2.2) (some false) (bnd (F_s_l9New (x.1,((x.2.1.1,x.2.1.2),((x.2.2.1.1,x.2.2.1.2),(x.2.2.2.1,x.2.2.2.2)))))
 (fun z11=>(cnd z11 (some false) (cnd (iNe x.2.2.2.1 3) (some true) (bnd (F_s_SameText ((x.2.1.1,x.2.1.2),(x.2.2.1.1,x.2.2.1.2))) (fun z12=>(some
 z12)))))))) (cnd (iNe x.2.2.2.1 3) (some true) (bnd (F_s_SameText ((x.2.1.1,x.2.1.2),(x.2.2.1.1,x.2.2.1.2))) (fun z11=>(some z11))))) (cnd (iNe x.2.2.2.1 3) (some
 true) (bnd (F_s_SameText ((x.2.1.1,x.2.1.2),(x.2.2.1.1,x.2.2.1.2))) (fun z11=>(some z11))))))))) (bnd (F_s_l9Old (x.1,((x.2.1.1,x.2.1.2),((x.2.2.1.1,x.2.2.1.2),
 (x.2.2.2.1,x.2.2.2.2))))) (fun z10=>(cnd z10 (cnd (bNot z6.2) (cnd (bNot x.2.2.2.2) (some false) (bnd (F_s_l9New (x.1,((x.2.1.1,x.2.1.2),((x.2.2.1.1,x.2.2.1.2),
 (x.2.2.2.1,x.2.2.2.2))))) (fun z11=>(cnd z11 (some false) (cnd (iNe x.2.2.2.1 3) (some true) (bnd (F_s_SameText ((x.2.1.1,x.2.1.2),(x.2.2.1.1,x.2.2.1.2))) (fun
 z12=>(some z12)))))))) (cnd (iNe x.2.2.2.1 3) (some true) (bnd (F_s_SameText ((x.2.1.1,x.2.1.2),(x.2.2.1.1,x.2.2.1.2))) (fun z11=>(some z11))))) (cnd
 (iNe x.2.2.2.1 3) (some true) (bnd (F_s_SameText ((x.2.1.1,x.2.1.2),(x.2.2.1.1,x.2.2.1.2))) (fun z11=>(some z11)))))))))))))))))))) (bnd (F_s_CellText (x.2.1.1,
 x.2.1.2)) (fun z5=>(bnd (F_s_CellText (x.2.2.1.1,x.2.2.1.2)) (fun z6=>(bnd (F_s_l9Old (x.1,((x.2.1.1,x.2.1.2),
 ((x.2.2.1.1,x.2.2.1.2),(x.2.2.2.1,x.2.2.2.2))))) (fun z7=>(cnd z7 (bnd (F_s_l1In (x.2.1.1,(1,5))) (fun z8=>(cnd (bNot z8) (some false) (bnd (F_s_CellOk
 (x.2.1.1,x.2.1.2)) (fun z9=>(cnd (bNot z9) (some false) (bnd (F_s_l9New (x.1,((x.2.1.1,x.2.1.2),((x.2.2.1.1,x.2.2.1.2),(x.2.2.2.1,x.2.2.2.2))))) (fun z10=>(cnd z10 (cnd (iNe x.2.2.1.1 0) (some false) (cnd (bNot z6.2) (some false) (bnd (F_s_l9Old (x.1,((x.2.1.1,x.2.1.2),((x.2.2.1.1,x.2.2.1.2),(x.2.2.2.1,x.2.2.2.2)))))
 (fun z11=>(cnd z11 (cnd (bNot z5.2) (cnd (bNot x.2.2.2.2) (some false) (bnd (F_s_l9New (x.1,((x.2.1.1,x.2.1.2),((x.2.2.1.1,x.2.2.1.2),(x.2.2.2.1,x.2.2.2.2)))))
 (fun z12=>(cnd z12 (some false) (cnd (iNe x.2.2.2.1 3) (some true) (bnd (F_s_SameText ((x.2.1.1,x.2.1.2),(x.2.2.1.1,x.2.2.1.2))) (fun z13=>(some
 z13)))))))) (cnd (iNe x.2.2.2.1 3) (some true) (bnd (F_s_SameText ((x.2.1.1,x.2.1.2),(x.2.2.1.1,x.2.2.1.2))) (fun z12=>(some z12))))) (cnd (iNe x.2.2.2.1 3) (some
 true) (bnd (F_s_SameText ((x.2.1.1,x.2.1.2),(x.2.2.1.1,x.2.2.1.2))) (fun z12=>(some z12))))))))) (bnd (F_s_l9Old (x.1,((x.2.1.1,x.2.1.2),((x.2.2.1.1,x.2.2.1.2),
 (x.2.2.2.1,x.2.2.2.2))))) (fun z11=>(cnd z11 (cnd (bNot z5.2) (cnd (bNot x.2.2.2.2) (some false) (bnd (F_s_l9New (x.1,((x.2.1.1,x.2.1.2),((x.2.2.1.1,x.2.2.1.2),
 (x.2.2.2.1,x.2.2.2.2))))) (fun z12=>(cnd z12 (some false) (cnd (iNe x.2.2.2.1 3) (some true) (bnd (F_s_SameText ((x.2.1.1,x.2.1.2),(x.2.2.1.1,x.2.2.1.2))) (fun
 z13=>(some z13)))))))) (cnd (iNe x.2.2.2.1 3) (some true) (bnd (F_s_SameText ((x.2.1.1,x.2.1.2),(x.2.2.1.1,x.2.2.1.2))) (fun z12=>(some z12))))) (cnd
 (iNe x.2.2.2.1 3) (some true) (bnd (F_s_SameText ((x.2.1.1,x.2.1.2),(x.2.2.1.1,x.2.2.1.2))) (fun z12=>(some z12)))))))))))))))) (bnd (F_s_l9New (x.1,((x.2.1.1,
 x.2.1.2),((x.2.2.1.1,x.2.2.1.2),(x.2.2.2.1,x.2.2.2.2))))) (fun z8=>(cnd z8 (cnd (iNe x.2.2.1.1 0) (some false) (cnd (bNot z6.2) (some false) (bnd (F_s_l9Old (x.1,
 ((x.2.1.1,x.2.1.2),((x.2.2.1.1,x.2.2.1.2),(x.2.2.2.1,x.2.2.2.2))))) (fun z9=>(cnd z9 (cnd (bNot z5.2) (cnd (bNot x.2.2.2.2) (some false) (bnd (F_s_l9New (x.1,
 ((x.2.1.1,x.2.1.2),((x.2.2.1.1,x.2.2.1.2),(x.2.2.2.1,x.2.2.2.2))))) (fun z10=>(cnd z10 (some false) (cnd (iNe x.2.2.2.1 3) (some true) (bnd (F_s_SameText
 ((x.2.1.1,x.2.1.2),(x.2.2.1.1,x.2.2.1.2))) (fun z11=>(some z11)))))))) (cnd (iNe x.2.2.2.1 3) (some true) (bnd (F_s_SameText ((x.2.1.1,x.2.1.2),(x.2.2.1.1,
 x.2.2.1.2))) (fun z10=>(some z10))))) (cnd (iNe x.2.2.2.1 3) (some true) (bnd (F_s_SameText ((x.2.1.1,x.2.1.2),(x.2.2.1.1,x.2.2.1.2))) (fun z10=>(some
 z10))))))))) (bnd (F_s_l9Old (x.1,((x.2.1.1,x.2.1.2),((x.2.2.1.1,x.2.2.1.2),(x.2.2.2.1,x.2.2.2.2))))) (fun z9=>(cnd z9 (cnd (bNot z5.2) (cnd (bNot x.2.2.2.2)
 (some false) (bnd (F_s_l9New (x.1,((x.2.1.1,x.2.1.2),((x.2.2.1.1,x.2.2.1.2),(x.2.2.2.1,x.2.2.2.2))))) (fun z10=>(cnd z10 (some false) (cnd (iNe x.2.2.2.1 3)
 (some true) (bnd (F_s_SameText ((x.2.1.1,x.2.1.2),(x.2.2.1.1,x.2.2.1.2))) (fun z11=>(some z11)))))))) (cnd (iNe x.2.2.2.1 3) (some true) (bnd (F_s_SameText
 ((x.2.1.1,x.2.1.2),(x.2.2.1.1,x.2.2.1.2))) (fun z10=>(some z10))))) (cnd (iNe x.2.2.2.1 3) (some true) (bnd (F_s_SameText ((x.2.1.1,x.2.1.2),(x.2.2.1.1,
 x.2.2.1.2))) (fun z10=>(some z10)))))))))))))))))))))))))))))
def F_s_Turn (x:((Int×(List UInt8))×Int)):(Option ((Int×(List UInt8))×Bool)):=(bnd (F_s_CellText (x.1.1,x.1.2)) (fun z1 =>
 (bnd (F_s_CellOf (x.2,z1.1)) (fun z2=>(cnd (bNot z1.2) (bnd (F_s_l8Copy (x.1.1,x.1.2)) (fun z3=>(some ((z3.1,
 z3.2),false)))) (cnd (bNot z2.2) (bnd (F_s_l8Copy (x.1.1,x.1.2)) (fun z3=>(some ((z3.1,z3.2),false)))) (some ((z2.1.1,z2.1.2),true))))))))
def F_s_FillRow (x:((List UInt8)×((Int×(List UInt8))×((Int×(List UInt8))×(Int×Bool))))):(Option ((List UInt8)×((Int×(List UInt8))×((Int×(List
 UInt8))×(Int×Bool))))):=(bnd (F_s_l9Copy (x.1,((x.2.1.1,x.2.1.2),((x.2.2.1.1,x.2.2.1.2),(x.2.2.2.1,x.2.2.2.2))))) (fun z1=>(bnd (F_s_RowOk (x.1,((x.2.1.1,x.2.1.2),((x.2.2.1.1,x.2.2.1.2),(x.2.2.2.1,x.2.2.2.2))))) (fun z2=>(cnd (bNot z2)
 (some (z1.1,((z1.2.1.1,z1.2.1.2),((z1.2.2.1.1,z1.2.2.1.2),(z1.2.2.2.1,z1.2.2.2.2))))) (bnd (F_s_l9New (x.1,((x.2.1.1,x.2.1.2),((x.2.2.1.1,x.2.2.1.2),(x.2.2.2.1,
 x.2.2.2.2))))) (fun z3=>(cnd z3 (some (z1.1,((z1.2.1.1,z1.2.1.2),((z1.2.2.1.1,z1.2.2.1.2),(z1.2.2.2.1,z1.2.2.2.2))))) (bnd (F_s_Turn ((x.2.1.1,x.2.1.2),0))
 (fun z4=>(cnd (bNot z4.2) (some (z1.1,((z1.2.1.1,z1.2.1.2),((z1.2.2.1.1,z1.2.2.1.2),(z1.2.2.2.1,true))))) (some (z1.1,((z1.2.1.1,
 z1.2.1.2),((z4.1.1,z4.1.2),(3,z1.2.2.2.2))))))))))))))))
def F_s_BackRow (x:((List UInt8)×((Int×(List UInt8))×((Int×(List UInt8))×(Int×Bool))))):(Option ((List UInt8)×((Int×(List UInt8))×((Int×(List
 UInt8))×(Int×Bool))))):=(bnd (F_s_l9Copy (x.1,((x.2.1.1,x.2.1.2),((x.2.2.1.1,x.2.2.1.2),(x.2.2.2.1,x.2.2.2.2))))) (fun z1=>(bnd (F_s_RowOk (x.1,((x.2.1.1,x.2.1.2),((x.2.2.1.1,x.2.2.1.2),(x.2.2.2.1,x.2.2.2.2))))) (fun z2=>(cnd (bNot z2)
 (some (z1.1,((z1.2.1.1,z1.2.1.2),((z1.2.2.1.1,z1.2.2.1.2),(z1.2.2.2.1,z1.2.2.2.2))))) (bnd (F_s_l9New (x.1,((x.2.1.1,x.2.1.2),((x.2.2.1.1,x.2.2.1.2),(x.2.2.2.1,
 x.2.2.2.2))))) (fun z3=>(cnd (bNot z3) (some (z1.1,((z1.2.1.1,z1.2.1.2),((z1.2.2.1.1,z1.2.2.1.2),(z1.2.2.2.1,z1.2.2.2.2))))) (bnd (F_s_l9Old (x.1,((x.2.1.1,
 x.2.1.2),((x.2.2.1.1,x.2.2.1.2),(x.2.2.2.1,x.2.2.2.2))))) (fun z4=>(cnd z4 (some (x.1,((z1.2.1.1,z1.2.1.2),((0,[]),(1,false))))) (some (z1.1,((z1.2.1.1,
 z1.2.1.2),((z1.2.2.1.1,z1.2.2.1.2),(z1.2.2.2.1,true))))))))))))))))
def F_s_l9Draw (x:((List UInt8)×(Int×Int))):(Option (((List UInt8)×((Int×(List UInt8))×((Int×(List UInt8))×(Int×Bool))))×(Int×Int))):=(bnd
 (F_s_l3Cs (x.1,(x.2.1,x.2.2))) (fun z1=>(bnd (F_s_l1Name (x.1,(z1.2.1,z1.2.2))) (fun z2=>(bnd (F_s_l1Below ((x.1,
 (z2.2.1,z2.2.2)),6)) (fun z3=>(cnd (iEq z3.1 0) (some ((z2.1,((3,[(u8 128),(u8 65)]),((0,[]),(1,true)))),(z3.2.1,z3.2.2))) (cnd (iEq z3.1 1)
 (bnd (F_s_l5Text ((x.1,(z3.2.1,z3.2.2)),(z1.1,5))) (fun z4=>(bnd (F_s_RowOf (0,(z2.1,(z1.1,z4.1)))) (fun z5=>(some ((z5.1.1,((z5.1.2.1.1,z5.1.2.1.2),((z5.1.2.2.1.1,z5.1.2.2.1.2),(z5.1.2.2.2.1,z5.1.2.2.2.2)))),
 (z4.2.1,z4.2.2))))))) (bnd (F_s_l1Below ((x.1,(z3.2.1,z3.2.2)),8)) (fun z4=>(bnd (F_s_l1Int ((x.1,(z4.2.1,z4.2.2)),[z1.1,z1.1,z1.1,0])) (fun
 z5=>(bnd (F_s_l5Text ((x.1,(z5.2.1,z5.2.2)),(z5.1,5))) (fun z6=>(bnd (F_s_RowOf (z4.1,(z2.1,(z1.1,z6.1))))
 (fun z7=>(joinX (cnd (iNe z7.2 0) (bnd (F_s_RowOf (5,(z2.1,(z1.1,[120])))) (fun
 z8=>(some (.inl (z8.1.1,(z8.1.2.1.1,(z8.1.2.1.2,(z8.1.2.2.1.1,(z8.1.2.2.1.2,
 (z8.1.2.2.2.1,z8.1.2.2.2.2)))))))))) (some (.inl (z7.1.1,(z7.1.2.1.1,(z7.1.2.1.2,(z7.1.2.2.1.1,(z7.1.2.2.1.2,(z7.1.2.2.2.1,z7.1.2.2.2.2))))))))) (fun (z8:((List UInt8) ×
 (Int×((List UInt8)×(Int×((List UInt8)×(Int×Bool)))))))=>(bnd (F_s_l1Below ((x.1,(z6.2.1,z6.2.2)),5)) (fun z9=>(cnd (iEq z9.1 0) (bnd
 (F_s_FillRow (z8.1,((z8.2.1,z8.2.2.1),((z8.2.2.2.1,z8.2.2.2.2.1),(z8.2.2.2.2.2.1,z8.2.2.2.2.2.2))))) (fun z10=>(some ((z10.1,((z10.2.1.1,z10.2.1.2),((z10.2.2.1.1,z10.2.2.1.2),(z10.2.2.2.1,z10.2.2.2.2)))),(z9.2.1,z9.2.2))))) (cnd (iEq z9.1 1) (bnd
 (F_s_BackRow (z8.1,((z8.2.1,z8.2.2.1),((z8.2.2.2.1,z8.2.2.2.2.1),(z8.2.2.2.2.2.1,z8.2.2.2.2.2.2))))) (fun z10=>(some ((z10.1,((z10.2.1.1,z10.2.1.2),((z10.2.2.1.1,z10.2.2.1.2),(z10.2.2.2.1,z10.2.2.2.2)))),(z9.2.1,z9.2.2))))) (some ((z8.1,((z8.2.1,
 z8.2.2.1),((z8.2.2.2.1,z8.2.2.2.2.1),(z8.2.2.2.2.2.1,z8.2.2.2.2.2.2)))),(z9.2.1,z9.2.2)))))))))))))))))))))))))
def F_s_l1Text (x:((List UInt8)×(Int×Int))):(Option ((List UInt8)×(Int×Int))):=(bnd (F_s_l1Str ((x.1,(x.2.1,x.2.2)),[[],[97],[98,49],[115,105,
 120,108,101,116],[115,101,118,101,110,108,101],[65],[97,32,98],[0],[104,101,108,108,111]])) (fun z1=>(some (z1.1,(z1.2.1,
 z1.2.2)))))
def F_s_l8Draw (x:((List UInt8)×(Int×Int))):(Option ((Int×(List UInt8))×(Int×Int))):=(bnd (F_s_l1Below ((x.1,(x.2.1,x.2.2)),6)) (fun z1=>(bnd (F_s_l5Text ((x.1,(z1.2.1,z1.2.2)),(z1.1,6))) (fun z2=>(bnd (F_s_CellOf (z1.1,z2.1)) (fun z3=>(some ((z3.1.1,z3.1.2),(z2.2.1,z2.2.2)))))))))
def F_s_l3Any (x:((List UInt8)×(Int×Int))):(Option (Int×(Int×Int))):=(bnd (F_s_l1Int ((x.1,(x.2.1,x.2.2)),[0,1,2,3,4,5,6,(-1)])) (fun z1=>(some (z1.1,(z1.2.1,z1.2.2)))))
def F_s_l1Bend (x:(((List UInt8)×(Int×Int))×(List UInt8))):(Option ((List UInt8)×(Int×Int))):=(chk (room (0+x.2.length) 1) (joinX (bnd (F_s_l1Below
 ((x.1.1,(x.1.2.1,x.1.2.2)),5)) (fun z1=>(cnd (iEq z1.1 0) (bnd (F_s_l1Below ((x.1.1,(z1.2.1,z1.2.2)),(iAdd .i64 (lLen (lApp [] x.2)) 1))) (fun z2=>(chk (within 0 z2.1 (lLen (lApp [] x.2))) (outX (chk (fits 0 ((nOf z2.1) - 0) (lApp [] x.2).length) (some ((lTake ((nOf z2.1) - 0) (lApp [] x.2)),
 (z2.2.1,z2.2.2)))))))) (cnd (iEq z1.1 1) (cnd (iGt (lLen (lApp [] x.2)) 0) (bnd (F_s_l1Below ((x.1.1,(z1.2.1,z1.2.2)),(lLen (lApp [] x.2)))) (fun z2
 => (bnd (idx (lApp [] x.2) z2.1) (fun z3=>(bnd (F_s_l1Below ((x.1.1,(z2.2.1,z2.2.2)),255)) (fun z4=>(bnd (idx (lApp [] x.2) z2.1) (fun
 z5=>(some (.inl (z4.2.1,(z4.2.2,(lSet (lApp [] x.2) (nOf z2.1) (u8 (iXor .u8 (y2i z3) (y2i (u8 (iConv .u8 (iAdd .i64 1 z4.1))))))))))))))))))) (some (.inl (z1.2.1,
 (z1.2.2,(lApp [] x.2)))))) (some (.inl (z1.2.1,(z1.2.2,(lApp [] x.2))))))))) (fun (z1:(Int×(Int×(List UInt8))))=>(some (z1.2.2,(z1.1,z1.2.1))))))
def F_s_l5Bytes (x:(((List UInt8)×(Int×Int))×Int)):(Option ((List UInt8)×(Int×Int))):=(bnd (F_s_l5Text ((x.1.1,(x.1.2.1,x.1.2.2)),(x.2,5))) (fun
 z1=>(bnd (F_s_Encode (x.2,z1.1)) (fun z2=>(bnd (F_s_l1Below ((x.1.1,(z1.2.1,z1.2.2)),5)) (fun z3=>(cnd (iEq z3.1 0) (bnd (F_s_l1Bend ((x.1.1,(z3.2.1,z3.2.2)),z2.1)) (fun z4=>(some (z4.1,(z4.2.1,z4.2.2))))) (cnd (iEq z3.1 1)
 (bnd (F_s_l1Int ((x.1.1,(z3.2.1,z3.2.2)),[128,129,164,255,194,157])) (fun z4=>(chk (room (z2.1.length+1) 1) (some ((lApp z2.1 [(u8 (iConv .u8
 z4.1))]),(z4.2.1,z4.2.2)))))) (some (z2.1,(z3.2.1,z3.2.2)))))))))))
def F_s_l8Any (x:((List UInt8)×(Int×Int))):(Option ((Int×(List UInt8))×(Int×Int))):=(bnd (F_s_l8Draw (x.1,(x.2.1,x.2.2))) (fun z1=>(joinX (bnd (F_s_l1Below ((x.1,(z1.2.1,z1.2.2)),6)) (fun z2=>(cnd (iEq z2.1 0) (bnd (F_s_l3Any (x.1,(z2.2.1,z2.2.2)))
 (fun z3=>(some (.inl (z3.2.1,(z3.2.2,(z3.1,z1.1.2))))))) (cnd (iEq z2.1 1) (bnd (F_s_l5Bytes ((x.1,(z2.2.1,z2.2.2)),z1.1.1)) (fun z3=>(some (.inl (z3.2.1,(z3.2.2,(z1.1.1,z3.1))))))) (cnd (iEq z2.1 2) (bnd (F_s_l1Below ((x.1,(z2.2.1,z2.2.2)),3)) (fun z3 =>
 (chk (iEq (iAdd .i64 19 z3.1) (iAdd .i64 19 z3.1)) (chk (mkOk (iAdd .i64 19 z3.1) 1) (some (.inl (z3.2.1,(z3.2.2,(z1.1.1,(lRep (nOf (iAdd .i64 19 z3.1)) 0)))))))))) (some
 (.inl (z2.2.1,(z2.2.2,(z1.1.1,z1.1.2)))))))))) (fun (z2:(Int×(Int×(Int×(List UInt8)))))=>(some ((z2.2.2.1,z2.2.2.2),(z2.1,z2.2.1)))))))
def F_s_l9Any (x:((List UInt8)×(Int×Int))):(Option (((List UInt8)×((Int×(List UInt8))×((Int×(List UInt8))×(Int×Bool))))×(Int×Int))):=(bnd
 (F_s_l9Draw (x.1,(x.2.1,x.2.2))) (fun z1=>(joinX (bnd (F_s_l1Below ((x.1,
 (z1.2.1,z1.2.2)),14)) (fun z2=>(cnd (iEq z2.1 0) (bnd (F_s_l1Text (x.1,(z2.2.1,z2.2.2))) (fun z3=>(some (.inl
 (z3.2.1,(z3.2.2,(z3.1,(z1.1.2.1.1,(z1.1.2.1.2,(z1.1.2.2.1.1,(z1.1.2.2.1.2,(z1.1.2.2.2.1,z1.1.2.2.2.2)))))))))))) (cnd (iEq z2.1 1) (bnd (F_s_l1Int ((x.1,(z2.2.1,
 z2.2.2)),[0,1,2,3,4,(-1)])) (fun z3=>(some (.inl (z3.2.1,(z3.2.2,(z1.1.1,(z1.1.2.1.1,(z1.1.2.1.2,(z1.1.2.2.1.1,(z1.1.2.2.1.2,(z3.1,
 z1.1.2.2.2.2)))))))))))) (cnd (iEq z2.1 2) (some (.inl (z2.2.1,(z2.2.2,(z1.1.1,(z1.1.2.1.1,(z1.1.2.1.2,(z1.1.2.2.1.1,(z1.1.2.2.1.2,(z1.1.2.2.2.1,(bNot
 z1.1.2.2.2.2))))))))))) (cnd (iEq z2.1 3) (bnd (F_s_l8Any (x.1,(z2.2.1,z2.2.2))) (fun z3=>(some (.inl (z3.2.1,(z3.2.2,(z1.1.1,
 (z3.1.1,(z3.1.2,(z1.1.2.2.1.1,(z1.1.2.2.1.2,(z1.1.2.2.2.1,z1.1.2.2.2.2)))))))))))) (cnd (iEq z2.1 4) (bnd (F_s_l8Any (x.1,(z2.2.1,z2.2.2))) (fun z3=>(some (.inl (z3.2.1,(z3.2.2,(z1.1.1,(z1.1.2.1.1,(z1.1.2.1.2,(z3.1.1,(z3.1.2,(z1.1.2.2.2.1,z1.1.2.2.2.2)))))))))))) (cnd (iEq z2.1 5) (some
 (.inl (z2.2.1,(z2.2.2,(z1.1.1,(z1.1.2.1.1,([(u8 129)],(z1.1.2.2.1.1,(z1.1.2.2.1.2,(z1.1.2.2.2.1,z1.1.2.2.2.2)))))))))) (some (.inl (z2.2.1,(z2.2.2,(z1.1.1,(z1.1.2.1.1,
 (z1.1.2.1.2,(z1.1.2.2.1.1,(z1.1.2.2.1.2,(z1.1.2.2.2.1,z1.1.2.2.2.2)))))))))))))))))) (fun (z2:(Int×(Int×((List UInt8)×(Int×((List UInt8)×(Int×((List UInt8) ×
 (Int×Bool)))))))))=>(some ((z2.2.2.1,((z2.2.2.2.1,z2.2.2.2.2.1),((z2.2.2.2.2.2.1,z2.2.2.2.2.2.2.1),(z2.2.2.2.2.2.2.2.1,z2.2.2.2.2.2.2.2.2)))),(z2.1,z2.2.1)))))))
def S_i_joined_0 (x:(List (List UInt8))):((List UInt8)×Int)->Option (((List UInt8)×Int) ⊕ ((List UInt8) ⊕ (List UInt8))):=fun (z1:((List UInt8)×Int))
 => (cnd (iLt z1.2 (lLen x)) (bnd (idx x z1.2) (fun z2=>(chk (room (z1.1.length+z2.length) 1) (some (.inl ((lApp z1.1 z2),(iAdd .i64 z1.2 1))))))) (some
 (.inr (.inl z1.1))))
def F_i_joined (x:(List (List UInt8))):(Option (List UInt8)):=(joinX (loopX (S_i_joined_0 x) ([],0)) (fun (z1:(List UInt8))=>(some z1)))
def F_i_within (x:(Int×(Int×Int))):(Option Bool):=(cnd (iGe x.1 x.2.1) (some (iLe x.1 x.2.2)) (some false))
def S_i_NameOk_0 (x:(List UInt8)):(Int)->Option ((Int) ⊕ (Unit ⊕ Bool)):=fun (z1:Int)=>(cnd (iLt z1 (lLen x)) (bnd (idx x z1) (fun z2=>(bnd
 (F_i_within ((iConv .i64 (y2i z2)),(97,122))) (fun z3=>(cnd (bNot z3) (bnd (idx x z1) (fun z4=>(bnd (F_i_within ((iConv .i64 (y2i z4)),(48,57))) (fun
 z5=>(cnd (bNot z5) (some (.inr (.inr false))) (some (.inl (iAdd .i64 z1 1)))))))) (some (.inl (iAdd .i64 z1 1)))))))) (some (.inr (.inl ()))))
def F_i_NameOk (x:(List UInt8)):(Option Bool):=(joinX (loopX (S_i_NameOk_0 x) 0) (fun (z1:Unit)=>(bnd (F_i_within ((lLen x),(1,6))) (fun z2 =>
 (some z2)))))
def F_i_isSet (x:Int):(Option Bool):=(bnd (F_i_within (x,(0,5))) (fun z1=>(some z1)))
def F_i_CellOk (x:(Int×(List UInt8))):(Option Bool):=(bnd (F_i_isSet x.1) (fun z1=>(cnd z1 (some (iLe (lLen x.2) 20)) (some false))))
def F_utf8_decodeRuneSlow (x:(List UInt8)):(Option (Int×Int)):=(cnd (iLt (lLen x) 1) (some (65533,0)) (bnd (idx x 0) (fun z1=>(chk (iLe 0 (y2i
 z1)) (chk (iLt (y2i z1) 256) (bnd (idx gFirst (Int.ofNat (0+((nOf (y2i z1))*1)))) (fun z2=>(cnd (iGe (y2i z2) (y2i (u8 240))) (bnd (idx x 0) (fun z3 =>
 (some ((iOr .i32 (iAndNot .i32 (iConv .i32 (y2i z3)) (iShr .i32 (iShl .i32 (iConv .i32 (y2i z2)) 31) 31)) (iAnd .i32 65533 (iShr .i32 (iShl .i32 (iConv .i32 (y2i z2)) 31) 31))),
 1)))) (chk (iLe 0 (y2i (u8 (iShr .u8 (y2i z2) 4)))) (chk (iLt (y2i (u8 (iShr .u8 (y2i z2) 4))) 16) (bnd (idx gAcc (Int.ofNat (0+((nOf (y2i (u8 (iShr .u8 (y2i z2) 4))))*2))))
 (fun z3=>(bnd (idx gAcc (Int.ofNat ((0+((nOf (y2i (u8 (iShr .u8 (y2i z2) 4))))*2))+1))) (fun z4=>(cnd (iLt (lLen x) (iConv .i64 (y2i (u8 (iAnd .u8
 (y2i z2) (y2i (u8 7))))))) (some (65533,1)) (bnd (idx x 1) (fun z5=>(cnd (iLt (y2i z5) (y2i z3)) (some (65533,1)) (cnd (iLt (y2i z4) (y2i z5)) (some (65533,1))
 (cnd (iLe (iConv .i64 (y2i (u8 (iAnd .u8 (y2i z2) (y2i (u8 7)))))) 2) (some ((iOr .i32 (iShl .i32 (iConv .i32 (y2i (u8 (iAnd .u8 (y2i z1) (y2i (u8 31)))))) 6) (iConv .i32 (y2i
 (u8 (iAnd .u8 (y2i z5) (y2i (u8 63))))))),2)) (bnd (idx x 2) (fun z6=>(cnd (iLt (y2i z6) (y2i (u8 128))) (some (65533,1)) (cnd (iLt (y2i (u8 191)) (y2i z6)) (some
 (65533,1)) (cnd (iLe (iConv .i64 (y2i (u8 (iAnd .u8 (y2i z2) (y2i (u8 7)))))) 3) (some ((iOr .i32 (iOr .i32 (iShl .i32 (iConv .i32 (y2i (u8 (iAnd .u8 (y2i z1) (y2i (u8 15))))))
 12) (iShl .i32 (iConv .i32 (y2i (u8 (iAnd .u8 (y2i z5) (y2i (u8 63)))))) 6)) (iConv .i32 (y2i (u8 (iAnd .u8 (y2i z6) (y2i (u8 63))))))),3)) (bnd (idx x 3) (fun z7 =>
 (cnd (iLt (y2i z7) (y2i (u8 128))) (some (65533,1)) (cnd (iLt (y2i (u8 191)) (y2i z7)) (some (65533,1)) (some ((iOr .i32 (iOr .i32 (iOr .i32 (iShl .i32 (iConv .i32 (y2i (u8
 (iAnd .u8 (y2i z1) (y2i (u8 7)))))) 18) (iShl .i32 (iConv .i32 (y2i (u8 (iAnd .u8 (y2i z5) (y2i (u8 63)))))) 12)) (iShl .i32 (iConv .i32 (y2i (u8 (iAnd .u8 (y2i z6) (y2i (u8
 63)))))) 6)) (iConv .i32 (y2i (u8 (iAnd .u8 (y2i z7) (y2i (u8 63))))))),4)))))))))))))))))))))))))))))))
def S_utf8_DecodeRune_0 (x:(List UInt8)):(Int)->Option ((Int) ⊕ (Unit ⊕ (Int×Int))):=fun (z1:Int)=>(cnd (iLt z1 (lLen x)) (bnd (idx x z1) (fun z2=>(cnd (iLt (y2i z2) (y2i (u8 128))) (some (.inr (.inr ((iConv .i32 (y2i z2)),1)))) (some (.inr (.inl ())))))) (some (.inr (.inl ()))))
def F_utf8_DecodeRune (x:(List UInt8)):(Option (Int×Int)):=(joinX (loopX (S_utf8_DecodeRune_0 x) 0) (fun (z1:Unit)=>(bnd (F_utf8_decodeRuneSlow x) (fun
 z2=>(some (z2.1,z2.2))))))
def F_i_GetSign (x:((List UInt8)×Int)):(Option (Int×(Int×Bool))):=(cnd (iLt x.2 0) (some (0,(0,false))) (cnd (iGe x.2 (lLen x.1)) (some (0,(0,false)))
 (chk (within x.2 (lLen x.1) (lLen x.1)) (chk (posW (nOf x.2) (lTake ((nOf (lLen x.1)) - (nOf x.2)) (lDrop (nOf x.2) x.1)).length) (bnd (F_utf8_DecodeRune (lTake ((nOf (lLen x.1))
 - (nOf x.2)) (lDrop (nOf x.2) x.1))) (fun z1=>(cnd (iEq z1.1 65533) (cnd (iLt z1.2 2) (some (0,(0,false))) (some ((iConv .i64 z1.1),((iAdd .i64 x.2 z1.2),
 true)))) (some ((iConv .i64 z1.1),((iAdd .i64 x.2 z1.2),true))))))))))
def F_i_PairSign (x:(Int×Int)):(Option (Int×Bool)):=(cnd (iEq x.1 164) (bnd (F_i_within (x.2,(161,243))) (fun z1=>(cnd z1 (some ((iSub .i64
 (iAdd .i64 12353 x.2) 161),true)) (cnd (iEq x.1 165) (bnd (F_i_within (x.2,(161,246))) (fun z2=>(cnd z2 (some ((iSub .i64 (iAdd .i64 12449 x.2) 161),true)) (some
 (0,false))))) (some (0,false)))))) (cnd (iEq x.1 165) (bnd (F_i_within (x.2,(161,246))) (fun z1=>(cnd z1 (some ((iSub .i64 (iAdd .i64 12449 x.2) 161),true)) (some
 (0,false))))) (some (0,false))))
def F_i_EucSign (x:((List UInt8)×Int)):(Option (Int×(Int×Bool))):=(cnd (iLt x.2 0) (some (0,(0,false))) (cnd (iGe x.2 (lLen x.1)) (some (0,(0,false)))
 (bnd (idx x.1 x.2) (fun z1=>(cnd (iLe (y2i z1) (y2i (u8 127))) (bnd (idx x.1 x.2) (fun z2=>(some ((iConv .i64 (y2i z2)),((iAdd .i64 x.2 1),true)))))
 (cnd (iEq (iAdd .i64 x.2 1) (lLen x.1)) (some (0,(0,false))) (bnd (idx x.1 x.2) (fun z2=>(bnd (idx x.1 (iAdd .i64 x.2 1)) (fun z3=>(bnd (F_i_PairSign
 ((iConv .i64 (y2i z2)),(iConv .i64 (y2i z3)))) (fun z4=>(cnd (bNot z4.2) (some (0,(0,false))) (some (z4.1,((iAdd .i64 x.2 2),true))))))))))))))))
def F_i_nineSign (x:Int):(Option Int):=(cnd (iEq x 164) (some 8364) (cnd (iEq x 166) (some 352) (cnd (iEq x 168) (some 353) (cnd (iEq x 180) (some 381) (cnd
 (iEq x 184) (some 382) (cnd (iEq x 188) (some 338) (cnd (iEq x 189) (some 339) (cnd (iEq x 190) (some 376) (some x)))))))))
def F_i_koiSign (x:Int):(Option Int):=(cnd (iGe x 224) (chk (iLe 0 (iSub .i64 x 224)) (chk (iLt (iSub .i64 x 224) 32) (bnd (idx [1102,1072,1073,1094,1076,
 1077,1092,1075,1093,1080,1081,1082,1083,1084,1085,1086,1087,1103,1088,1089,1090,1091,1078,1074,1100,1099,1079,1096,1101,1097,1095,1098] (Int.ofNat (0 +
 ((nOf (iSub .i64 x 224))*1)))) (fun z1=>(some (iSub .i64 z1 32)))))) (cnd (iGe x 192) (chk (iLe 0 (iSub .i64 x 192)) (chk (iLt (iSub .i64 x 192) 32) (bnd (idx [1102,
 1072,1073,1094,1076,1077,1092,1075,1093,1080,1081,1082,1083,1084,1085,1086,1087,1103,1088,1089,1090,1091,1078,1074,1100,1099,1079,1096,1101,1097,
 1095,1098] (Int.ofNat (0+((nOf (iSub .i64 x 192))*1)))) (fun z1=>(some z1))))) (cnd (iEq x 163) (some 1105) (cnd (iEq x 179) (some 1025) (some 0)))))
def F_i_winSign (x:Int):(Option Int):=(cnd (iGe x 160) (some x) (chk (iLe 0 (iSub .i64 x 128)) (chk (iLt (iSub .i64 x 128) 32) (bnd (idx [8364,0,8218,402,
 8222,8230,8224,8225,710,8240,352,8249,338,0,381,0,0,8216,8217,8220,8221,8226,8211,8212,732,8482,353,8250,339,0,382,376] (Int.ofNat (0+((nOf (iSub
 .i64 x 128))*1)))) (fun z1=>(some z1))))))
def F_i_ByteSign (x:(Int×Int)):(Option (Int×Bool)):=(bnd (F_i_within (x.1,(1,4))) (fun z1=>(cnd (bNot z1) (some (0,false)) (bnd (F_i_within
 (x.2,(0,255))) (fun z2=>(cnd (bNot z2) (some (0,false)) (cnd (iLe x.2 127) (some (x.2,true)) (joinX (cnd (iEq x.1 2) (bnd (F_i_nineSign x.2) (fun z3 =>
 (some (.inl z3)))) (cnd (iEq x.1 3) (bnd (F_i_koiSign x.2) (fun z3=>(some (.inl z3)))) (cnd (iEq x.1 4) (bnd (F_i_winSign x.2) (fun z3=>(some (.inl z3))))
 (some (.inl x.2))))) (fun (z3:Int)=>(some (z3,(iNe z3 0))))))))))))
def F_i_signIn (x:(Int×((List UInt8)×Int))):(Option (Int×(Int×Bool))):=(cnd (iEq x.1 0) (bnd (F_i_GetSign (x.2.1,x.2.2)) (fun z1=>(some (z1.1,(z1.2.1,z1.2.2))))) (cnd (iEq x.1 5) (bnd (F_i_EucSign (x.2.1,x.2.2)) (fun z1=>(some (z1.1,(z1.2.1,z1.2.2))))) (bnd (idx
 x.2.1 x.2.2) (fun z1=>(bnd (F_i_ByteSign (x.1,(iConv .i64 (y2i z1)))) (fun z2=>(some (z2.1,((iAdd .i64 x.2.2 1),z2.2)))))))))
def F_i_SignOk (x:Int):(Option Bool):=(bnd (F_i_within (x,(0,1114111))) (fun z1=>(cnd z1 (bnd (F_i_within (x,(55296,57343))) (fun z2 =>
 (some (bNot z2)))) (some false))))
def F_utf8_appendRuneNonASCII (x:((List UInt8)×Int)):(Option (List UInt8)):=(cnd (iLe (iConv .u32 x.2) 2047) (chk (room (x.1.length+2) 1) (some (lApp x.1
 [(u8 (iOr .u8 (y2i (u8 192)) (y2i (u8 (iConv .u8 (iShr .i32 x.2 6)))))),(u8 (iOr .u8 (y2i (u8 128)) (y2i (u8 (iAnd .u8 (y2i (u8 (iConv .u8 x.2))) (y2i (u8 63)))))))]))) (joinX
 (cnd (iLt (iConv .u32 x.2) 55296) (some (.inl true)) (cnd (iLt 57343 (iConv .u32 x.2)) (some (.inl (iLe (iConv .u32 x.2) 65535))) (some (.inl false)))) (fun (z1:Bool)=>(cnd
 z1 (chk (room (x.1.length+3) 1) (some (lApp x.1 [(u8 (iOr .u8 (y2i (u8 224)) (y2i (u8 (iConv .u8 (iShr .i32 x.2 12)))))),(u8 (iOr .u8 (y2i (u8 128)) (y2i (u8 (iAnd .u8 (y2i
 (u8 (iConv .u8 (iShr .i32 x.2 6)))) (y2i (u8 63))))))),(u8 (iOr .u8 (y2i (u8 128)) (y2i (u8 (iAnd .u8 (y2i (u8 (iConv .u8 x.2))) (y2i (u8 63)))))))]))) (cnd (iGt (iConv .u32
 x.2) 65535) (cnd (iLe (iConv .u32 x.2) 1114111) (chk (room (x.1.length+4) 1) (some (lApp x.1 [(u8 (iOr .u8 (y2i (u8 240)) (y2i (u8 (iConv .u8 (iShr .i32 x.2 18)))))),(u8 (iOr
 .u8 (y2i (u8 128)) (y2i (u8 (iAnd .u8 (y2i (u8 (iConv .u8 (iShr .i32 x.2 12)))) (y2i (u8 63))))))),(u8 (iOr .u8 (y2i (u8 128)) (y2i (u8 (iAnd .u8 (y2i (u8 (iConv .u8 (iShr .i32
 x.2 6)))) (y2i (u8 63))))))),(u8 (iOr .u8 (y2i (u8 128)) (y2i (u8 (iAnd .u8 (y2i (u8 (iConv .u8 x.2))) (y2i (u8 63)))))))]))) (chk (room (x.1.length+3) 1) (some (lApp x.1 [(u8
 239),(u8 191),(u8 189)])))) (chk (room (x.1.length+3) 1) (some (lApp x.1 [(u8 239),(u8 191),(u8 189)]))))))))
def F_utf8_AppendRune (x:((List UInt8)×Int)):(Option (List UInt8)):=(cnd (iLe (iConv .u32 x.2) 127) (chk (room (x.1.length+1) 1) (some (lApp x.1 [(u8 (iConv
 .u8 x.2))]))) (bnd (F_utf8_appendRuneNonASCII (x.1,x.2)) (fun z1=>(some z1))))
def F_i_PutSign (x:((List UInt8)×Int)):(Option (List UInt8)):=(bnd (F_i_joined [x.1]) (fun z1=>(bnd (F_i_SignOk x.2) (fun z2 =>
 (cnd (bNot z2) (some z1) (bnd (F_utf8_AppendRune (z1,(iConv .i32 x.2))) (fun z3=>(some z3))))))))
def S_i_Decode_0 (x:(Int×(List UInt8))):((List UInt8)×Int)->Option (((List UInt8)×Int) ⊕ ((List UInt8) ⊕ ((List UInt8)×Bool))):=fun (z2:((List UInt8)
 × Int))=>(cnd (iLt z2.2 (lLen x.2)) (bnd (F_i_signIn (x.1,(x.2,z2.2))) (fun z3=>(cnd (bNot z3.2.2) (some (.inr (.inr ([],false)))) (bnd
 (F_i_PutSign (z2.1,z3.1)) (fun z4=>(some (.inl (z4,z3.2.1)))))))) (some (.inr (.inl z2.1))))
def F_i_Decode (x:(Int×(List UInt8))):(Option ((List UInt8)×Bool)):=(bnd (F_i_isSet x.1) (fun z1=>(cnd (bNot z1) (some ([],false)) (joinX (loopX
 (S_i_Decode_0 x) ([],0)) (fun (z2:(List UInt8))=>(some (z2,true)))))))
def F_i_CellText (x:(Int×(List UInt8))):(Option ((List UInt8)×Bool)):=(bnd (F_i_CellOk (x.1,x.2)) (fun z1=>(cnd (bNot z1) (some ([],false))
 (bnd (F_i_Decode (x.1,x.2)) (fun z2=>(some (z2.1,z2.2)))))))
def F_i_sameCell (x:((Int×(List UInt8))×(Int×(List UInt8)))):(Option Bool):=(cnd (iEq x.1.1 x.2.1) (some (sEq x.1.2 x.2.2)) (some false))
def F_i_SameText (x:((Int×(List UInt8))×(Int×(List UInt8)))):(Option Bool):=(bnd (F_i_CellText (x.1.1,x.1.2)) (fun z1=>(bnd
 (F_i_CellText (x.2.1,x.2.2)) (fun z2=>(cnd z1.2 (cnd z2.2 (some (sEq z1.1 z2.1)) (some false)) (some false))))))
def F_i_RowOk (x:((List UInt8)×((Int×(List UInt8))×((Int×(List UInt8))×(Int×Bool))))):(Option Bool):=(bnd (F_i_NameOk x.1) (fun z1=>(cnd
 (bNot z1) (some false) (bnd (F_i_within (x.2.2.2.1,(1,3))) (fun z2=>(cnd (bNot z2) (some false) (bnd (F_i_CellText (x.2.1.1,x.2.1.2)) (fun z3=>(bnd (F_i_CellText (x.2.2.1.1,x.2.2.1.2)) (fun z4=>(bnd (F_i_sameCell ((x.2.1.1,x.2.1.2),(0,[]))) (fun z5=>(joinX (cnd (iNe
 x.2.2.2.1 2) (bnd (F_i_CellOk (x.2.1.1,x.2.1.2)) (fun z6=>(cnd z6 (cnd (iNe x.2.1.1 0) (cnd z3.2 (some (.inl true)) (cnd x.2.2.2.2 (some (.inl (iEq x.2.2.2.1 1)))
 (some (.inl false)))) (some (.inl false))) (some (.inl false))))) (some (.inl z5))) (fun (z6:Bool)=>(bnd (F_i_sameCell ((x.2.2.1.1,x.2.2.1.2),(0,[]))) (fun z7 =>
 (joinX (cnd (iNe x.2.2.2.1 1) (cnd (iEq x.2.2.1.1 0) (some (.inl z4.2)) (some (.inl false))) (some (.inl z7))) (fun (z8:Bool)=>(cnd z6 (cnd z8 (cnd (iNe x.2.2.2.1 3) (some
 true) (bnd (F_i_SameText ((x.2.1.1,x.2.1.2),(x.2.2.1.1,x.2.2.1.2))) (fun z9=>(some z9)))) (some false)) (some false))))))))))))))))))))
def F_i_PutW (x:((List UInt8)×Int)):(Option (List UInt8)):=(bnd (F_i_joined [x.1,[(u8 (iConv .u8 (iAnd .i64 (iShr .i64 x.2 8) 255))),(u8 (iConv .u8 (iAnd
 .i64 x.2 255)))]]) (fun z1=>(some z1)))
def F_i_PutText (x:((List UInt8)×(List UInt8))):(Option (List UInt8)):=(cnd (iGt (lLen x.2) 60) (bnd (F_i_joined [x.1]) (fun z1=>(some
 z1))) (bnd (F_i_PutW (x.1,(lLen x.2))) (fun z1=>(bnd (F_i_joined [z1,x.2]) (fun z2=>(some z2))))))
def F_i_flag (x:Bool):(Option UInt8):=(cnd x (some (u8 1)) (some (u8 0)))
def F_i_PutRow (x:((List UInt8)×((List UInt8)×((Int×(List UInt8))×((Int×(List UInt8))×(Int×Bool)))))):(Option (List UInt8)):=(bnd (F_i_joined
 [x.1]) (fun z1=>(bnd (F_i_RowOk (x.2.1,((x.2.2.1.1,x.2.2.1.2),((x.2.2.2.1.1,x.2.2.2.1.2),(x.2.2.2.2.1,x.2.2.2.2.2))))) (fun z2=>(cnd (bNot z2)
 (some z1) (bnd (F_i_PutText (z1,x.2.1)) (fun z3=>(bnd (F_i_flag x.2.2.2.2.2) (fun z4=>(chk (room (z3.length+2) 1) (joinX (cnd (iNe x.2.2.2.2.1
 2) (chk (room ((lApp z3 [(u8 (iConv .u8 x.2.2.2.2.1)),z4]).length+1) 1) (bnd (F_i_PutText ((lApp (lApp z3 [(u8 (iConv .u8 x.2.2.2.2.1)),z4]) [(u8 (iConv .u8 x.2.2.1.1))]),
 x.2.2.1.2)) (fun z5=>(some (.inl z5))))) (some (.inl (lApp z3 [(u8 (iConv .u8 x.2.2.2.2.1)),z4])))) (fun (z5:(List UInt8))=>(joinX (cnd (iNe x.2.2.2.2.1
 1) (chk (room (z5.length+1) 1) (bnd (F_i_PutText ((lApp z5 [(u8 (iConv .u8 x.2.2.2.1.1))]),x.2.2.2.1.2)) (fun z6=>(some (.inl z6))))) (some (.inl z5))) (fun
 (z6:(List UInt8))=>(some z6)))))))))))))))
def F_s_PutW (x:((List UInt8)×Int)):(Option (List UInt8)):=(chk (room (0+x.1.length) 1) (chk (room ((lApp [] x.1).length+2) 1) (some (lApp (lApp [] x.1)
 [(u8 (iConv .u8 (iShr .i64 x.2 8))),(u8 (iConv .u8 x.2))]))))
def F_s_PutText (x:((List UInt8)×(List UInt8))):(Option (List UInt8)):=(cnd (iGt (lLen x.2) 60) (chk (room (0+x.1.length) 1) (some (lApp [] x.1))) (bnd
 (F_s_PutW (x.1,(lLen x.2))) (fun z1=>(chk (room (z1.length+x.2.length) 1) (some (lApp z1 x.2))))))
def F_s_l11Bit (x:Bool):(Option UInt8):=(cnd x (some (u8 1)) (some (u8 0)))
def F_s_l11Cell (x:((List UInt8)×(Int×(List UInt8)))):(Option (List UInt8)):=(chk (room (x.1.length+1) 1) (bnd (F_s_PutText ((lApp x.1 [(u8 (iConv .u8
 x.2.1))]),x.2.2)) (fun z1=>(some z1))))
def F_s_PutRow (x:((List UInt8)×((List UInt8)×((Int×(List UInt8))×((Int×(List UInt8))×(Int×Bool)))))):(Option (List UInt8)):=(chk (room (0 +
 x.1.length) 1) (bnd (F_s_RowOk (x.2.1,((x.2.2.1.1,x.2.2.1.2),((x.2.2.2.1.1,x.2.2.2.1.2),(x.2.2.2.2.1,x.2.2.2.2.2))))) (fun z1=>(cnd (bNot z1) (some (lApp []
 x.1)) (bnd (F_s_PutText ((lApp [] x.1),x.2.1)) (fun z2=>(bnd (F_s_l11Bit x.2.2.2.2.2) (fun z3=>(chk (room (z2.length+2) 1) (joinX (bnd
 (F_s_l9Old (x.2.1,((x.2.2.1.1,x.2.2.1.2),((x.2.2.2.1.1,x.2.2.2.1.2),(x.2.2.2.2.1,x.2.2.2.2.2))))) (fun z4=>(cnd z4 (bnd (F_s_l11Cell ((lApp z2 [(u8 (iConv .u8
 x.2.2.2.2.1)),z3]),(x.2.2.1.1,x.2.2.1.2))) (fun z5=>(some (.inl z5)))) (some (.inl (lApp z2 [(u8 (iConv .u8 x.2.2.2.2.1)),z3])))))) (fun (z4:(List
 UInt8))=>(joinX (bnd (F_s_l9New (x.2.1,((x.2.2.1.1,x.2.2.1.2),((x.2.2.2.1.1,x.2.2.2.1.2),(x.2.2.2.2.1,x.2.2.2.2.2))))) (fun z5=>(cnd z5 (bnd (F_s_l11Cell (z4,
 (x.2.2.2.1.1,x.2.2.2.1.2))) (fun z6=>(some (.inl z6)))) (some (.inl z4))))) (fun (z5:(List UInt8))=>(some z5))))))))))))))
def F_i_GetW (x:((List UInt8)×Int)):(Option (Int×(Int×Bool))):=(cnd (iLt x.2 0) (some (0,(0,false))) (cnd (iGt x.2 (iSub .i64 (lLen x.1) 2)) (some (0,
 (0,false))) (bnd (idx x.1 x.2) (fun z1=>(bnd (idx x.1 (iAdd .i64 x.2 1)) (fun z2=>(some ((iOr .i64 (iShl .i64 (iConv .i64 (y2i z1)) 8) (iConv .i64 (y2i
 z2))),((iAdd .i64 x.2 2),true)))))))))
def F_i_GetText (x:((List UInt8)×Int)):(Option ((List UInt8)×(Int×Bool))):=(bnd (F_i_GetW (x.1,x.2)) (fun z1=>(cnd (bNot
 z1.2.2) (some ([],(0,false))) (cnd (iGt z1.1 60) (some ([],(0,false))) (cnd (iGt z1.1 (iSub .i64 (lLen x.1) z1.2.1)) (some ([],(0,false))) (chk (within z1.2.1 (iAdd .i64
 z1.2.1 z1.1) (lLen x.1)) (some ((lTake ((nOf (iAdd .i64 z1.2.1 z1.1)) - (nOf z1.2.1)) (lDrop (nOf z1.2.1) x.1)),((iAdd .i64 z1.2.1 z1.1),true)))))))))
def F_i_scan_text (x:((List UInt8)×(Int×Bool))):(Option ((List UInt8)×(Int×Bool))):=(bnd (F_i_GetText (x.1,x.2.1)) (fun z1=>(cnd x.2.2 (some ([],(x.2.1,true))) (cnd (bNot z1.2.2) (some ([],(x.2.1,true))) (some (z1.1,(z1.2.1,x.2.2)))))))
def F_i_scan_one (x:((List UInt8)×(Int×Bool))):(Option (Int×(Int×Bool))):=(cnd x.2.2 (some (0,(x.2.1,true))) (cnd (iLt x.2.1 0) (some (0,(x.2.1,
 true))) (cnd (iGe x.2.1 (lLen x.1)) (some (0,(x.2.1,true))) (bnd (idx x.1 (iSub .i64 (iAdd .i64 x.2.1 1) 1)) (fun z1=>(some ((iConv .i64 (y2i z1)),((iAdd .i64
 x.2.1 1),x.2.2))))))))
def F_i_scan_cell (x:((List UInt8)×(Int×Bool))):(Option ((Int×(List UInt8))×(Int×Bool))):=(bnd (F_i_scan_one (x.1,(x.2.1,x.2.2))) (fun z1=>(bnd (F_i_scan_text (x.1,(z1.2.1,z1.2.2))) (fun z2=>(some ((z1.1,z2.1),(z2.2.1,z2.2.2)))))))
def F_i_scan_row (x:((List UInt8)×(Int×Bool))):(Option (((List UInt8)×((Int×(List UInt8))×((Int×(List UInt8))×(Int×Bool))))×(Int×Bool))) :=
 (bnd (F_i_scan_text (x.1,(x.2.1,x.2.2))) (fun z1=>(bnd (F_i_scan_one (x.1,(z1.2.1,z1.2.2))) (fun z2=>(bnd
 (F_i_scan_one (x.1,(z2.2.1,z2.2.2))) (fun z3=>(joinX (cnd (iNe (iAnd .i64 z2.1 1) 0) (bnd (F_i_scan_cell (x.1,(z3.2.1,z3.2.2))) (fun z4=>(some (.inl (z4.2.1,(z4.2.2,(z4.1.1,z4.1.2))))))) (some (.inl (z3.2.1,(z3.2.2,(0,[])))))) (fun (z4:(Int×(Bool×(Int×(List
 UInt8)))))=>(joinX (cnd (iNe (iAnd .i64 z2.1 2) 0) (bnd (F_i_scan_cell (x.1,(z4.1,z4.2.1))) (fun z5=>(some (.inl (z5.2.1,(z5.2.2,
 (z5.1.1,z5.1.2))))))) (some (.inl (z4.1,(z4.2.1,(0,[])))))) (fun (z5:(Int×(Bool×(Int×(List UInt8)))))=>(cnd z5.2.1 (some (([],((0,[]),((0,[]),(0,false)))),
 (z5.1,true))) (cnd (iGt z3.1 1) (some (([],((0,[]),((0,[]),(0,false)))),(z5.1,true))) (bnd (F_i_RowOk (z1.1,((z4.2.2.1,z4.2.2.2),((z5.2.2.1,z5.2.2.2),(z2.1,(iEq
 z3.1 1)))))) (fun z6=>(cnd (bNot z6) (some (([],((0,[]),((0,[]),(0,false)))),(z5.1,true))) (some ((z1.1,((z4.2.2.1,z4.2.2.2),((z5.2.2.1,z5.2.2.2),(z2.1,
 (iEq z3.1 1))))),(z5.1,z5.2.1))))))))))))))))))
def F_s_GetW (x:((List UInt8)×Int)):(Option (Int×(Int×Bool))):=(bnd (F_s_l1In (x.2,(0,(iSub .i64 (lLen x.1) 2)))) (fun z1=>(cnd (bNot z1)
 (some (0,(0,false))) (bnd (idx x.1 x.2) (fun z2=>(bnd (idx x.1 (iAdd .i64 x.2 1)) (fun z3=>(some ((iOr .i64 (iShl .i64 (iConv .i64 (y2i z2)) 8) (iConv
 .i64 (y2i z3))),((iAdd .i64 x.2 2),true))))))))))
def F_s_GetText (x:((List UInt8)×Int)):(Option ((List UInt8)×(Int×Bool))):=(bnd (F_s_GetW (x.1,x.2)) (fun z1=>(cnd (bNot
 z1.2.2) (some ([],(0,false))) (cnd (iGt z1.1 60) (some ([],(0,false))) (cnd (iGt z1.1 (iSub .i64 (lLen x.1) z1.2.1)) (some ([],(0,false))) (chk (within z1.2.1 (iAdd .i64
 z1.2.1 z1.1) (lLen x.1)) (some ((lTake ((nOf (iAdd .i64 z1.2.1 z1.1)) - (nOf z1.2.1)) (lDrop (nOf z1.2.1) x.1)),((iAdd .i64 z1.2.1 z1.1),true)))))))))
def F_s_l11Text (x:((List UInt8)×(Int×Bool))):(Option ((List UInt8)×(Int×Bool))):=(bnd (F_s_GetText (x.1,x.2.1)) (fun z1=>(cnd x.2.2 (some ([],(x.2.1,true))) (cnd (bNot z1.2.2) (some ([],(x.2.1,true))) (some (z1.1,(z1.2.1,x.2.2)))))))
def F_s_l11Byte (x:((List UInt8)×(Int×Bool))):(Option (Int×(Int×Bool))):=(cnd x.2.2 (some (0,(x.2.1,true))) (cnd (iGe x.2.1 (lLen x.1)) (some (0,
 (x.2.1,true))) (bnd (idx x.1 (iSub .i64 (iAdd .i64 x.2.1 1) 1)) (fun z1=>(some ((iConv .i64 (y2i z1)),((iAdd .i64 x.2.1 1),x.2.2)))))))
def F_s_l11GetCell (x:((List UInt8)×(Int×Bool))):(Option ((Int×(List UInt8))×(Int×Bool))):=(bnd (F_s_l11Byte (x.1,(x.2.1,x.2.2))) (fun z1=>(bnd (F_s_l11Text (x.1,(z1.2.1,z1.2.2))) (fun z2=>(some ((z1.1,z2.1),(z2.2.1,z2.2.2)))))))
def F_s_l11GetRow (x:((List UInt8)×(Int×Bool))):(Option (((List UInt8)×((Int×(List UInt8))×((Int×(List UInt8))×(Int×Bool))))×(Int×Bool))) :=
 (bnd (F_s_l11Text (x.1,(x.2.1,x.2.2))) (fun z1=>(bnd (F_s_l11Byte (x.1,(z1.2.1,z1.2.2))) (fun z2=>(bnd
 (F_s_l11Byte (x.1,(z2.2.1,z2.2.2))) (fun z3=>(cnd z3.2.2 (some ((z1.1,((0,[]),((0,[]),(z2.1,(iEq z3.1 1))))),(z3.2.1,true))) (joinX (cnd
 (bNot (iGt z3.1 1)) (bnd (F_s_l9Old (z1.1,((0,[]),((0,[]),(z2.1,(iEq z3.1 1)))))) (fun z4=>(cnd z4 (bnd (F_s_l11GetCell (x.1,(z3.2.1,(iGt z3.1 1)))) (fun z5=>(some (.inl (z5.2.1,(z5.2.2,(z5.1.1,z5.1.2))))))) (some (.inl (z3.2.1,((iGt z3.1 1),(0,[])))))))) (some (.inl (z3.2.1,((iGt z3.1
 1),(0,[])))))) (fun (z4:(Int×(Bool×(Int×(List UInt8)))))=>(joinX (cnd (bNot z4.2.1) (bnd (F_s_l9New (z1.1,((z4.2.2.1,z4.2.2.2),((0,[]),(z2.1,(iEq z3.1 1))))))
 (fun z5=>(cnd z5 (bnd (F_s_l11GetCell (x.1,(z4.1,z4.2.1))) (fun z6=>(some (.inl (z6.2.1,(z6.2.2,(z6.1.1,z6.1.2)))))))
 (some (.inl (z4.1,(z4.2.1,(0,[])))))))) (some (.inl (z4.1,(z4.2.1,(0,[])))))) (fun (z5:(Int×(Bool×(Int×(List UInt8)))))=>(some ((z1.1,((z4.2.2.1,z4.2.2.2),
 ((z5.2.2.1,z5.2.2.2),(z2.1,(iEq z3.1 1))))),(z5.1,z5.2.1))))))))))))))
def F_l_sameCell (x:((Int×(List UInt8))×(Int×(List UInt8)))):(Option Bool):=(cnd (iEq x.1.1 x.2.1) (some (sEq x.1.2 x.2.2)) (some false))
def F_l_sameRow (x:(((List UInt8)×((Int×(List UInt8))×((Int×(List UInt8))×(Int×Bool))))×((List UInt8)×((Int×(List UInt8))×((Int×(List UInt8))
 × (Int×Bool)))))):(Option Bool):=(cnd (sEq x.1.1 x.2.1) (bnd (F_l_sameCell ((x.1.2.1.1,x.1.2.1.2),(x.2.2.1.1,x.2.2.1.2))) (fun z1=>(cnd z1 (bnd (F_l_sameCell
 ((x.1.2.2.1.1,x.1.2.2.1.2),(x.2.2.2.1.1,x.2.2.2.1.2))) (fun z2=>(cnd z2 (cnd (iEq x.1.2.2.2.1 x.2.2.2.2.1) (some (bEq x.1.2.2.2.2 x.2.2.2.2.2)) (some false)) (some
 false)))) (some false)))) (some false))
def F_utf8_word (x:(List UInt8)):(Option Int):=(bnd (idx x 0) (fun z1=>(bnd (idx x 1) (fun z2=>(bnd (idx x 2) (fun z3=>(bnd
 (idx x 3) (fun z4=>(bnd (idx x 4) (fun z5=>(bnd (idx x 5) (fun z6=>(bnd (idx x 6) (fun z7=>(bnd (idx x 7) (fun z8 =>
 (some (iOr .u64 (iOr .u64 (iOr .u64 (iOr .u64 (iOr .u64 (iOr .u64 (iOr .u64 (iConv .u64 (y2i z1)) (iShl .u64 (iConv .u64 (y2i z2)) 8)) (iShl .u64 (iConv .u64 (y2i z3)) 16)) (iShl
 .u64 (iConv .u64 (y2i z4)) 24)) (iShl .u64 (iConv .u64 (y2i z5)) 32)) (iShl .u64 (iConv .u64 (y2i z6)) 40)) (iShl .u64 (iConv .u64 (y2i z7)) 48)) (iShl .u64 (iConv .u64 (y2i z8))
 56)))))))))))))))))))
def S_utf8_ValidString_0:(List UInt8)->Option ((List UInt8) ⊕ ((List UInt8) ⊕ ((List UInt8) ⊕ Bool))):=fun (z6:(List UInt8))=>(cnd (iGt (lLen z6) 32) (bnd
 (F_utf8_word z6) (fun z7=>(chk (within 8 (lLen z6) (lLen z6)) (bnd (F_utf8_word (lTake ((nOf (lLen z6)) - (nOf 8)) (lDrop (nOf 8) z6))) (fun z8=>(chk (within
 16 (lLen z6) (lLen z6)) (bnd (F_utf8_word (lTake ((nOf (lLen z6)) - (nOf 16)) (lDrop (nOf 16) z6))) (fun z9=>(chk (within 24 (lLen z6) (lLen z6)) (bnd (F_utf8_word
 (lTake ((nOf (lLen z6)) - (nOf 24)) (lDrop (nOf 24) z6))) (fun z10=>(cnd (iEq (iAnd .u64 (iOr .u64 (iOr .u64 z7 z8) (iOr .u64 z9 z10)) 9259542123273814144) 0) (chk
 (within 32 (lLen z6) (lLen z6)) (some (.inl (lTake ((nOf (lLen z6)) - (nOf 32)) (lDrop (nOf 32) z6))))) (some (.inr (.inr (.inl z6)))))))))))))))) (some (.inr (.inr (.inl z6)))))
def S_utf8_ValidString_1:(List UInt8)->Option ((List UInt8) ⊕ Bool):=fun (z1:(List UInt8))=>(cnd (iGt (lLen z1) 0) (bnd (idx z1 0) (fun z2 =>
 (joinX (cnd (iLt (y2i z2) (y2i (u8 128))) (chk (within 1 (lLen z1) (lLen z1)) (cnd (iGt (lLen (lTake ((nOf (lLen z1)) - (nOf 1)) (lDrop (nOf 1) z1))) 8) (bnd (F_utf8_word (lTake
 ((nOf (lLen z1)) - (nOf 1)) (lDrop (nOf 1) z1))) (fun z3=>(cnd (iEq (iAnd .u64 z3 9259542123273814144) 0) (chk (within 8 (lLen (lTake ((nOf (lLen z1)) - (nOf 1)) (lDrop
 (nOf 1) z1))) (lLen (lTake ((nOf (lLen z1)) - (nOf 1)) (lDrop (nOf 1) z1)))) (cnd (iGt (lLen (lTake ((nOf (lLen (lTake ((nOf (lLen z1)) - (nOf 1)) (lDrop (nOf 1) z1)))) - (nOf
 8)) (lDrop (nOf 8) (lTake ((nOf (lLen z1)) - (nOf 1)) (lDrop (nOf 1) z1))))) 16) (bnd (F_utf8_word (lTake ((nOf (lLen (lTake ((nOf (lLen z1)) - (nOf 1)) (lDrop (nOf 1) z1)))) -
 (nOf 8)) (lDrop (nOf 8) (lTake ((nOf (lLen z1)) - (nOf 1)) (lDrop (nOf 1) z1))))) (fun z4=>(chk (within 8 (lLen (lTake ((nOf (lLen (lTake ((nOf (lLen z1)) - (nOf 1))
 (lDrop (nOf 1) z1)))) - (nOf 8)) (lDrop (nOf 8) (lTake ((nOf (lLen z1)) - (nOf 1)) (lDrop (nOf 1) z1))))) (lLen (lTake ((nOf (lLen (lTake ((nOf (lLen z1)) - (nOf 1)) (lDrop (nOf
 1) z1)))) - (nOf 8)) (lDrop (nOf 8) (lTake ((nOf (lLen z1)) - (nOf 1)) (lDrop (nOf 1) z1)))))) (bnd (F_utf8_word (lTake ((nOf (lLen (lTake ((nOf (lLen (lTake ((nOf (lLen z1)) -
 (nOf 1)) (lDrop (nOf 1) z1)))) - (nOf 8)) (lDrop (nOf 8) (lTake ((nOf (lLen z1)) - (nOf 1)) (lDrop (nOf 1) z1)))))) - (nOf 8)) (lDrop (nOf 8) (lTake ((nOf (lLen (lTake ((nOf
 (lLen z1)) - (nOf 1)) (lDrop (nOf 1) z1)))) - (nOf 8)) (lDrop (nOf 8) (lTake ((nOf (lLen z1)) - (nOf 1)) (lDrop (nOf 1) z1))))))) (fun z5=>(cnd (iEq (iAnd .u64 (iOr
 .u64 z4 z5) 9259542123273814144) 0) (chk (within 16 (lLen (lTake ((nOf (lLen (lTake ((nOf (lLen z1)) - (nOf 1)) (lDrop (nOf 1) z1)))) - (nOf 8)) (lDrop (nOf 8) (lTake ((nOf (lLen
 z1)) - (nOf 1)) (lDrop (nOf 1) z1))))) (lLen (lTake ((nOf (lLen (lTake ((nOf (lLen z1)) - (nOf 1)) (lDrop (nOf 1) z1)))) - (nOf 8)) (lDrop (nOf 8) (lTake ((nOf (lLen z1)) - (nOf
 1)) (lDrop (nOf 1) z1)))))) (loopX (S_utf8_ValidString_0) (lTake ((nOf (lLen (lTake ((nOf (lLen (lTake ((nOf (lLen z1)) - (nOf 1)) (lDrop (nOf 1) z1)))) - (nOf 8)) (lDrop (nOf 8)
 (lTake ((nOf (lLen z1)) - (nOf 1)) (lDrop (nOf 1) z1)))))) - (nOf 16)) (lDrop (nOf 16) (lTake ((nOf (lLen (lTake ((nOf (lLen z1)) - (nOf 1)) (lDrop (nOf 1) z1)))) - (nOf 8))
 (lDrop (nOf 8) (lTake ((nOf (lLen z1)) - (nOf 1)) (lDrop (nOf 1) z1)))))))) (some (.inr (.inl (lTake ((nOf (lLen (lTake ((nOf (lLen z1)) - (nOf 1)) (lDrop (nOf 1) z1)))) - (nOf
 8)) (lDrop (nOf 8) (lTake ((nOf (lLen z1)) - (nOf 1)) (lDrop (nOf 1) z1))))))))))))) (some (.inr (.inl (lTake ((nOf (lLen (lTake ((nOf (lLen z1)) - (nOf 1)) (lDrop (nOf 1) z1))))
 - (nOf 8)) (lDrop (nOf 8) (lTake ((nOf (lLen z1)) - (nOf 1)) (lDrop (nOf 1) z1))))))))) (some (.inr (.inl (lTake ((nOf (lLen z1)) - (nOf 1)) (lDrop (nOf 1) z1)))))))) (some (.inr
 (.inl (lTake ((nOf (lLen z1)) - (nOf 1)) (lDrop (nOf 1) z1))))))) (some (.inl z1))) (fun (z3:(List UInt8))=>(chk (iLe 0 (y2i z2)) (chk (iLt (y2i z2) 256) (bnd (idx gFirst
 (Int.ofNat (0+((nOf (y2i z2))*1)))) (fun z4=>(chk (iLe 0 (y2i (u8 (iShr .u8 (y2i z4) 4)))) (chk (iLt (y2i (u8 (iShr .u8 (y2i z4) 4))) 16) (bnd (idx gAcc
 (Int.ofNat (0+((nOf (y2i (u8 (iShr .u8 (y2i z4) 4))))*2)))) (fun z5=>(bnd (idx gAcc (Int.ofNat ((0+((nOf (y2i (u8 (iShr .u8 (y2i z4) 4))))*2))+1))) (fun z6=>(cnd (iEq (iConv .i64 (y2i (u8 (iAnd .u8 (y2i z4) (y2i (u8 7)))))) 2) (cnd (iLt (lLen z3) 2) (some (.inr false)) (bnd (idx z3 1) (fun z7=>(cnd (iLt (y2i
 z7) (y2i z5)) (some (.inr false)) (bnd (idx z3 1) (fun z8=>(cnd (iLt (y2i z6) (y2i z8)) (some (.inr false)) (chk (within 2 (lLen z3) (lLen z3)) (some (.inl (lTake
 ((nOf (lLen z3)) - (nOf 2)) (lDrop (nOf 2) z3)))))))))))) (cnd (iEq (iConv .i64 (y2i (u8 (iAnd .u8 (y2i z4) (y2i (u8 7)))))) 3) (cnd (iLt (lLen z3) 3) (some (.inr false)) (bnd
 (idx z3 1) (fun z7=>(cnd (iLt (y2i z7) (y2i z5)) (some (.inr false)) (bnd (idx z3 1) (fun z8=>(cnd (iLt (y2i z6) (y2i z8)) (some (.inr false)) (bnd (idx
 z3 2) (fun z9=>(cnd (iLt (y2i z9) (y2i (u8 128))) (some (.inr false)) (bnd (idx z3 2) (fun z10=>(cnd (iLt (y2i (u8 191)) (y2i z10)) (some (.inr false))
 (chk (within 3 (lLen z3) (lLen z3)) (some (.inl (lTake ((nOf (lLen z3)) - (nOf 3)) (lDrop (nOf 3) z3)))))))))))))))))) (cnd (iEq (iConv .i64 (y2i (u8 (iAnd .u8 (y2i z4) (y2i (u8
 7)))))) 4) (cnd (iLt (lLen z3) 4) (some (.inr false)) (bnd (idx z3 1) (fun z7=>(cnd (iLt (y2i z7) (y2i z5)) (some (.inr false)) (bnd (idx z3 1) (fun z8 =>
 (cnd (iLt (y2i z6) (y2i z8)) (some (.inr false)) (bnd (idx z3 2) (fun z9=>(cnd (iLt (y2i z9) (y2i (u8 128))) (some (.inr false)) (bnd (idx z3 2) (fun z10 =>
 (cnd (iLt (y2i (u8 191)) (y2i z10)) (some (.inr false)) (bnd (idx z3 3) (fun z11=>(cnd (iLt (y2i z11) (y2i (u8 128))) (some (.inr false)) (bnd (idx z3 3) (fun z12=>(cnd (iLt (y2i (u8 191)) (y2i z12)) (some (.inr false)) (chk (within 4 (lLen z3) (lLen z3)) (some (.inl (lTake ((nOf (lLen z3)) - (nOf 4)) (lDrop (nOf 4)
 z3)))))))))))))))))))))))) (some (.inr false))))))))))))))))))) (some (.inr true)))
def F_s_l1Once (x:(((List UInt8)×(Int×Int))×Int)):(Option (Bool×(Int×Int))):=(bnd (F_s_l1Below ((x.1.1,(x.1.2.1,x.1.2.2)),x.2)) (fun z1=>(some ((iEq z1.1 0),(z1.2.1,z1.2.2)))))
def F_s_l11Draw (x:((List UInt8)×(Int×Int))):(Option ((Int×(((List UInt8)×((Int×(List UInt8))×((Int×(List UInt8))×(Int×Bool))))×((List UInt8)
 × (Int×(Int×(Int×Int))))))×(Int×Int))):=(bnd (F_s_l1Below ((x.1,(x.2.1,x.2.2)),4)) (fun z1=>(joinX (cnd (iEq (iAdd .i64 1 z1.1) 1) (bnd
 (F_s_l9Draw (x.1,(z1.2.1,z1.2.2))) (fun z2=>(some (.inl (z2.2.1,(z2.2.2,
 (z2.1.1,(z2.1.2.1.1,(z2.1.2.1.2,(z2.1.2.2.1.1,(z2.1.2.2.1.2,(z2.1.2.2.2.1,(z2.1.2.2.2.2,([],0)))))))))))))) (cnd (iEq (iAdd .i64 1 z1.1) 2) (bnd (F_s_l1Name (x.1,
 (z1.2.1,z1.2.2))) (fun z2=>(some (.inl (z2.2.1,(z2.2.2,([],(0,([],(0,([],(0,(false,(z2.1,0)))))))))))))) (cnd (iEq (iAdd .i64 1
 z1.1) 3) (bnd (F_s_l1Below ((x.1,(z1.2.1,z1.2.2)),8)) (fun z2=>(some (.inl (z2.2.1,(z2.2.2,([],(0,([],(0,([],(0,(false,([],
 z2.1)))))))))))))) (some (.inl (z1.2.1,(z1.2.2,([],(0,([],(0,([],(0,(false,([],0))))))))))))))) (fun (z2:(Int×(Int×((List UInt8)×(Int×((List UInt8)×(Int ×
 ((List UInt8)×(Int×(Bool×((List UInt8)×Int)))))))))))=>(joinX (cnd (iEq (iAdd .i64 1 z1.1) 4) (bnd (F_s_l1Below ((x.1,(z2.1,z2.2.1)),3)) (fun z3=>(bnd (F_s_l1Int ((x.1,(z3.2.1,z3.2.2)),[0,1,2,65535])) (fun z4=>(bnd (F_s_l1Below ((x.1,(z4.2.1,z4.2.2)),7)) (fun z5=>(some (.inl (z5.2.1,(z5.2.2,((iAdd .i64 1 z3.1),(z4.1,z5.1)))))))))))) (bnd (F_s_l1Once ((x.1,(z2.1,z2.2.1)),2)) (fun z3=>(cnd z3.1
 (bnd (F_s_l1Below ((x.1,(z3.2.1,z3.2.2)),3)) (fun z4=>(bnd (F_s_l1Int ((x.1,(z4.2.1,z4.2.2)),[0,1,2,65535])) (fun z5 =>
 (bnd (F_s_l1Below ((x.1,(z5.2.1,z5.2.2)),7)) (fun z6=>(some (.inl (z6.2.1,(z6.2.2,((iAdd .i64 1 z4.1),(z5.1,z6.1)))))))))))) (some (.inl (z3.2.1,
 (z3.2.2,(0,(0,0)))))))))) (fun (z3:(Int×(Int×(Int×(Int×Int)))))=>(some (((iAdd .i64 1 z1.1),((z2.2.2.1,((z2.2.2.2.1,z2.2.2.2.2.1),((z2.2.2.2.2.2.1,
 z2.2.2.2.2.2.2.1),(z2.2.2.2.2.2.2.2.1,z2.2.2.2.2.2.2.2.2.1)))),(z2.2.2.2.2.2.2.2.2.2.1,(z2.2.2.2.2.2.2.2.2.2.2,(z3.2.2.1,(z3.2.2.2.1,z3.2.2.2.2)))))),(z3.1,
 z3.2.1)))))))))
def F_s_l1Num (x:((List UInt8)×(Int×Int))):(Option (Int×(Int×Int))):=(bnd (F_s_l1Int ((x.1,(x.2.1,x.2.2)),[0,1,7,255,256,4660,65535,65536,
 (-1),9223372036854775807,(-9223372036854775808)])) (fun z1=>(some (z1.1,(z1.2.1,z1.2.2)))))
def F_s_l11Any (x:((List UInt8)×(Int×Int))):(Option ((Int×(((List UInt8)×((Int×(List UInt8))×((Int×(List UInt8))×(Int×Bool))))×((List UInt8) ×
 (Int×(Int×(Int×Int))))))×(Int×Int))):=(bnd (F_s_l11Draw (x.1,(x.2.1,x.2.2))) (fun z1=>(joinX (bnd (F_s_l1Below ((x.1,(z1.2.1,z1.2.2)),14)) (fun z2 =>
 (cnd (iEq z2.1 0) (bnd (F_s_l1Below ((x.1,(z2.2.1,z2.2.2)),6)) (fun z3=>(some (.inl (z3.2.1,(z3.2.2,(z3.1,(z1.1.2.1.1,(z1.1.2.1.2.1.1,
 (z1.1.2.1.2.1.2,(z1.1.2.1.2.2.1.1,(z1.1.2.1.2.2.1.2,(z1.1.2.1.2.2.2.1,(z1.1.2.1.2.2.2.2,(z1.1.2.2.1,(z1.1.2.2.2.1,(z1.1.2.2.2.2.1,(z1.1.2.2.2.2.2.1,
 z1.1.2.2.2.2.2.2)))))))))))))))))) (cnd (iEq z2.1 1) (bnd (F_s_l9Any (x.1,(z2.2.1,z2.2.2))) (fun z3=>(some (.inl (z3.2.1,(z3.2.2,(z1.1.1,(z3.1.1,(z3.1.2.1.1,(z3.1.2.1.2,(z3.1.2.2.1.1,(z3.1.2.2.1.2,(z3.1.2.2.2.1,(z3.1.2.2.2.2,(z1.1.2.2.1,
 (z1.1.2.2.2.1,(z1.1.2.2.2.2.1,(z1.1.2.2.2.2.2.1,z1.1.2.2.2.2.2.2)))))))))))))))))) (cnd (iEq z2.1 2) (bnd (F_s_l1Text (x.1,(z2.2.1,z2.2.2))) (fun z3=>(some (.inl (z3.2.1,(z3.2.2,(z1.1.1,(z1.1.2.1.1,(z1.1.2.1.2.1.1,(z1.1.2.1.2.1.2,(z1.1.2.1.2.2.1.1,(z1.1.2.1.2.2.1.2,(z1.1.2.1.2.2.2.1,(z1.1.2.1.2.2.2.2,
 (z3.1,(z1.1.2.2.2.1,(z1.1.2.2.2.2.1,(z1.1.2.2.2.2.2.1,z1.1.2.2.2.2.2.2)))))))))))))))))) (cnd (iEq z2.1 3) (bnd (F_s_l1Int ((x.1,(z2.2.1,z2.2.2)),[(-1),7,8])) (fun z3=>(some (.inl (z3.2.1,(z3.2.2,(z1.1.1,(z1.1.2.1.1,(z1.1.2.1.2.1.1,(z1.1.2.1.2.1.2,(z1.1.2.1.2.2.1.1,(z1.1.2.1.2.2.1.2,(z1.1.2.1.2.2.2.1,
 (z1.1.2.1.2.2.2.2,(z1.1.2.2.1,(z3.1,(z1.1.2.2.2.2.1,(z1.1.2.2.2.2.2.1,z1.1.2.2.2.2.2.2)))))))))))))))))) (cnd (iEq z2.1 4) (bnd (F_s_l1Int ((x.1,(z2.2.1,z2.2.2)),[(-1),
 0,9,10])) (fun z3=>(some (.inl (z3.2.1,(z3.2.2,(z1.1.1,(z1.1.2.1.1,(z1.1.2.1.2.1.1,(z1.1.2.1.2.1.2,(z1.1.2.1.2.2.1.1,(z1.1.2.1.2.2.1.2,
 (z1.1.2.1.2.2.2.1,(z1.1.2.1.2.2.2.2,(z1.1.2.2.1,(z1.1.2.2.2.1,(z3.1,(z1.1.2.2.2.2.2.1,z1.1.2.2.2.2.2.2)))))))))))))))))) (cnd (iEq z2.1 5) (bnd (F_s_l1Num (x.1,(z2.2.1,
 z2.2.2))) (fun z3=>(some (.inl (z3.2.1,(z3.2.2,(z1.1.1,(z1.1.2.1.1,(z1.1.2.1.2.1.1,(z1.1.2.1.2.1.2,(z1.1.2.1.2.2.1.1,(z1.1.2.1.2.2.1.2,
 (z1.1.2.1.2.2.2.1,(z1.1.2.1.2.2.2.2,(z1.1.2.2.1,(z1.1.2.2.2.1,(z1.1.2.2.2.2.1,(z3.1,z1.1.2.2.2.2.2.2)))))))))))))))))) (cnd (iEq z2.1 6) (bnd (F_s_l1Int ((x.1,(z2.2.1,
 z2.2.2)),[(-1),6,7])) (fun z3=>(some (.inl (z3.2.1,(z3.2.2,(z1.1.1,(z1.1.2.1.1,(z1.1.2.1.2.1.1,(z1.1.2.1.2.1.2,(z1.1.2.1.2.2.1.1,
 (z1.1.2.1.2.2.1.2,(z1.1.2.1.2.2.2.1,(z1.1.2.1.2.2.2.2,(z1.1.2.2.1,(z1.1.2.2.2.1,(z1.1.2.2.2.2.1,(z1.1.2.2.2.2.2.1,z3.1)))))))))))))))))) (some (.inl (z2.2.1,(z2.2.2,
 (z1.1.1,(z1.1.2.1.1,(z1.1.2.1.2.1.1,(z1.1.2.1.2.1.2,(z1.1.2.1.2.2.1.1,(z1.1.2.1.2.2.1.2,(z1.1.2.1.2.2.2.1,(z1.1.2.1.2.2.2.2,(z1.1.2.2.1,(z1.1.2.2.2.1,(z1.1.2.2.2.2.1,
 (z1.1.2.2.2.2.2.1,z1.1.2.2.2.2.2.2))))))))))))))))))))))))) (fun (z2:(Int×(Int×(Int×((List UInt8)×(Int×((List UInt8)×(Int×((List UInt8)×(Int×(Bool×((List
 UInt8)×(Int×(Int×(Int×Int)))))))))))))))=>(some ((z2.2.2.1,((z2.2.2.2.1,((z2.2.2.2.2.1,z2.2.2.2.2.2.1),((z2.2.2.2.2.2.2.1,z2.2.2.2.2.2.2.2.1),
 (z2.2.2.2.2.2.2.2.2.1,z2.2.2.2.2.2.2.2.2.2.1)))),(z2.2.2.2.2.2.2.2.2.2.2.1,(z2.2.2.2.2.2.2.2.2.2.2.2.1,(z2.2.2.2.2.2.2.2.2.2.2.2.2.1,(z2.2.2.2.2.2.2.2.2.2.2.2.2.2.1,
 z2.2.2.2.2.2.2.2.2.2.2.2.2.2.2)))))),(z2.1,z2.2.1)))))))
def F_s_DrawPutRec (x:(List UInt8)):(Option (Int×(Int×(Int×(((List UInt8)×((Int×(List UInt8))×((Int×(List UInt8))×(Int×Bool))))×((List UInt8)
 × (Int×(Int×(Int×Int))))))))):=(bnd (F_s_l1New x) (fun z1=>(bnd (F_s_l1Int ((x,(0,z1)),[1,2,65535,65536,(-1)])) (fun z2=>(bnd
 (F_s_l1Int ((x,(z2.2.1,z2.2.2)),[0,1,40,65536])) (fun z3=>(bnd (F_s_l11Any (x,(z3.2.1,z3.2.2))) (fun z4=>(some (z2.1,(z3.1,(z4.1.1,((z4.1.2.1.1,
 ((z4.1.2.1.2.1.1,z4.1.2.1.2.1.2),((z4.1.2.1.2.2.1.1,z4.1.2.1.2.2.1.2),(z4.1.2.1.2.2.2.1,z4.1.2.1.2.2.2.2)))),(z4.1.2.2.1,(z4.1.2.2.2.1,(z4.1.2.2.2.2.1,(z4.1.2.2.2.2.2.1,
 z4.1.2.2.2.2.2.2)))))))))))))))))
def F_i_sameRow (x:(((List UInt8)×((Int×(List UInt8))×((Int×(List UInt8))×(Int×Bool))))×((List UInt8)×((Int×(List UInt8))×((Int×(List UInt8))
 × (Int×Bool)))))):(Option Bool):=(cnd (sEq x.1.1 x.2.1) (bnd (F_i_sameCell ((x.1.2.1.1,x.1.2.1.2),(x.2.2.1.1,x.2.2.1.2))) (fun z1=>(cnd z1 (bnd (F_i_sameCell
 ((x.1.2.2.1.1,x.1.2.2.1.2),(x.2.2.2.1.1,x.2.2.2.1.2))) (fun z2=>(cnd z2 (cnd (iEq x.1.2.2.2.1 x.2.2.2.2.1) (some (bEq x.1.2.2.2.2 x.2.2.2.2.2)) (some false)) (some
 false)))) (some false)))) (some false))
def F_i_isWord (x:Int):(Option Bool):=(bnd (F_i_within (x,(0,65535))) (fun z1=>(some z1)))
def F_i_RecOk (x:(Int×(((List UInt8)×((Int×(List UInt8))×((Int×(List UInt8))×(Int×Bool))))×((List UInt8)×(Int×(Int×(Int×Int))))))):(Option
 Bool):=(bnd (F_i_sameRow ((x.2.1.1,((x.2.1.2.1.1,x.2.1.2.1.2),((x.2.1.2.2.1.1,x.2.1.2.2.1.2),(x.2.1.2.2.2.1,x.2.1.2.2.2.2)))),([],((0,[]),((0,[]),(0,false))))))
 (fun z1=>(joinX (cnd (iEq x.1 1) (bnd (F_i_RowOk (x.2.1.1,((x.2.1.2.1.1,x.2.1.2.1.2),((x.2.1.2.2.1.1,x.2.1.2.2.1.2),(x.2.1.2.2.2.1,x.2.1.2.2.2.2))))) (fun z2=>(cnd z2 (cnd (sEq x.2.2.1 []) (some (.inl (iEq x.2.2.2.1 0))) (some (.inl false))) (some (.inl false))))) (cnd (iEq x.1 2) (cnd z1 (bnd (F_i_NameOk x.2.2.1) (fun z2=>(cnd z2 (some (.inl (iEq x.2.2.2.1 0))) (some (.inl false))))) (some (.inl false))) (cnd (iEq x.1 3) (cnd z1 (cnd (sEq x.2.2.1 []) (bnd (F_i_within (x.2.2.2.1,(0,7)))
 (fun z2=>(some (.inl z2)))) (some (.inl false))) (some (.inl false))) (cnd (iEq x.1 4) (cnd z1 (cnd (sEq x.2.2.1 []) (cnd (iEq x.2.2.2.1 0) (some (.inl (iNe
 x.2.2.2.2.1 0))) (some (.inl false))) (some (.inl false))) (some (.inl false))) (some (.inl false)))))) (fun (z2:Bool)=>(cnd (iEq x.2.2.2.2.1 0) (cnd z2 (cnd (iEq
 x.2.2.2.2.2.1 0) (some (iEq x.2.2.2.2.2.2 0)) (some false)) (some false)) (cnd z2 (bnd (F_i_within (x.2.2.2.2.1,(1,9))) (fun z3=>(cnd z3 (bnd (F_i_isWord
 x.2.2.2.2.2.1) (fun z4=>(cnd z4 (bnd (F_i_within (x.2.2.2.2.2.2,(0,6))) (fun z5=>(some z5))) (some false)))) (some false)))) (some false)))))))
def S_i_Sum_0:(Int×Int)->Option ((Int×Int) ⊕ (Int ⊕ ((Int×Int) ⊕ (Int ⊕ Int)))):=fun (z3:(Int×Int))=>(cnd (iLt z3.2 8) (joinX (cnd (iGt (iMul .i64
 z3.1 2) 65535) (some (.inl (iXor .i64 (iMul .i64 z3.1 2) 69665))) (some (.inl (iMul .i64 z3.1 2)))) (fun (z4:Int)=>(some (.inl (z4,(iAdd .i64 z3.2 1)))))) (some (.inr (.inl
 z3.1))))
def S_i_Sum_1 (x:(List UInt8)):(Int×Int)->Option ((Int×Int) ⊕ (Int ⊕ Int)):=fun (z1:(Int×Int))=>(cnd (iLt z1.2 (lLen x)) (joinX (bnd (idx x z1.2)
 (fun z2=>(loopX (S_i_Sum_0) ((iXor .i64 z1.1 (iMul .i64 256 (iConv .i64 (y2i z2)))),0)))) (fun (z2:Int)=>(some (.inl (z2,(iAdd .i64 z1.2 1)))))) (some (.inr
 (.inl z1.1))))
def F_i_Sum (x:(List UInt8)):(Option Int):=(joinX (loopX (S_i_Sum_1 x) (65535,0)) (fun (z1:Int)=>(some (iAnd .i64 z1 65535))))
def F_i_PutRec (x:(Int×(Int×(Int×(((List UInt8)×((Int×(List UInt8))×((Int×(List UInt8))×(Int×Bool))))×((List UInt8)×(Int×(Int×(Int ×
 Int))))))))):(Option (List UInt8)):=(bnd (F_i_RecOk (x.2.2.1,((x.2.2.2.1.1,((x.2.2.2.1.2.1.1,x.2.2.2.1.2.1.2),((x.2.2.2.1.2.2.1.1,x.2.2.2.1.2.2.1.2),(x.2.2.2.1.2.2.2.1,
 x.2.2.2.1.2.2.2.2)))),(x.2.2.2.2.1,(x.2.2.2.2.2.1,(x.2.2.2.2.2.2.1,(x.2.2.2.2.2.2.2.1,x.2.2.2.2.2.2.2.2))))))) (fun z1=>(cnd (bNot z1) (some []) (bnd (F_i_isWord
 x.1) (fun z2=>(cnd (bNot z2) (some []) (bnd (F_i_isWord x.2.1) (fun z3=>(cnd (bNot z3) (some []) (alt2 (bnd (F_i_PutW ([],x.1)) (fun z4 =>
 (bnd (F_i_PutW (z4,x.2.1)) (fun z5=>(chk (room (z5.length+1) 1) (joinX (cnd (iEq x.2.2.1 1) (bnd (F_i_PutRow ((lApp z5 [(u8 (iConv .u8 x.2.2.1))]),
 (x.2.2.2.1.1,((x.2.2.2.1.2.1.1,x.2.2.2.1.2.1.2),((x.2.2.2.1.2.2.1.1,x.2.2.2.1.2.2.1.2),(x.2.2.2.1.2.2.2.1,x.2.2.2.1.2.2.2.2)))))) (fun z6=>(some (.inl
 z6)))) (cnd (iEq x.2.2.1 2) (bnd (F_i_PutText ((lApp z5 [(u8 (iConv .u8 x.2.2.1))]),x.2.2.2.2.1)) (fun z6=>(some (.inl z6)))) (cnd (iEq x.2.2.1 3) (chk (room
 ((lApp z5 [(u8 (iConv .u8 x.2.2.1))]).length+1) 1) (some (.inl (lApp (lApp z5 [(u8 (iConv .u8 x.2.2.1))]) [(u8 (iConv .u8 x.2.2.2.2.2.1))])))) (some (.inl (lApp z5 [(u8 (iConv
 .u8 x.2.2.1))])))))) (fun (z6:(List UInt8))=>(chk (room (z6.length+2) 1) (bnd (F_i_PutW ((lApp z6 [(u8 (iConv .u8 x.2.2.2.2.2.2.1)),(u8 (iConv .u8 x.2.2.2.2.2.2.2.2))]),
 x.2.2.2.2.2.2.2.1)) (fun z7=>(bnd (F_i_Sum z7) (fun z8=>(bnd (F_i_PutW (z7,z8)) (fun z9=>(some z9))))))))))))))) (alt2 (bnd
 (F_i_PutW ([],x.1)) (fun z4=>(bnd (F_i_PutW (z4,x.2.1)) (fun z5=>(chk (room (z5.length+1) 1) (joinX (cnd (iEq x.2.2.1 1) (bnd
 (F_i_PutRow ((lApp z5 [(u8 (iConv .u8 x.2.2.1))]),(x.2.2.2.1.1,((x.2.2.2.1.2.1.1,x.2.2.2.1.2.1.2),((x.2.2.2.1.2.2.1.1,x.2.2.2.1.2.2.1.2),(x.2.2.2.1.2.2.2.1,
 x.2.2.2.1.2.2.2.2)))))) (fun z6=>(some (.inl z6)))) (cnd (iEq x.2.2.1 2) (bnd (F_i_PutText ((lApp z5 [(u8 (iConv .u8 x.2.2.1))]),x.2.2.2.2.1)) (fun z6=>(some (.inl z6)))) (cnd (iEq x.2.2.1 3) (chk (room ((lApp z5 [(u8 (iConv .u8 x.2.2.1))]).length+1) 1) (some (.inl (lApp (lApp z5 [(u8 (iConv .u8 x.2.2.1))])
 [(u8 (iConv .u8 x.2.2.2.2.2.1))])))) (some (.inl (lApp z5 [(u8 (iConv .u8 x.2.2.1))])))))) (fun (z6:(List UInt8))=>(chk (room (z6.length+2) 1) (bnd (F_i_PutW ((lApp z6 [(u8
 (iConv .u8 x.2.2.2.2.2.2.1)),(u8 (iConv .u8 x.2.2.2.2.2.2.2.2))]),x.2.2.2.2.2.2.2.1)) (fun z7=>(bnd (F_i_Sum z7) (fun z8=>(bnd (F_i_PutW (z7,z8))
 (fun z9=>(some z9))))))))))))))) (bnd (F_i_PutW ([],x.1)) (fun z4=>(bnd (F_i_PutW (z4,x.2.1)) (fun z5=>(chk (room
 (z5.length+1) 1) (joinX (cnd (iEq x.2.2.1 1) (bnd (F_i_PutRow ((lApp z5 [(u8 (iConv .u8 x.2.2.1))]),(x.2.2.2.1.1,((x.2.2.2.1.2.1.1,x.2.2.2.1.2.1.2),((x.2.2.2.1.2.2.1.1,
 x.2.2.2.1.2.2.1.2),(x.2.2.2.1.2.2.2.1,x.2.2.2.1.2.2.2.2)))))) (fun z6=>(some (.inl z6)))) (cnd (iEq x.2.2.1 2) (bnd (F_i_PutText ((lApp z5 [(u8 (iConv .u8
 x.2.2.1))]),x.2.2.2.2.1)) (fun z6=>(some (.inl z6)))) (cnd (iEq x.2.2.1 3) (chk (room ((lApp z5 [(u8 (iConv .u8 x.2.2.1))]).length+1) 1) (some (.inl (lApp
 (lApp z5 [(u8 (iConv .u8 x.2.2.1))]) [(u8 (iConv .u8 x.2.2.2.2.2.1))])))) (some (.inl (lApp z5 [(u8 (iConv .u8 x.2.2.1))])))))) (fun (z6:(List UInt8))=>(chk (room (z6.length
 + 2) 1) (bnd (F_i_PutW ((lApp z6 [(u8 (iConv .u8 x.2.2.2.2.2.2.1)),(u8 (iConv .u8 x.2.2.2.2.2.2.2.2))]),x.2.2.2.2.2.2.2.1)) (fun z7=>(bnd (F_i_Sum z7) (fun
 z8=>(bnd (F_i_PutW (z7,z8)) (fun z9=>(some z9))))))))))))))))))))))))))
def F_s_l11NoRow (x:((List UInt8)×((Int×(List UInt8))×((Int×(List UInt8))×(Int×Bool))))):(Option Bool):=(cnd (sEq x.1 []) (bnd (F_s_l9None (x.2.1.1,
 x.2.1.2)) (fun z1=>(cnd z1 (bnd (F_s_l9None (x.2.2.1.1,x.2.2.1.2)) (fun z2=>(cnd z2 (cnd (iEq x.2.2.2.1 0) (some (bNot x.2.2.2.2)) (some false)) (some
 false)))) (some false)))) (some false))
def F_s_l1Word (x:Int):(Option Bool):=(bnd (F_s_l1In (x,(0,65535))) (fun z1=>(some z1)))
def F_s_l11Who (x:(Int×(((List UInt8)×((Int×(List UInt8))×((Int×(List UInt8))×(Int×Bool))))×((List UInt8)×(Int×(Int×(Int×Int))))))) :
 (Option Bool):=(cnd (iEq x.2.2.2.2.1 0) (cnd (iEq x.2.2.2.2.2.1 0) (cnd (iEq x.2.2.2.2.2.2 0) (some (iNe x.1 4)) (some false)) (some false)) (bnd (F_s_l1In (x.2.2.2.2.1,(1,
 9))) (fun z1=>(cnd z1 (bnd (F_s_l1Word x.2.2.2.2.2.1) (fun z2=>(cnd z2 (bnd (F_s_l1In (x.2.2.2.2.2.2,(0,6))) (fun z3=>(some z3))) (some
 false)))) (some false)))))
def F_s_RecOk (x:(Int×(((List UInt8)×((Int×(List UInt8))×((Int×(List UInt8))×(Int×Bool))))×((List UInt8)×(Int×(Int×(Int×Int))))))):(Option
 Bool):=(bnd (F_s_l11NoRow (x.2.1.1,((x.2.1.2.1.1,x.2.1.2.1.2),((x.2.1.2.2.1.1,x.2.1.2.2.1.2),(x.2.1.2.2.2.1,x.2.1.2.2.2.2))))) (fun z1=>(joinX (cnd (iEq x.1 1)
 (bnd (F_s_RowOk (x.2.1.1,((x.2.1.2.1.1,x.2.1.2.1.2),((x.2.1.2.2.1.1,x.2.1.2.2.1.2),(x.2.1.2.2.2.1,x.2.1.2.2.2.2))))) (fun z2=>(some (.inl (z2,((sEq x.2.2.1 []),
 (iEq x.2.2.2.1 0))))))) (cnd (iEq x.1 2) (bnd (F_s_NameOk x.2.2.1) (fun z2=>(some (.inl (z1,(z2,(iEq x.2.2.2.1 0))))))) (cnd (iEq x.1 3) (bnd (F_s_l1In (x.2.2.2.1,
 (0,7))) (fun z2=>(some (.inl (z1,((sEq x.2.2.1 []),z2)))))) (some (.inl (z1,((sEq x.2.2.1 []),(iEq x.2.2.2.1 0)))))))) (fun (z2:(Bool×(Bool×Bool)))=>(bnd
 (F_s_l1In (x.1,(1,4))) (fun z3=>(cnd z3 (cnd z2.1 (cnd z2.2.1 (cnd z2.2.2 (bnd (F_s_l11Who (x.1,((x.2.1.1,((x.2.1.2.1.1,x.2.1.2.1.2),((x.2.1.2.2.1.1,
 x.2.1.2.2.1.2),(x.2.1.2.2.2.1,x.2.1.2.2.2.2)))),(x.2.2.1,(x.2.2.2.1,(x.2.2.2.2.1,(x.2.2.2.2.2.1,x.2.2.2.2.2.2))))))) (fun z4=>(some z4))) (some false)) (some
 false)) (some false)) (some false))))))))
def S_s_Sum_0:(Int×Int)->Option ((Int×Int) ⊕ (Int ⊕ ((Int×Int) ⊕ (Int ⊕ Int)))):=fun (z3:(Int×Int))=>(cnd (iLt z3.2 8) (joinX (cnd (iGt (iShl .i64
 z3.1 1) 65535) (some (.inl (iXor .i64 (iShl .i64 z3.1 1) 69665))) (some (.inl (iShl .i64 z3.1 1)))) (fun (z4:Int)=>(some (.inl (z4,(iAdd .i64 z3.2 1)))))) (some (.inr (.inl
 z3.1))))
def S_s_Sum_1 (x:(List UInt8)):(Int×Int)->Option ((Int×Int) ⊕ (Int ⊕ Int)):=fun (z1:(Int×Int))=>(cnd (iLt z1.2 (lLen x)) (joinX (bnd (idx x z1.2)
 (fun z2=>(loopX (S_s_Sum_0) ((iXor .i64 z1.1 (iShl .i64 (iConv .i64 (y2i z2)) 8)),0)))) (fun (z2:Int)=>(some (.inl (z2,(iAdd .i64 z1.2 1)))))) (some (.inr (.inl
 z1.1))))
def F_s_Sum (x:(List UInt8)):(Option Int):=(joinX (loopX (S_s_Sum_1 x) (65535,0)) (fun (z1:Int)=>(some (iAnd .i64 z1 65535))))
def F_s_PutRec (x:(Int×(Int×(Int×(((List UInt8)×((Int×(List UInt8))×((Int×(List UInt8))×(Int×Bool))))×((List UInt8)×(Int×(Int×(Int ×
 Int))))))))):(Option (List UInt8)):=(bnd (F_s_RecOk (x.2.2.1,((x.2.2.2.1.1,((x.2.2.2.1.2.1.1,x.2.2.2.1.2.1.2),((x.2.2.2.1.2.2.1.1,x.2.2.2.1.2.2.1.2),(x.2.2.2.1.2.2.2.1,
 x.2.2.2.1.2.2.2.2)))),(x.2.2.2.2.1,(x.2.2.2.2.2.1,(x.2.2.2.2.2.2.1,(x.2.2.2.2.2.2.2.1,x.2.2.2.2.2.2.2.2))))))) (fun z1=>(cnd (bNot z1) (some []) (bnd (F_s_l1Word
 x.1) (fun z2=>(cnd (bNot z2) (some []) (bnd (F_s_l1Word x.2.1) (fun z3=>(cnd (bNot z3) (some []) (alt2 (bnd (F_s_PutW ([],x.1)) (fun z4 =>
 (bnd (F_s_PutW (z4,x.2.1)) (fun z5=>(chk (room (z5.length+1) 1) (joinX (cnd (iEq x.2.2.1 1) (bnd (F_s_PutRow ((lApp z5 [(u8 (iConv .u8 x.2.2.1))]),
 (x.2.2.2.1.1,((x.2.2.2.1.2.1.1,x.2.2.2.1.2.1.2),((x.2.2.2.1.2.2.1.1,x.2.2.2.1.2.2.1.2),(x.2.2.2.1.2.2.2.1,x.2.2.2.1.2.2.2.2)))))) (fun z6=>(some (.inl
 z6)))) (cnd (iEq x.2.2.1 2) (bnd (F_s_PutText ((lApp z5 [(u8 (iConv .u8 x.2.2.1))]),x.2.2.2.2.1)) (fun z6=>(some (.inl z6)))) (cnd (iEq x.2.2.1 3) (chk (room
 ((lApp z5 [(u8 (iConv .u8 x.2.2.1))]).length+1) 1) (some (.inl (lApp (lApp z5 [(u8 (iConv .u8 x.2.2.1))]) [(u8 (iConv .u8 x.2.2.2.2.2.1))])))) (some (.inl (lApp z5 [(u8 (iConv
 .u8 x.2.2.1))])))))) (fun (z6:(List UInt8))=>(chk (room (z6.length+2) 1) (bnd (F_s_PutW ((lApp z6 [(u8 (iConv .u8 x.2.2.2.2.2.2.1)),(u8 (iConv .u8 x.2.2.2.2.2.2.2.2))]),
 x.2.2.2.2.2.2.2.1)) (fun z7=>(bnd (F_s_Sum z7) (fun z8=>(bnd (F_s_PutW (z7,z8)) (fun z9=>(some z9))))))))))))))) (alt2 (bnd
 (F_s_PutW ([],x.1)) (fun z4=>(bnd (F_s_PutW (z4,x.2.1)) (fun z5=>(chk (room (z5.length+1) 1) (joinX (cnd (iEq x.2.2.1 1) (bnd
 (F_s_PutRow ((lApp z5 [(u8 (iConv .u8 x.2.2.1))]),(x.2.2.2.1.1,((x.2.2.2.1.2.1.1,x.2.2.2.1.2.1.2),((x.2.2.2.1.2.2.1.1,x.2.2.2.1.2.2.1.2),(x.2.2.2.1.2.2.2.1,
 x.2.2.2.1.2.2.2.2)))))) (fun z6=>(some (.inl z6)))) (cnd (iEq x.2.2.1 2) (bnd (F_s_PutText ((lApp z5 [(u8 (iConv .u8 x.2.2.1))]),x.2.2.2.2.1)) (fun z6=>(some (.inl z6)))) (cnd (iEq x.2.2.1 3) (chk (room ((lApp z5 [(u8 (iConv .u8 x.2.2.1))]).length+1) 1) (some (.inl (lApp (lApp z5 [(u8 (iConv .u8 x.2.2.1))])
 [(u8 (iConv .u8 x.2.2.2.2.2.1))])))) (some (.inl (lApp z5 [(u8 (iConv .u8 x.2.2.1))])))))) (fun (z6:(List UInt8))=>(chk (room (z6.length+2) 1) (bnd (F_s_PutW ((lApp z6 [(u8
 (iConv .u8 x.2.2.2.2.2.2.1)),(u8 (iConv .u8 x.2.2.2.2.2.2.2.2))]),x.2.2.2.2.2.2.2.1)) (fun z7=>(bnd (F_s_Sum z7) (fun z8=>(bnd (F_s_PutW (z7,z8))
 (fun z9=>(some z9))))))))))))))) (alt2 (bnd (F_s_PutW ([],x.1)) (fun z4=>(bnd (F_s_PutW (z4,x.2.1)) (fun z5=>(chk (room
 (z5.length+1) 1) (joinX (cnd (iEq x.2.2.1 1) (bnd (F_s_PutRow ((lApp z5 [(u8 (iConv .u8 x.2.2.1))]),(x.2.2.2.1.1,((x.2.2.2.1.2.1.1,x.2.2.2.1.2.1.2),((x.2.2.2.1.2.2.1.1,
 x.2.2.2.1.2.2.1.2),(x.2.2.2.1.2.2.2.1,x.2.2.2.1.2.2.2.2)))))) (fun z6=>(some (.inl z6)))) (cnd (iEq x.2.2.1 2) (bnd (F_s_PutText ((lApp z5 [(u8 (iConv .u8
 x.2.2.1))]),x.2.2.2.2.1)) (fun z6=>(some (.inl z6)))) (cnd (iEq x.2.2.1 3) (chk (room ((lApp z5 [(u8 (iConv .u8 x.2.2.1))]).length+1) 1) (some (.inl (lApp
 (lApp z5 [(u8 (iConv .u8 x.2.2.1))]) [(u8 (iConv .u8 x.2.2.2.2.2.1))])))) (some (.inl (lApp z5 [(u8 (iConv .u8 x.2.2.1))])))))) (fun (z6:(List UInt8))=>(chk (room (z6.length
 + 2) 1) (bnd (F_s_PutW ((lApp z6 [(u8 (iConv .u8 x.2.2.2.2.2.2.1)),(u8 (iConv .u8 x.2.2.2.2.2.2.2.2))]),x.2.2.2.2.2.2.2.1)) (fun z7=>(bnd (F_s_Sum z7) (fun
 z8=>(bnd (F_s_PutW (z7,z8)) (fun z9=>(some z9))))))))))))))) (bnd (F_s_PutW ([],x.1)) (fun z4=>(bnd (F_s_PutW (z4,x.2.1)) (fun
 z5=>(chk (room (z5.length+1) 1) (joinX (cnd (iEq x.2.2.1 1) (bnd (F_s_PutRow ((lApp z5 [(u8 (iConv .u8 x.2.2.1))]),(x.2.2.2.1.1,((x.2.2.2.1.2.1.1,
 x.2.2.2.1.2.1.2),((x.2.2.2.1.2.2.1.1,x.2.2.2.1.2.2.1.2),(x.2.2.2.1.2.2.2.1,x.2.2.2.1.2.2.2.2)))))) (fun z6=>(some (.inl z6)))) (cnd (iEq x.2.2.1 2) (bnd
 (F_s_PutText ((lApp z5 [(u8 (iConv .u8 x.2.2.1))]),x.2.2.2.2.1)) (fun z6=>(some (.inl z6)))) (cnd (iEq x.2.2.1 3) (chk (room ((lApp z5 [(u8 (iConv .u8
 x.2.2.1))]).length+1) 1) (some (.inl (lApp (lApp z5 [(u8 (iConv .u8 x.2.2.1))]) [(u8 (iConv .u8 x.2.2.2.2.2.1))])))) (some (.inl (lApp z5 [(u8 (iConv .u8 x.2.2.1))])))))) (fun
 (z6:(List UInt8))=>(chk (room (z6.length+2) 1) (bnd (F_s_PutW ((lApp z6 [(u8 (iConv .u8 x.2.2.2.2.2.2.1)),(u8 (iConv .u8 x.2.2.2.2.2.2.2.2))]),x.2.2.2.2.2.2.2.1)) (fun
 z7=>(bnd (F_s_Sum z7) (fun z8=>(bnd (F_s_PutW (z7,z8)) (fun z9=>(some z9)))))))))))))))))))))))))))
def F_s_DrawGetRec (x:(List UInt8)):(Option (List UInt8)):=(bnd (F_s_l1New x) (fun z1=>(bnd (F_s_l1Below ((x,(0,z1)),3)) (fun z2=>(bnd (F_s_l1Below ((x,(z2.2.1,z2.2.2)),9)) (fun z3=>(bnd (F_s_l11Draw (x,(z3.2.1,z3.2.2))) (fun z4=>(bnd (F_s_PutRec ((iAdd .i64 1 z2.1),(z3.1,(z4.1.1,
 ((z4.1.2.1.1,((z4.1.2.1.2.1.1,z4.1.2.1.2.1.2),((z4.1.2.1.2.2.1.1,z4.1.2.1.2.2.1.2),(z4.1.2.1.2.2.2.1,z4.1.2.1.2.2.2.2)))),(z4.1.2.2.1,(z4.1.2.2.2.1,(z4.1.2.2.2.2.1,
 (z4.1.2.2.2.2.2.1,z4.1.2.2.2.2.2.2))))))))) (fun z5=>(bnd (F_s_l1Bend ((x,(z4.2.1,z4.2.2)),z5)) (fun z6=>(bnd
 (F_s_l1Once ((x,(z6.2.1,z6.2.2)),6)) (fun z7=>(cnd z7.1 (cnd (iGt (lLen z6.1) 7) (chk (within 0 (iSub .i64 (lLen z6.1) 2) (lLen z6.1)) (bnd
 (F_s_l1Below ((x,(z7.2.1,z7.2.2)),2)) (fun z8=>(bnd (F_s_l1Below ((x,(z8.2.1,z8.2.2)),8)) (fun z9=>(chk (iLt (iAdd .i64
 4 z8.1) (Int.ofNat ((nOf (iSub .i64 (lLen z6.1) 2)) - 0))) (bnd (idx z6.1 (iAdd .i64 4 z8.1)) (fun z10=>(chk (fits 0 ((nOf (iSub .i64 (lLen z6.1) 2)) - 0) (lSet z6.1
 (0+(nOf (iAdd .i64 4 z8.1))) (u8 (iConv .u8 z9.1))).length) (bnd (F_s_Sum (lTake ((nOf (iSub .i64 (lLen z6.1) 2)) - 0) (lSet z6.1 (0+(nOf (iAdd .i64 4 z8.1))) (u8 (iConv .u8
 z9.1))))) (fun z11=>(chk (fits 0 ((nOf (iSub .i64 (lLen z6.1) 2)) - 0) (lSet z6.1 (0+(nOf (iAdd .i64 4 z8.1))) (u8 (iConv .u8 z9.1))).length) (bnd (F_s_PutW ((lTake
 ((nOf (iSub .i64 (lLen z6.1) 2)) - 0) (lSet z6.1 (0+(nOf (iAdd .i64 4 z8.1))) (u8 (iConv .u8 z9.1)))),z11)) (fun z12=>(some z12))))))))))))))) (some z6.1))
 (some z6.1))))))))))))))))
def F_i_scan_word (x:((List UInt8)×(Int×Bool))):(Option (Int×(Int×Bool))):=(bnd (F_i_GetW (x.1,x.2.1)) (fun z1=>(cnd x.2.2
 (some (0,(x.2.1,true))) (cnd (bNot z1.2.2) (some (0,(x.2.1,true))) (some (z1.1,(z1.2.1,x.2.2)))))))
def F_i_scan_sum (x:((List UInt8)×(Int×Bool))):(Option (Bool×(Int×Bool))):=(bnd (F_i_scan_word (x.1,(x.2.1,x.2.2))) (fun z1
 => (cnd (bNot z1.2.2) (chk (within 0 x.2.1 (lLen x.1)) (bnd (F_i_Sum (lTake ((nOf x.2.1) - 0) x.1)) (fun z2=>(cnd (iEq z1.1 z2) (some ((iEq z1.2.1 (lLen x.1)),(z1.2.1,
 z1.2.2))) (some (false,(z1.2.1,z1.2.2))))))) (some (false,(z1.2.1,z1.2.2))))))
def F_i_GetRec (x:(List UInt8)):(Option (Int×(Int×((Int×(((List UInt8)×((Int×(List UInt8))×((Int×(List UInt8))×(Int×Bool))))×((List UInt8) ×
 (Int×(Int×(Int×Int))))))×Bool)))):=(bnd (F_i_scan_word (x,(0,false))) (fun z1=>(bnd (F_i_scan_word (x,(z1.2.1,z1.2.2))) (fun z2=>(bnd (F_i_scan_one (x,(z2.2.1,z2.2.2))) (fun z3=>(joinX (cnd (iEq z3.1 1) (bnd (F_i_scan_row (x,(z3.2.1,z3.2.2))) (fun z4=>(some (.inl (z4.1.1,(z4.1.2.1.1,(z4.1.2.1.2,(z4.1.2.2.1.1,(z4.1.2.2.1.2,
 (z4.1.2.2.2.1,(z4.1.2.2.2.2,([],(0,(z4.2.1,z4.2.2)))))))))))))) (cnd (iEq z3.1 2) (bnd (F_i_scan_text (x,(z3.2.1,z3.2.2))) (fun z4 =>
 (some (.inl ([],(0,([],(0,([],(0,(false,(z4.1,(0,(z4.2.1,z4.2.2)))))))))))))) (cnd (iEq z3.1 3) (bnd (F_i_scan_one (x,(z3.2.1,z3.2.2))) (fun z4=>(some (.inl ([],(0,([],(0,([],(0,(false,([],(z4.1,(z4.2.1,z4.2.2)))))))))))))) (some (.inl ([],(0,([],(0,([],(0,(false,([],(0,(z3.2.1,
 z3.2.2))))))))))))))) (fun (z4:((List UInt8)×(Int×((List UInt8)×(Int×((List UInt8)×(Int×(Bool×((List UInt8)×(Int×(Int×Bool)))))))))))=>(bnd (F_i_scan_one
 (x,(z4.2.2.2.2.2.2.2.2.2.1,z4.2.2.2.2.2.2.2.2.2.2))) (fun z5=>(bnd (F_i_scan_one (x,(z5.2.1,z5.2.2))) (fun z6=>(bnd
 (F_i_scan_word (x,(z6.2.1,z6.2.2))) (fun z7=>(bnd (F_i_scan_sum (x,(z7.2.1,z7.2.2))) (fun z8=>(cnd (bNot z8.1) (some
 (0,(0,((0,(([],((0,[]),((0,[]),(0,false)))),([],(0,(0,(0,0)))))),false)))) (bnd (F_i_RecOk (z3.1,((z4.1,((z4.2.1,z4.2.2.1),((z4.2.2.2.1,z4.2.2.2.2.1),
 (z4.2.2.2.2.2.1,z4.2.2.2.2.2.2.1)))),(z4.2.2.2.2.2.2.2.1,(z4.2.2.2.2.2.2.2.2.1,(z5.1,(z7.1,z6.1))))))) (fun z9=>(cnd (bNot z9) (some (0,(0,((0,(([],((0,[]),
 ((0,[]),(0,false)))),([],(0,(0,(0,0)))))),false)))) (some (z1.1,(z2.1,((z3.1,((z4.1,((z4.2.1,z4.2.2.1),((z4.2.2.2.1,z4.2.2.2.2.1),(z4.2.2.2.2.2.1,
 z4.2.2.2.2.2.2.1)))),(z4.2.2.2.2.2.2.2.1,(z4.2.2.2.2.2.2.2.2.1,(z5.1,(z7.1,z6.1)))))),true))))))))))))))))))))))))
def F_s_l11Word (x:((List UInt8)×(Int×Bool))):(Option (Int×(Int×Bool))):=(bnd (F_s_l11Byte (x.1,(x.2.1,x.2.2))) (fun z1 =>
 (bnd (F_s_l11Byte (x.1,(z1.2.1,z1.2.2))) (fun z2=>(some ((iOr .i64 (iShl .i64 z1.1 8) z2.1),(z2.2.1,z2.2.2)))))))
def F_s_GetRec (x:(List UInt8)):(Option (Int×(Int×((Int×(((List UInt8)×((Int×(List UInt8))×((Int×(List UInt8))×(Int×Bool))))×((List UInt8) ×
 (Int×(Int×(Int×Int))))))×Bool)))):=(cnd (iLt (iSub .i64 (lLen x) 2) 0) (some (0,(0,((0,(([],((0,[]),((0,[]),(0,false)))),([],(0,(0,(0,0)))))),false))))
 (chk (within 0 (iSub .i64 (lLen x) 2) (lLen x)) (bnd (F_s_l11Word ((lTake ((nOf (iSub .i64 (lLen x) 2)) - 0) x),(0,false))) (fun z1=>(bnd
 (F_s_l11Word ((lTake ((nOf (iSub .i64 (lLen x) 2)) - 0) x),(z1.2.1,z1.2.2))) (fun z2=>(bnd (F_s_l11Byte ((lTake ((nOf (iSub .i64 (lLen x) 2)) - 0)
 x),(z2.2.1,z2.2.2))) (fun z3=>(joinX (cnd (iEq z3.1 1) (bnd (F_s_l11GetRow ((lTake ((nOf (iSub .i64 (lLen x) 2)) - 0) x),(z3.2.1,z3.2.2))) (fun z4=>(some (.inl (z4.1.1,(z4.1.2.1.1,(z4.1.2.1.2,(z4.1.2.2.1.1,
 (z4.1.2.2.1.2,(z4.1.2.2.2.1,(z4.1.2.2.2.2,([],(0,(z4.2.1,z4.2.2)))))))))))))) (cnd (iEq z3.1 2) (bnd (F_s_l11Text ((lTake ((nOf (iSub .i64 (lLen x) 2)) - 0) x),(z3.2.1,
 z3.2.2))) (fun z4=>(some (.inl ([],(0,([],(0,([],(0,(false,(z4.1,(0,(z4.2.1,z4.2.2)))))))))))))) (cnd (iEq z3.1 3) (bnd (F_s_l11Byte
 ((lTake ((nOf (iSub .i64 (lLen x) 2)) - 0) x),(z3.2.1,z3.2.2))) (fun z4=>(some (.inl ([],(0,([],(0,([],(0,(false,([],(z4.1,(z4.2.1,
 z4.2.2)))))))))))))) (some (.inl ([],(0,([],(0,([],(0,(false,([],(0,(z3.2.1,z3.2.2))))))))))))))) (fun (z4:((List UInt8)×(Int×((List UInt8)×(Int×((List UInt8)
 × (Int×(Bool×((List UInt8)×(Int×(Int×Bool)))))))))))=>(bnd (F_s_l11Byte ((lTake ((nOf (iSub .i64 (lLen x) 2)) - 0) x),(z4.2.2.2.2.2.2.2.2.2.1,
 z4.2.2.2.2.2.2.2.2.2.2))) (fun z5=>(bnd (F_s_l11Byte ((lTake ((nOf (iSub .i64 (lLen x) 2)) - 0) x),(z5.2.1,z5.2.2))) (fun z6
 => (bnd (F_s_l11Word ((lTake ((nOf (iSub .i64 (lLen x) 2)) - 0) x),(z6.2.1,z6.2.2))) (fun z7=>(bnd (F_s_GetW (x,(iSub .i64 (lLen x) 2))) (fun z8=>(cnd z7.2.2 (some (0,(0,((0,(([],((0,[]),((0,[]),(0,false)))),([],(0,(0,(0,0)))))),false)))) (cnd (iNe z7.2.1 (iSub .i64 (lLen x) 2))
 (some (0,(0,((0,(([],((0,[]),((0,[]),(0,false)))),([],(0,(0,(0,0)))))),false)))) (chk (within 0 (iSub .i64 (lLen x) 2) (lLen x)) (bnd (F_s_Sum (lTake ((nOf (iSub
 .i64 (lLen x) 2)) - 0) x)) (fun z9=>(cnd (iNe z8.1 z9) (some (0,(0,((0,(([],((0,[]),((0,[]),(0,false)))),([],(0,(0,(0,0)))))),false)))) (bnd (F_s_RecOk
 (z3.1,((z4.1,((z4.2.1,z4.2.2.1),((z4.2.2.2.1,z4.2.2.2.2.1),(z4.2.2.2.2.2.1,z4.2.2.2.2.2.2.1)))),(z4.2.2.2.2.2.2.2.1,(z4.2.2.2.2.2.2.2.2.1,(z5.1,(z7.1,z6.1))))))) (fun
 z10=>(cnd (bNot z10) (some (0,(0,((0,(([],((0,[]),((0,[]),(0,false)))),([],(0,(0,(0,0)))))),false)))) (some (z1.1,(z2.1,((z3.1,((z4.1,((z4.2.1,
 z4.2.2.1),((z4.2.2.2.1,z4.2.2.2.2.1),(z4.2.2.2.2.2.1,z4.2.2.2.2.2.2.1)))),(z4.2.2.2.2.2.2.2.1,(z4.2.2.2.2.2.2.2.2.1,(z5.1,(z7.1,z6.1)))))),
 true)))))))))))))))))))))))))))))))
def F_s_DrawRecOk (x:(List UInt8)):(Option (Int×(((List UInt8)×((Int×(List UInt8))×((Int×(List UInt8))×(Int×Bool))))×((List UInt8)×(Int×(Int ×
 (Int×Int))))))):=(bnd (F_s_l1New x) (fun z1=>(bnd (F_s_l11Any (x,(0,z1))) (fun z2=>(some (z2.1.1,((z2.1.2.1.1,((z2.1.2.1.2.1.1,z2.1.2.1.2.1.2),((z2.1.2.1.2.2.1.1,
 z2.1.2.1.2.2.1.2),(z2.1.2.1.2.2.2.1,z2.1.2.1.2.2.2.2)))),(z2.1.2.2.1,(z2.1.2.2.2.1,(z2.1.2.2.2.2.1,(z2.1.2.2.2.2.2.1,z2.1.2.2.2.2.2.2)))))))))))
def F_l_sameRec (x:((Int×(((List UInt8)×((Int×(List UInt8))×((Int×(List UInt8))×(Int×Bool))))×((List UInt8)×(Int×(Int×(Int×Int))))))×(Int
 × (((List UInt8)×((Int×(List UInt8))×((Int×(List UInt8))×(Int×Bool))))×((List UInt8)×(Int×(Int×(Int×Int)))))))):(Option Bool):=(cnd (iEq x.1.1 x.2.1)
 (bnd (F_l_sameRow ((x.1.2.1.1,((x.1.2.1.2.1.1,x.1.2.1.2.1.2),((x.1.2.1.2.2.1.1,x.1.2.1.2.2.1.2),(x.1.2.1.2.2.2.1,x.1.2.1.2.2.2.2)))),(x.2.2.1.1,((x.2.2.1.2.1.1,
 x.2.2.1.2.1.2),((x.2.2.1.2.2.1.1,x.2.2.1.2.2.1.2),(x.2.2.1.2.2.2.1,x.2.2.1.2.2.2.2)))))) (fun z1=>(cnd z1 (cnd (sEq x.1.2.2.1 x.2.2.2.1) (cnd (iEq x.1.2.2.2.1
 x.2.2.2.2.1) (cnd (iEq x.1.2.2.2.2.1 x.2.2.2.2.2.1) (cnd (iEq x.1.2.2.2.2.2.1 x.2.2.2.2.2.2.1) (some (iEq x.1.2.2.2.2.2.2 x.2.2.2.2.2.2.2)) (some false)) (some false)) (some
 false)) (some false)) (some false)))) (some false))
def F_l_at (x:((List UInt8)×Int)):(Option Int):=(cnd (iLt x.2 (lLen x.1)) (bnd (idx x.1 x.2) (fun z1=>(some (iConv .i64 (y2i z1))))) (some (iRem
 (iAdd .i64 (iMul .i64 x.2 31) (iMul .i64 (lLen x.1) 7)) 256)))
def F_l_FnRecs (x:(List UInt8)):(Option Bool):=(bnd (F_l_big x) (fun z1=>(cnd z1 (some true) (bnd (F_s_DrawPutRec x) (fun z2=>(bnd (F_i_PutRec (z2.1,(z2.2.1,
 (z2.2.2.1,((z2.2.2.2.1.1,((z2.2.2.2.1.2.1.1,z2.2.2.2.1.2.1.2),((z2.2.2.2.1.2.2.1.1,z2.2.2.2.1.2.2.1.2),(z2.2.2.2.1.2.2.2.1,z2.2.2.2.1.2.2.2.2)))),(z2.2.2.2.2.1,
 (z2.2.2.2.2.2.1,(z2.2.2.2.2.2.2.1,(z2.2.2.2.2.2.2.2.1,z2.2.2.2.2.2.2.2.2))))))))) (fun z3=>(bnd (F_s_DrawGetRec x) (fun z4=>(bnd
 (F_i_GetRec z4) (fun z5=>(bnd (F_s_GetRec z4) (fun z6=>(bnd (F_s_DrawRecOk x) (fun z7=>(cnd (bNe z5.2.2.2 z6.2.2.2) (some false) (cnd z5.2.2.2 (bnd (F_i_PutRec (z5.1,(z5.2.1,(z5.2.2.1.1,((z5.2.2.1.2.1.1,((z5.2.2.1.2.1.2.1.1,
 z5.2.2.1.2.1.2.1.2),((z5.2.2.1.2.1.2.2.1.1,z5.2.2.1.2.1.2.2.1.2),(z5.2.2.1.2.1.2.2.2.1,z5.2.2.1.2.1.2.2.2.2)))),(z5.2.2.1.2.2.1,(z5.2.2.1.2.2.2.1,(z5.2.2.1.2.2.2.2.1,
 (z5.2.2.1.2.2.2.2.2.1,z5.2.2.1.2.2.2.2.2.2))))))))) (fun z8=>(cnd (bNot (sEq z8 z4)) (some false) (bnd (F_i_RecOk (z7.1,((z7.2.1.1,((z7.2.1.2.1.1,
 z7.2.1.2.1.2),((z7.2.1.2.2.1.1,z7.2.1.2.2.1.2),(z7.2.1.2.2.2.1,z7.2.1.2.2.2.2)))),(z7.2.2.1,(z7.2.2.2.1,(z7.2.2.2.2.1,(z7.2.2.2.2.2.1,z7.2.2.2.2.2.2))))))) (fun z9=>(bnd (F_s_RecOk (z7.1,((z7.2.1.1,((z7.2.1.2.1.1,z7.2.1.2.1.2),((z7.2.1.2.2.1.1,z7.2.1.2.2.1.2),(z7.2.1.2.2.2.1,z7.2.1.2.2.2.2)))),(z7.2.2.1,(z7.2.2.2.1,
 (z7.2.2.2.2.1,(z7.2.2.2.2.2.1,z7.2.2.2.2.2.2))))))) (fun z10=>(cnd (bNe z9 z10) (some false) (bnd (F_i_RecOk (z2.2.2.1,((z2.2.2.2.1.1,((z2.2.2.2.1.2.1.1,
 z2.2.2.2.1.2.1.2),((z2.2.2.2.1.2.2.1.1,z2.2.2.2.1.2.2.1.2),(z2.2.2.2.1.2.2.2.1,z2.2.2.2.1.2.2.2.2)))),(z2.2.2.2.2.1,(z2.2.2.2.2.2.1,(z2.2.2.2.2.2.2.1,(z2.2.2.2.2.2.2.2.1,
 z2.2.2.2.2.2.2.2.2))))))) (fun z11=>(cnd (bNot z11) (some (iEq (lLen z3) 0)) (cnd (iLt z2.1 0) (some (iEq (lLen z3) 0)) (cnd (iGt z2.1 65535) (some (iEq (lLen z3) 0))
 (cnd (iLt z2.2.1 0) (some (iEq (lLen z3) 0)) (cnd (iGt z2.2.1 65535) (some (iEq (lLen z3) 0)) (bnd (F_i_GetRec z3) (fun z12=>(cnd (bNot z12.2.2.2) (some false) (cnd (iNe z12.1 z2.1)
 (some false) (cnd (iNe z12.2.1 z2.2.1) (some false) (bnd (F_l_sameRec ((z12.2.2.1.1,((z12.2.2.1.2.1.1,((z12.2.2.1.2.1.2.1.1,z12.2.2.1.2.1.2.1.2),((z12.2.2.1.2.1.2.2.1.1,
 z12.2.2.1.2.1.2.2.1.2),(z12.2.2.1.2.1.2.2.2.1,z12.2.2.1.2.1.2.2.2.2)))),(z12.2.2.1.2.2.1,(z12.2.2.1.2.2.2.1,(z12.2.2.1.2.2.2.2.1,(z12.2.2.1.2.2.2.2.2.1,
 z12.2.2.1.2.2.2.2.2.2)))))),(z2.2.2.1,((z2.2.2.2.1.1,((z2.2.2.2.1.2.1.1,z2.2.2.2.1.2.1.2),((z2.2.2.2.1.2.2.1.1,z2.2.2.2.1.2.2.1.2),(z2.2.2.2.1.2.2.2.1,
 z2.2.2.2.1.2.2.2.2)))),(z2.2.2.2.2.1,(z2.2.2.2.2.2.1,(z2.2.2.2.2.2.2.1,(z2.2.2.2.2.2.2.2.1,z2.2.2.2.2.2.2.2.2)))))))) (fun z13=>(cnd (bNot z13) (some false) (cnd
 (iGt (lLen z3) 120) (some false) (bnd (F_l_at (x,2)) (fun z14=>(chk (iNe (lLen z3) 0) (bnd (idx z3 (iRem z14 (lLen z3))) (fun z15=>(bnd (F_l_at (x,3))
 (fun z16=>(bnd (idx z3 (iRem z14 (lLen z3))) (fun z17=>(bnd (F_i_GetRec (lSet z3 (nOf (iRem z14 (lLen z3))) (u8 (iXor .u8 (y2i z15) (y2i (u8 (iConv .u8
 (iAdd .i64 1 (iRem z16 255))))))))) (fun z18=>(some (bNot z18.2.2.2))))))))))))))))))))))))))))))))))))) (bnd (F_i_RecOk (z7.1,((z7.2.1.1,((z7.2.1.2.1.1,z7.2.1.2.1.2),
 ((z7.2.1.2.2.1.1,z7.2.1.2.2.1.2),(z7.2.1.2.2.2.1,z7.2.1.2.2.2.2)))),(z7.2.2.1,(z7.2.2.2.1,(z7.2.2.2.2.1,(z7.2.2.2.2.2.1,z7.2.2.2.2.2.2))))))) (fun z8=>(bnd
 (F_s_RecOk (z7.1,((z7.2.1.1,((z7.2.1.2.1.1,z7.2.1.2.1.2),((z7.2.1.2.2.1.1,z7.2.1.2.2.1.2),(z7.2.1.2.2.2.1,z7.2.1.2.2.2.2)))),(z7.2.2.1,(z7.2.2.2.1,(z7.2.2.2.2.1,
 (z7.2.2.2.2.2.1,z7.2.2.2.2.2.2))))))) (fun z9=>(cnd (bNe z8 z9) (some false) (bnd (F_i_RecOk (z2.2.2.1,((z2.2.2.2.1.1,((z2.2.2.2.1.2.1.1,z2.2.2.2.1.2.1.2),
 ((z2.2.2.2.1.2.2.1.1,z2.2.2.2.1.2.2.1.2),(z2.2.2.2.1.2.2.2.1,z2.2.2.2.1.2.2.2.2)))),(z2.2.2.2.2.1,(z2.2.2.2.2.2.1,(z2.2.2.2.2.2.2.1,(z2.2.2.2.2.2.2.2.1,
 z2.2.2.2.2.2.2.2.2))))))) (fun z10=>(cnd (bNot z10) (some (iEq (lLen z3) 0)) (cnd (iLt z2.1 0) (some (iEq (lLen z3) 0)) (cnd (iGt z2.1 65535) (some (iEq (lLen z3) 0))
 (cnd (iLt z2.2.1 0) (some (iEq (lLen z3) 0)) (cnd (iGt z2.2.1 65535) (some (iEq (lLen z3) 0)) (bnd (F_i_GetRec z3) (fun z11=>(cnd (bNot z11.2.2.2) (some false) (cnd (iNe z11.1 z2.1)
 (some false) (cnd (iNe z11.2.1 z2.2.1) (some false) (bnd (F_l_sameRec ((z11.2.2.1.1,((z11.2.2.1.2.1.1,((z11.2.2.1.2.1.2.1.1,z11.2.2.1.2.1.2.1.2),((z11.2.2.1.2.1.2.2.1.1,
 z11.2.2.1.2.1.2.2.1.2),(z11.2.2.1.2.1.2.2.2.1,z11.2.2.1.2.1.2.2.2.2)))),(z11.2.2.1.2.2.1,(z11.2.2.1.2.2.2.1,(z11.2.2.1.2.2.2.2.1,(z11.2.2.1.2.2.2.2.2.1,
 z11.2.2.1.2.2.2.2.2.2)))))),(z2.2.2.1,((z2.2.2.2.1.1,((z2.2.2.2.1.2.1.1,z2.2.2.2.1.2.1.2),((z2.2.2.2.1.2.2.1.1,z2.2.2.2.1.2.2.1.2),(z2.2.2.2.1.2.2.2.1,
 z2.2.2.2.1.2.2.2.2)))),(z2.2.2.2.2.1,(z2.2.2.2.2.2.1,(z2.2.2.2.2.2.2.1,(z2.2.2.2.2.2.2.2.1,z2.2.2.2.2.2.2.2.2)))))))) (fun z12=>(cnd (bNot z12) (some false) (cnd
 (iGt (lLen z3) 120) (some false) (bnd (F_l_at (x,2)) (fun z13=>(chk (iNe (lLen z3) 0) (bnd (idx z3 (iRem z13 (lLen z3))) (fun z14=>(bnd (F_l_at (x,3))
 (fun z15=>(bnd (idx z3 (iRem z13 (lLen z3))) (fun z16=>(bnd (F_i_GetRec (lSet z3 (nOf (iRem z13 (lLen z3))) (u8 (iXor .u8 (y2i z14) (y2i (u8 (iConv .u8
 (iAdd .i64 1 (iRem z15 255))))))))) (fun z17=>(some (bNot z17.2.2.2)))))))))))))))))))))))))))))))))))))))))))))))))))
end
end Go.Vs
