import Derived.Test.YtggfmlobpmndoaaGreatDoorVsW5
set_option linter.all false
namespace Go.Vs
noncomputable section
def gFirst:List UInt8:=[240,240,240,240,240,240,240,240,240,240,240,240,240,240,240,240,240,240,240,240,240,240,240,240,240,240,240,240,240,240,
 240,240,240,240,240,240,240,240,240,240,240,240,240,240,240,240,240,240,240,240,240,240,240,240,240,240,240,240,240,240,240,240,240,240,240,
 240,240,240,240,240,240,240,240,240,240,240,240,240,240,240,240,240,240,240,240,240,240,240,240,240,240,240,240,240,240,240,240,240,240,240,
 240,240,240,240,240,240,240,240,240,240,240,240,240,240,240,240,240,240,240,240,240,240,240,240,240,240,240,240,241,241,241,241,241,241,241,
 241,241,241,241,241,241,241,241,241,241,241,241,241,241,241,241,241,241,241,241,241,241,241,241,241,241,241,241,241,241,241,241,241,241,241,
 241,241,241,241,241,241,241,241,241,241,241,241,241,241,241,241,241,241,241,241,241,241,241,241,2,2,2,2,2,2,2,2,2,2,2,2,2,2,2,2,2,2,2,
 2,2,2,2,2,2,2,2,2,2,2,19,3,3,3,3,3,3,3,3,3,3,3,3,35,3,3,52,4,4,4,68,241,241,241,241,241,241,241,241,241,241,241]
def gAcc:List UInt8:=[128,191,160,191,128,159,144,191,128,143,0,0,0,0,0,0,0,0,0,0,0,0,0,0,0,0,0,0,0,0,0,0]
instance glbI:Glb:=⟨[(0,gFirst),(1,gAcc)]⟩
def F_s_l1In (x:(Int×(Int×Int))):(Option Bool):=(cnd (iGe x.1 x.2.1) (some (iLe x.1 x.2.2)) (some false))
def S_s_DevNew_0 (x:Int):((List (List UInt8))×Int)->Option (((List (List UInt8))×Int) ⊕ ((List (List UInt8)) ⊕ ((List (List UInt8))×((List (Int×(List
 UInt8)))×(Int×Bool))))):=fun (z2:((List (List UInt8))×Int))=>(cnd (iLt z2.2 x) (chk (room (z2.1.length+1) 24) (some (.inl ((lApp z2.1 [[]]),(iAdd .i64 z2.2 1)))))
 (some (.inr (.inl z2.1))))
def F_s_DevNew (x:Int):(Option ((List (List UInt8))×((List (Int×(List UInt8)))×(Int×Bool)))):=(bnd (F_s_l1In (x,(1,64))) (fun z1=>(cnd
 (bNot z1) (some ([],([],(0,false)))) (joinX (loopX (S_s_DevNew_0 x) ([],0)) (fun (z2:(List (List UInt8)))=>(some (z2,([],((-1),false)))))))))
def F_s_l8Copy (x:(Int×(List UInt8))):(Option (Int×(List UInt8))):=(chk (room (0+x.2.length) 1) (some (x.1,(lApp [] x.2))))
def F_s_l9Copy (x:((List UInt8)×((Int×(List UInt8))×((Int×(List UInt8))×(Int×Bool))))):(Option ((List UInt8)×((Int×(List UInt8))×((Int×(List
 UInt8))×(Int×Bool))))):=(bnd (F_s_l8Copy (x.2.1.1,x.2.1.2)) (fun z1=>(bnd (F_s_l8Copy (x.2.2.1.1,x.2.2.1.2)) (fun z2
 => (some (x.1,((z1.1,z1.2),((z2.1,z2.2),(x.2.2.2.1,x.2.2.2.2)))))))))
def S_s_RecsOf_0 (x:((List ((List UInt8)×((Int×(List UInt8))×((Int×(List UInt8))×(Int×Bool)))))×(Int×(List (Int×(Int×Int)))))):((List (Int ×
 (((List UInt8)×((Int×(List UInt8))×((Int×(List UInt8))×(Int×Bool))))×((List UInt8)×(Int×(Int×(Int×Int)))))))×Int)->Option (((List (Int×(((List UInt8) ×
 ((Int×(List UInt8))×((Int×(List UInt8))×(Int×Bool))))×((List UInt8)×(Int×(Int×(Int×Int)))))))×Int) ⊕ ((List (Int×(((List UInt8)×((Int×(List UInt8)) ×
 ((Int×(List UInt8))×(Int×Bool))))×((List UInt8)×(Int×(Int×(Int×Int))))))) ⊕ (List (Int×(((List UInt8)×((Int×(List UInt8))×((Int×(List UInt8))×(Int ×
 Bool))))×((List UInt8)×(Int×(Int×(Int×Int))))))))):=fun (z1:((List (Int×(((List UInt8)×((Int×(List UInt8))×((Int×(List UInt8))×(Int×Bool))))×((List
 UInt8)×(Int×(Int×(Int×Int)))))))×Int))=>(cnd (iLt z1.2 (lLen x.1)) (bnd (idx x.1 z1.2) (fun z2=>(bnd (F_s_l9Copy (z2.1,((z2.2.1.1,z2.2.1.2),((z2.2.2.1.1,z2.2.2.1.2),(z2.2.2.2.1,z2.2.2.2.2))))) (fun z3=>(chk (room (z1.1.length+1) 152) (some (.inl ((lApp z1.1 [(1,((z3.1,((z3.2.1.1,z3.2.1.2),((z3.2.2.1.1,z3.2.2.1.2),(z3.2.2.2.1,
 z3.2.2.2.2)))),([],(0,(0,(0,0))))))]),(iAdd .i64 z1.2 1))))))))) (some (.inr (.inl z1.1))))
def S_s_RecsOf_1 (x:((List ((List UInt8)×((Int×(List UInt8))×((Int×(List UInt8))×(Int×Bool)))))×(Int×(List (Int×(Int×Int)))))):((List (Int ×
 (((List UInt8)×((Int×(List UInt8))×((Int×(List UInt8))×(Int×Bool))))×((List UInt8)×(Int×(Int×(Int×Int)))))))×Int)->Option (((List (Int×(((List UInt8) ×
 ((Int×(List UInt8))×((Int×(List UInt8))×(Int×Bool))))×((List UInt8)×(Int×(Int×(Int×Int)))))))×Int) ⊕ ((List (Int×(((List UInt8)×((Int×(List UInt8)) ×
 ((Int×(List UInt8))×(Int×Bool))))×((List UInt8)×(Int×(Int×(Int×Int))))))) ⊕ (List (Int×(((List UInt8)×((Int×(List UInt8))×((Int×(List UInt8))×(Int ×
 Bool))))×((List UInt8)×(Int×(Int×(Int×Int))))))))):=fun (z2:((List (Int×(((List UInt8)×((Int×(List UInt8))×((Int×(List UInt8))×(Int×Bool))))×((List
 UInt8)×(Int×(Int×(Int×Int)))))))×Int))=>(cnd (iLt z2.2 (lLen x.2.2)) (bnd (idx x.2.2 z2.2) (fun z3=>(bnd (idx x.2.2 z2.2) (fun z4=>(bnd (idx x.2.2 z2.2) (fun z5=>(chk (room (z2.1.length+1) 152) (some (.inl ((lApp z2.1 [(4,(([],((0,[]),((0,[]),(0,false)))),
 ([],(0,(z3.1,(z4.2.1,z5.2.2))))))]),(iAdd .i64 z2.2 1))))))))))) (some (.inr (.inl z2.1))))
def F_s_RecsOf (x:((List ((List UInt8)×((Int×(List UInt8))×((Int×(List UInt8))×(Int×Bool)))))×(Int×(List (Int×(Int×Int)))))):(Option (List
 (Int×(((List UInt8)×((Int×(List UInt8))×((Int×(List UInt8))×(Int×Bool))))×((List UInt8)×(Int×(Int×(Int×Int)))))))):=(joinX (loopX (S_s_RecsOf_0 x) ([(3,
 (([],((0,[]),((0,[]),(0,false)))),([],(x.2.1,(0,(0,0))))))],0)) (fun (z1:(List (Int×(((List UInt8)×((Int×(List UInt8))×((Int×(List UInt8))×(Int ×
 Bool))))×((List UInt8)×(Int×(Int×(Int×Int))))))))=>(joinX (loopX (S_s_RecsOf_1 x) (z1,0)) (fun (z2:(List (Int×(((List UInt8)×((Int×(List UInt8))×((Int ×
 (List UInt8))×(Int×Bool))))×((List UInt8)×(Int×(Int×(Int×Int))))))))=>(some z2)))))
def F_s_l13At (x:(Int×Int)):(Option Int):=(some (iAdd .i64 (iAdd .i64 2 (iMul .i64 30 (iRem x.1 2))) x.2))
def F_s_l9None (x:(Int×(List UInt8))):(Option Bool):=(cnd (iEq x.1 0) (some (iEq (lLen x.2) 0)) (some false))
def F_s_l11NoRow (x:((List UInt8)×((Int×(List UInt8))×((Int×(List UInt8))×(Int×Bool))))):(Option Bool):=(cnd (sEq x.1 []) (bnd (F_s_l9None (x.2.1.1,
 x.2.1.2)) (fun z1=>(cnd z1 (bnd (F_s_l9None (x.2.2.1.1,x.2.2.1.2)) (fun z2=>(cnd z2 (cnd (iEq x.2.2.2.1 0) (some (bNot x.2.2.2.2)) (some false)) (some
 false)))) (some false)))) (some false))
def S_s_NameOk_0 (x:(List UInt8)):(Int)->Option ((Int) ⊕ (Unit ⊕ Bool)):=fun (z1:Int)=>(cnd (iLt z1 (lLen x)) (bnd (idx x z1) (fun z2=>(bnd
 (F_s_l1In ((iConv .i64 (y2i z2)),(97,122))) (fun z3=>(cnd (bNot z3) (bnd (idx x z1) (fun z4=>(bnd (F_s_l1In ((iConv .i64 (y2i z4)),(48,57))) (fun z5=>(cnd (bNot z5) (some (.inr (.inr false))) (some (.inl (iAdd .i64 z1 1)))))))) (some (.inl (iAdd .i64 z1 1)))))))) (some (.inr (.inl ()))))
def F_s_NameOk (x:(List UInt8)):(Option Bool):=(joinX (loopX (S_s_NameOk_0 x) 0) (fun (z1:Unit)=>(bnd (F_s_l1In ((lLen x),(1,6))) (fun z2 =>
 (some z2)))))
def F_s_l9Old (x:((List UInt8)×((Int×(List UInt8))×((Int×(List UInt8))×(Int×Bool))))):(Option Bool):=(some (iEq (iAnd .i64 x.2.2.2.1 1) 1))
def F_s_l9New (x:((List UInt8)×((Int×(List UInt8))×((Int×(List UInt8))×(Int×Bool))))):(Option Bool):=(some (iEq (iAnd .i64 x.2.2.2.1 2) 2))
def F_s_l5Cs (x:Int):(Option Bool):=(bnd (F_s_l1In (x,(0,5))) (fun z1=>(some z1)))
def F_s_CellOk (x:(Int×(List UInt8))):(Option Bool):=(bnd (F_s_l5Cs x.1) (fun z1=>(cnd z1 (some (iLe (lLen x.2) 20)) (some false))))
def F_s_l2Len (x:UInt8):(Option Int):=(cnd (iLt (y2i x) (y2i (u8 128))) (some 1) (bnd (F_s_l1In ((iConv .i64 (y2i x)),(194,223))) (fun z1=>(cnd z1
 (some 2) (bnd (F_s_l1In ((iConv .i64 (y2i x)),(224,239))) (fun z2=>(cnd z2 (some 3) (bnd (F_s_l1In ((iConv .i64 (y2i x)),(240,244))) (fun z3=>(cnd z3
 (some 4) (some 0)))))))))))
def F_s_SignOk (x:Int):(Option Bool):=(bnd (F_s_l1In (x,(0,1114111))) (fun z1=>(cnd z1 (bnd (F_s_l1In (x,(55296,57343))) (fun z2 =>
 (some (bNot z2)))) (some false))))
def F_s_PutSign (x:((List UInt8)×Int)):(Option (List UInt8)):=(chk (room (0+x.1.length) 1) (bnd (F_s_SignOk x.2) (fun z1=>(cnd (bNot z1) (some
 (lApp [] x.1)) (cnd (iLe x.2 127) (chk (room ((lApp [] x.1).length+1) 1) (some (lApp (lApp [] x.1) [(u8 (iConv .u8 x.2))]))) (cnd (iLe x.2 2047) (chk (room ((lApp []
 x.1).length+2) 1) (some (lApp (lApp [] x.1) [(u8 (iConv .u8 (iOr .i64 192 (iShr .i64 x.2 6)))),(u8 (iConv .u8 (iOr .i64 128 (iAnd .i64 x.2 63))))]))) (cnd (iLe x.2 65535) (chk
 (room ((lApp [] x.1).length+3) 1) (some (lApp (lApp [] x.1) [(u8 (iConv .u8 (iOr .i64 224 (iShr .i64 x.2 12)))),(u8 (iConv .u8 (iOr .i64 128 (iAnd .i64 (iShr .i64 x.2 6)
 63)))),(u8 (iConv .u8 (iOr .i64 128 (iAnd .i64 x.2 63))))]))) (chk (room ((lApp [] x.1).length+4) 1) (some (lApp (lApp [] x.1) [(u8 (iConv .u8 (iOr .i64 240 (iShr .i64 x.2
 18)))),(u8 (iConv .u8 (iOr .i64 128 (iAnd .i64 (iShr .i64 x.2 12) 63)))),(u8 (iConv .u8 (iOr .i64 128 (iAnd .i64 (iShr .i64 x.2 6) 63)))),(u8 (iConv .u8 (iOr .i64 128 (iAnd
 .i64 x.2 63))))]))))))))))
def S_s_GetSign_0 (x:((List UInt8)×Int)) (z3:Int):(Int×Int)->Option ((Int×Int) ⊕ (Int ⊕ (Int×(Int×Bool)))):=fun (z6:(Int×Int))=>(cnd (iLt
 z6.2 z3) (bnd (idx x.1 (iAdd .i64 x.2 z6.2)) (fun z7=>(cnd (iNe (y2i (u8 (iAnd .u8 (y2i z7) (y2i (u8 192))))) (y2i (u8 128))) (some (.inr (.inr (0,(0,false)))))
 (bnd (idx x.1 (iAdd .i64 x.2 z6.2)) (fun z8=>(some (.inl ((iOr .i64 (iShl .i64 z6.1 6) (iConv .i64 (y2i (u8 (iAnd .u8 (y2i z8) (y2i (u8 63))))))),(iAdd .i64 z6.2
 1))))))))) (some (.inr (.inl z6.1))))
def F_s_GetSign (x:((List UInt8)×Int)):(Option (Int×(Int×Bool))):=(bnd (F_s_l1In (x.2,(0,(iSub .i64 (lLen x.1) 1)))) (fun z1=>(cnd (bNot z1)
 (some (0,(0,false))) (bnd (idx x.1 x.2) (fun z2=>(bnd (F_s_l2Len z2) (fun z3=>(cnd (iEq z3 0) (some (0,(0,false))) (cnd (iGt z3 (iSub .i64 (lLen x.1)
 x.2)) (some (0,(0,false))) (bnd (idx x.1 x.2) (fun z4=>(joinX (cnd (iGt z3 1) (chk (iLe 0 (iConv .u64 z3)) (some (.inl (iAnd .i64 (iConv .i64 (y2i z4)) (iShr .i64
 127 (iConv .u64 z3)))))) (some (.inl (iConv .i64 (y2i z4))))) (fun (z5:Int)=>(joinX (loopX (S_s_GetSign_0 x z3) (z5,1)) (fun (z6:Int)=>(bnd (F_s_SignOk z6) (fun z7=>(cnd (bNot z7) (some (0,(0,false))) (bnd (F_s_PutSign ([],z6)) (fun z8=>(chk (within x.2 (iAdd .i64 x.2 z3) (lLen x.1)) (cnd (bNot (sEq z8 (lTake
 ((nOf (iAdd .i64 x.2 z3)) - (nOf x.2)) (lDrop (nOf x.2) x.1)))) (some (0,(0,false))) (some (z6,((iAdd .i64 x.2 z3),true)))))))))))))))))))))))))
def F_s_PairSign (x:(Int×Int)):(Option (Int×Bool)):=(cnd (iEq x.1 164) (bnd (F_s_l1In (x.2,(161,243))) (fun z1=>(cnd z1 (some ((iSub .i64 (iAdd
 .i64 12353 x.2) 161),true)) (cnd (iEq x.1 165) (bnd (F_s_l1In (x.2,(161,246))) (fun z2=>(cnd z2 (some ((iSub .i64 (iAdd .i64 12449 x.2) 161),true)) (some (0,
 false))))) (some (0,false)))))) (cnd (iEq x.1 165) (bnd (F_s_l1In (x.2,(161,246))) (fun z1=>(cnd z1 (some ((iSub .i64 (iAdd .i64 12449 x.2) 161),true)) (some (0,
 false))))) (some (0,false))))
def F_s_EucSign (x:((List UInt8)×Int)):(Option (Int×(Int×Bool))):=(bnd (F_s_l1In (x.2,(0,(iSub .i64 (lLen x.1) 1)))) (fun z1=>(cnd (bNot z1)
 (some (0,(0,false))) (bnd (idx x.1 x.2) (fun z2=>(cnd (iLt (y2i z2) (y2i (u8 128))) (bnd (idx x.1 x.2) (fun z3=>(some ((iConv .i64 (y2i z3)),((iAdd
 .i64 x.2 1),true))))) (cnd (iGe (iAdd .i64 x.2 1) (lLen x.1)) (some (0,(0,false))) (bnd (idx x.1 x.2) (fun z3=>(bnd (idx x.1 (iAdd .i64 x.2 1)) (fun z4
 => (bnd (F_s_PairSign ((iConv .i64 (y2i z3)),(iConv .i64 (y2i z4)))) (fun z5=>(cnd (bNot z5.2) (some (0,(0,false))) (some (z5.1,((iAdd .i64 x.2 2),
 true)))))))))))))))))
def F_s_l3Nine (x:Int):(Option Int):=(cnd (iEq x 164) (some 8364) (cnd (iEq x 166) (some 352) (cnd (iEq x 168) (some 353) (cnd (iEq x 180) (some 381) (cnd (iEq
 x 184) (some 382) (cnd (iEq x 188) (some 338) (cnd (iEq x 189) (some 339) (cnd (iEq x 190) (some 376) (some x)))))))))
def F_s_l3Koi (x:Int):(Option Int):=(cnd (iGe x 224) (bnd (idx [1102,1072,1073,1094,1076,1077,1092,1075,1093,1080,1081,1082,1083,1084,1085,1086,
 1087,1103,1088,1089,1090,1091,1078,1074,1100,1099,1079,1096,1101,1097,1095,1098] (iSub .i64 x 224)) (fun z1=>(some (iSub .i64 z1 32)))) (cnd (iGe x 192)
 (bnd (idx [1102,1072,1073,1094,1076,1077,1092,1075,1093,1080,1081,1082,1083,1084,1085,1086,1087,1103,1088,1089,1090,1091,1078,1074,1100,1099,1079,1096,
 1101,1097,1095,1098] (iSub .i64 x 192)) (fun z1=>(some z1))) (cnd (iEq x 163) (some 1105) (cnd (iEq x 179) (some 1025) (some (-1))))))
def F_s_l3Win (x:Int):(Option Int):=(cnd (iGe x 160) (some x) (bnd (idx [8364,(-1),8218,402,8222,8230,8224,8225,710,8240,352,8249,338,(-1),381,
 (-1),(-1),8216,8217,8220,8221,8226,8211,8212,732,8482,353,8250,339,(-1),382,376] (iSub .i64 x 128)) (fun z1=>(some z1))))
def F_s_ByteSign (x:(Int×Int)):(Option (Int×Bool)):=(bnd (F_s_l1In (x.1,(1,4))) (fun z1=>(cnd (bNot z1) (some (0,false)) (bnd (F_s_l1In (x.2,
 (0,255))) (fun z2=>(cnd (bNot z2) (some (0,false)) (joinX (cnd (iGe x.2 128) (cnd (iEq x.1 2) (bnd (F_s_l3Nine x.2) (fun z3=>(some (.inl z3)))) (cnd (iEq
 x.1 3) (bnd (F_s_l3Koi x.2) (fun z3=>(some (.inl z3)))) (cnd (iEq x.1 4) (bnd (F_s_l3Win x.2) (fun z3=>(some (.inl z3)))) (some (.inl x.2))))) (some (.inl
 x.2))) (fun (z3:Int)=>(cnd (iLt z3 0) (some (0,false)) (some (z3,true)))))))))))
def F_s_l5Get (x:(Int×((List UInt8)×Int))):(Option (Int×(Int×Bool))):=(cnd (iEq x.1 0) (bnd (F_s_GetSign (x.2.1,x.2.2)) (fun z1=>(some (z1.1,(z1.2.1,z1.2.2))))) (cnd (iEq x.1 5) (bnd (F_s_EucSign (x.2.1,x.2.2)) (fun z1=>(some (z1.1,(z1.2.1,z1.2.2))))) (bnd (idx
 x.2.1 x.2.2) (fun z1=>(bnd (F_s_ByteSign (x.1,(iConv .i64 (y2i z1)))) (fun z2=>(some (z2.1,((iAdd .i64 x.2.2 1),z2.2)))))))))
def S_s_Decode_0 (x:(Int×(List UInt8))):((List UInt8)×Int)->Option (((List UInt8)×Int) ⊕ ((List UInt8) ⊕ ((List UInt8)×Bool))):=fun (z2:((List UInt8)
 × Int))=>(cnd (iLt z2.2 (lLen x.2)) (bnd (F_s_l5Get (x.1,(x.2,z2.2))) (fun z3=>(cnd (bNot z3.2.2) (some (.inr (.inr ([],false)))) (bnd
 (F_s_PutSign (z2.1,z3.1)) (fun z4=>(some (.inl (z4,z3.2.1)))))))) (some (.inr (.inl z2.1))))
def F_s_Decode (x:(Int×(List UInt8))):(Option ((List UInt8)×Bool)):=(bnd (F_s_l5Cs x.1) (fun z1=>(cnd (bNot z1) (some ([],false)) (joinX (loopX
 (S_s_Decode_0 x) ([],0)) (fun (z2:(List UInt8))=>(some (z2,true)))))))
def F_s_CellText (x:(Int×(List UInt8))):(Option ((List UInt8)×Bool)):=(bnd (F_s_CellOk (x.1,x.2)) (fun z1=>(cnd (bNot z1) (some ([],false))
 (bnd (F_s_Decode (x.1,x.2)) (fun z2=>(some (z2.1,z2.2)))))))
def F_s_SameText (x:((Int×(List UInt8))×(Int×(List UInt8)))):(Option Bool):=(bnd (F_s_CellText (x.1.1,x.1.2)) (fun z1=>(bnd
 (F_s_CellText (x.2.1,x.2.2)) (fun z2=>(cnd z1.2 (cnd z2.2 (some (sEq z1.1 z2.1)) (some false)) (some false))))))
def F_s_RowOk (x:((List UInt8)×((Int×(List UInt8))×((Int×(List UInt8))×(Int×Bool))))):(Option Bool):=(bnd (F_s_NameOk x.1) (fun z1=>(cnd
 (bNot z1) (some false) (bnd (F_s_l1In (x.2.2.2.1,(1,3))) (fun z2=>(cnd (bNot z2) (some false) (bnd (F_s_l9Old (x.1,((x.2.1.1,x.2.1.2),((x.2.2.1.1,x.2.2.1.2),
 (x.2.2.2.1,x.2.2.2.2))))) (fun z3=>(cnd (bNot z3) (bnd (F_s_l9None (x.2.1.1,x.2.1.2)) (fun z4=>(cnd (bNot z4) (some false) (bnd (F_s_l9New (x.1,
 ((x.2.1.1,x.2.1.2),((x.2.2.1.1,x.2.2.1.2),(x.2.2.2.1,x.2.2.2.2))))) (fun z5=>(cnd (bNot z5) (bnd (F_s_l9None (x.2.2.1.1,x.2.2.1.2)) (fun z6=>(cnd
 (bNot z6) (some false) (bnd (F_s_CellText (x.2.1.1,x.2.1.2)) (fun z7=>(bnd (F_s_CellText (x.2.2.1.1,x.2.2.1.2)) (fun z8 =>
 (bnd (F_s_l9Old (x.1,((x.2.1.1,x.2.1.2),((x.2.2.1.1,x.2.2.1.2),(x.2.2.2.1,x.2.2.2.2))))) (fun z9=>(cnd z9 (bnd (F_s_l1In (x.2.1.1,(1,5))) (fun z10 =>
 (cnd (bNot z10) (some false) (bnd (F_s_CellOk (x.2.1.1,x.2.1.2)) (fun z11=>(cnd (bNot z11) (some false) (bnd (F_s_l9New (x.1,((x.2.1.1,x.2.1.2),((x.2.2.1.1,
 x.2.2.1.2),(x.2.2.2.1,x.2.2.2.2))))) (fun z12=>(cnd z12 (cnd (iNe x.2.2.1.1 0) (some false) (cnd (bNot z8.2) (some false) (bnd (F_s_l9Old (x.1,((x.2.1.1,x.2.1.2),
 ((x.2.2.1.1,x.2.2.1.2),(x.2.2.2.1,x.2.2.2.2))))) (fun z13=>(cnd z13 (cnd (bNot z7.2) (cnd (bNot x.2.2.2.2) (some false) (bnd (F_s_l9New (x.1,((x.2.1.1,x.2.1.2),
 ((x.2.2.1.1,x.2.2.1.2),(x.2.2.2.1,x.2.2.2.2))))) (fun z14=>(cnd z14 (some false) (cnd (iNe x.2.2.2.1 3) (some true) (bnd (F_s_SameText ((x.2.1.1,x.2.1.2),
 (x.2.2.1.1,x.2.2.1.2))) (fun z15=>(some z15)))))))) (cnd (iNe x.2.2.2.1 3) (some true) (bnd (F_s_SameText ((x.2.1.1,x.2.1.2),(x.2.2.1.1,x.2.2.1.2))) (fun z14=>(some z14))))) (cnd (iNe x.2.2.2.1 3) (some true) (bnd (F_s_SameText ((x.2.1.1,x.2.1.2),(x.2.2.1.1,x.2.2.1.2))) (fun z14=>(some z14))))))))) (bnd
 (F_s_l9Old (x.1,((x.2.1.1,x.2.1.2),((x.2.2.1.1,x.2.2.1.2),(x.2.2.2.1,x.2.2.2.2))))) (fun z13=>(cnd z13 (cnd (bNot z7.2) (cnd (bNot x.2.2.2.2) (some false) (bnd
 (F_s_l9New (x.1,((x.2.1.1,x.2.1.2),((x.2.2.1.1,x.2.2.1.2),(x.2.2.2.1,x.2.2.2.2))))) (fun z14=>(cnd z14 (some false) (cnd (iNe x.2.2.2.1 3) (some true) (bnd
 (F_s_SameText ((x.2.1.1,x.2.1.2),(x.2.2.1.1,x.2.2.1.2))) (fun z15=>(some z15)))))))) (cnd (iNe x.2.2.2.1 3) (some true) (bnd (F_s_SameText ((x.2.1.1,x.2.1.2),
 (x.2.2.1.1,x.2.2.1.2))) (fun z14=>(some z14))))) (cnd (iNe x.2.2.2.1 3) (some true) (bnd (F_s_SameText ((x.2.1.1,x.2.1.2),(x.2.2.1.1,x.2.2.1.2))) (fun z14
 => (some z14)))))))))))))))) (bnd (F_s_l9New (x.1,((x.2.1.1,x.2.1.2),((x.2.2.1.1,x.2.2.1.2),(x.2.2.2.1,x.2.2.2.2))))) (fun z10=>(cnd z10 (cnd (iNe x.2.2.1.1 0)
 (some false) (cnd (bNot z8.2) (some false) (bnd (F_s_l9Old (x.1,((x.2.1.1,x.2.1.2),((x.2.2.1.1,x.2.2.1.2),(x.2.2.2.1,x.2.2.2.2))))) (fun z11=>(cnd z11 (cnd (bNot
 z7.2) (cnd (bNot x.2.2.2.2) (some false) (bnd (F_s_l9New (x.1,((x.2.1.1,x.2.1.2),((x.2.2.1.1,x.2.2.1.2),(x.2.2.2.1,x.2.2.2.2))))) (fun z12=>(cnd z12 (some false)
 (cnd (iNe x.2.2.2.1 3) (some true) (bnd (F_s_SameText ((x.2.1.1,x.2.1.2),(x.2.2.1.1,x.2.2.1.2))) (fun z13=>(some z13)))))))) (cnd (iNe x.2.2.2.1 3) (some true) (bnd
 (F_s_SameText ((x.2.1.1,x.2.1.2),(x.2.2.1.1,x.2.2.1.2))) (fun z12=>(some z12))))) (cnd (iNe x.2.2.2.1 3) (some true) (bnd (F_s_SameText ((x.2.1.1,x.2.1.2),
 (x.2.2.1.1,x.2.2.1.2))) (fun z12=>(some z12))))))))) (bnd (F_s_l9Old (x.1,((x.2.1.1,x.2.1.2),((x.2.2.1.1,x.2.2.1.2),(x.2.2.2.1,x.2.2.2.2))))) (fun z11
 => (cnd z11 (cnd (bNot z7.2) (cnd (bNot x.2.2.2.2) (some false) (bnd (F_s_l9New (x.1,((x.2.1.1,x.2.1.2),((x.2.2.1.1,x.2.2.1.2),(x.2.2.2.1,x.2.2.2.2))))) (fun z12
 => (cnd z12 (some false) (cnd (iNe x.2.2.2.1 3) (some true) (bnd (F_s_SameText ((x.2.1.1,x.2.1.2),(x.2.2.1.1,x.2.2.1.2))) (fun z13=>(some z13)))))))) (cnd (iNe
 x.2.2.2.1 3) (some true) (bnd (F_s_SameText ((x.2.1.1,x.2.1.2),(x.2.2.1.1,x.2.2.1.2))) (fun z12=>(some z12))))) (cnd (iNe x.2.2.2.1 3) (some true) (bnd
 (F_s_SameText ((x.2.1.1,x.2.1.2),(x.2.2.1.1,x.2.2.1.2))) (fun z12=>(some z12)))))))))))))))))))) (bnd (F_s_CellText (x.2.1.1,x.2.1.2)) (fun z6=>(bnd (F_s_CellText (x.2.2.1.1,x.2.2.1.2)) (fun z7=>(bnd (F_s_l9Old (x.1,((x.2.1.1,x.2.1.2),((x.2.2.1.1,x.2.2.1.2),(x.2.2.2.1,
 x.2.2.2.2))))) (fun z8=>(cnd z8 (bnd (F_s_l1In (x.2.1.1,(1,5))) (fun z9=>(cnd (bNot z9) (some false) (bnd (F_s_CellOk (x.2.1.1,x.2.1.2)) (fun z10=>(cnd (bNot z10) (some false) (bnd (F_s_l9New (x.1,((x.2.1.1,x.2.1.2),((x.2.2.1.1,x.2.2.1.2),(x.2.2.2.1,x.2.2.2.2))))) (fun z11=>(cnd z11 (cnd (iNe
 x.2.2.1.1 0) (some false) (cnd (bNot z7.2) (some false) (bnd (F_s_l9Old (x.1,((x.2.1.1,x.2.1.2),((x.2.2.1.1,x.2.2.1.2),(x.2.2.2.1,x.2.2.2.2))))) (fun z12=>(cnd
 z12 (cnd (bNot z6.2) (cnd (bNot x.2.2.2.2) (some false) (bnd (F_s_l9New (x.1,((x.2.1.1,x.2.1.2),((x.2.2.1.1,x.2.2.1.2),(x.2.2.2.1,x.2.2.2.2))))) (fun z13=>(cnd
 z13 (some false) (cnd (iNe x.2.2.2.1 3) (some true) (bnd (F_s_SameText ((x.2.1.1,x.2.1.2),(x.2.2.1.1,x.2.2.1.2))) (fun z14=>(some z14)))))))) (cnd (iNe x.2.2.2.1 3)
 (some true) (bnd (F_s_SameText ((x.2.1.1,x.2.1.2),(x.2.2.1.1,x.2.2.1.2))) (fun z13=>(some z13))))) (cnd (iNe x.2.2.2.1 3) (some true) (bnd (F_s_SameText ((x.2.1.1,
 x.2.1.2),(x.2.2.1.1,x.2.2.1.2))) (fun z13=>(some z13))))))))) (bnd (F_s_l9Old (x.1,((x.2.1.1,x.2.1.2),((x.2.2.1.1,x.2.2.1.2),(x.2.2.2.1,x.2.2.2.2))))) (fun
 z12=>(cnd z12 (cnd (bNot z6.2) (cnd (bNot x.2.2.2.2) (some false) (bnd (F_s_l9New (x.1,((x.2.1.1,x.2.1.2),((x.2.2.1.1,x.2.2.1.2),(x.2.2.2.1,x.2.2.2.2))))) (fun
 z13=>(cnd z13 (some false) (cnd (iNe x.2.2.2.1 3) (some true) (bnd (F_s_SameText ((x.2.1.1,x.2.1.2),(x.2.2.1.1,x.2.2.1.2))) (fun z14=>(some z14))))))))
 (cnd (iNe x.2.2.2.1 3) (some true) (bnd (F_s_SameText ((x.2.1.1,x.2.1.2),(x.2.2.1.1,x.2.2.1.2))) (fun z13=>(some z13))))) (cnd (iNe x.2.2.2.1 3) (some true) (bnd
 (F_s_SameText ((x.2.1.1,x.2.1.2),(x.2.2.1.1,x.2.2.1.2))) (fun z13=>(some z13)))))))))))))))) (bnd (F_s_l9New (x.1,((x.2.1.1,x.2.1.2),((x.2.2.1.1,x.2.2.1.2),
 (x.2.2.2.1,x.2.2.2.2))))) (fun z9=>(cnd z9 (cnd (iNe x.2.2.1.1 0) (some false) (cnd (bNot z7.2) (some false) (bnd (F_s_l9Old (x.1,((x.2.1.1,x.2.1.2),((x.2.2.1.1,
 x.2.2.1.2),(x.2.2.2.1,x.2.2.2.2))))) (fun z10=>(cnd z10 (cnd (bNot z6.2) (cnd (bNot x.2.2.2.2) (some false) (bnd (F_s_l9New (x.1,((x.2.1.1,x.2.1.2),((x.2.2.1.1,
 x.2.2.1.2),(x.2.2.2.1,x.2.2.2.2))))) (fun z11=>(cnd z11 (some false) (cnd (iNe x.2.2.2.1 3) (some true) (bnd (F_s_SameText ((x.2.1.1,x.2.1.2),(x.2.2.1.1,
 x.2.2.1.2))) (fun z12=>(some z12)))))))) (cnd (iNe x.2.2.2.1 3) (some true) (bnd (F_s_SameText ((x.2.1.1,x.2.1.2),(x.2.2.1.1,x.2.2.1.2))) (fun z11=>(some
 z11))))) (cnd (iNe x.2.2.2.1 3) (some true) (bnd (F_s_SameText ((x.2.1.1,x.2.1.2),(x.2.2.1.1,x.2.2.1.2))) (fun z11=>(some z11))))))))) (bnd (F_s_l9Old (x.1,
 ((x.2.1.1,x.2.1.2),((x.2.2.1.1,x.2.2.1.2),(x.2.2.2.1,x.2.2.2.2))))) (fun z10=>(cnd z10 (cnd (bNot z6.2) (cnd (bNot x.2.2.2.2) (some false) (bnd (F_s_l9New (x.1,
 ((x.2.1.1,x.2.1.2),((x.2.2.1.1,x.2.2.1.2),(x.2.2.2.1,x.2.2.2.2))))) (fun z11=>(cnd z11 (some false) (cnd (iNe x.2.2.2.1 3) (some true) (bnd (F_s_SameText
 ((x.2.1.1,x.2.1.2),(x.2.2.1.1,x.2.2.1.2))) (fun z12=>(some z12)))))))) (cnd (iNe x.2.2.2.1 3) (some true) (bnd (F_s_SameText ((x.2.1.1,x.2.1.2),(x.2.2.1.1,
 x.2.2.1.2))) (fun z11=>(some z11))))) (cnd (iNe x.2.2.2.1 3) (some true) (bnd (F_s_SameText ((x.2.1.1,x.2.1.2),(x.2.2.1.1,x.2.2.1.2))) (fun z11=>(some
 z11))))))))))))))))))))))) (bnd (F_s_l9New (x.1,((x.2.1.1,x.2.1.2),((x.2.2.1.1,x.2.2.1.2),(x.2.2.2.1,x.2.2.2.2))))) (fun z4=>(cnd (bNot z4) (bnd (F_s_l9None
 (x.2.2.1.1,x.2.2.1.2)) (fun z5=>(cnd (bNot z5) (some false) (bnd (F_s_CellText (x.2.1.1,x.2.1.2)) (fun z6=>(bnd (F_s_CellText (x.2.2.1.1,
 x.2.2.1.2)) (fun z7=>(bnd (F_s_l9Old (x.1,((x.2.1.1,x.2.1.2),((x.2.2.1.1,x.2.2.1.2),(x.2.2.2.1,x.2.2.2.2))))) (fun z8=>(cnd z8 (bnd
 (F_s_l1In (x.2.1.1,(1,5))) (fun z9=>(cnd (bNot z9) (some false) (bnd (F_s_CellOk (x.2.1.1,x.2.1.2)) (fun z10=>(cnd (bNot z10) (some false) (bnd
 (F_s_l9New (x.1,((x.2.1.1,x.2.1.2),((x.2.2.1.1,x.2.2.1.2),(x.2.2.2.1,x.2.2.2.2))))) (fun z11=>(cnd z11 (cnd (iNe x.2.2.1.1 0) (some false) (cnd (bNot z7.2) (some
 false) (bnd (F_s_l9Old (x.1,((x.2.1.1,x.2.1.2),((x.2.2.1.1,x.2.2.1.2),(x.2.2.2.1,x.2.2.2.2))))) (fun z12=>(cnd z12 (cnd (bNot z6.2) (cnd (bNot x.2.2.2.2) (some
 false) (bnd (F_s_l9New (x.1,((x.2.1.1,x.2.1.2),((x.2.2.1.1,x.2.2.1.2),(x.2.2.2.1,x.2.2.2.2))))) (fun z13=>(cnd z13 (some false) (cnd (iNe x.2.2.2.1 3) (some
 true) (bnd (F_s_SameText ((x.2.1.1,x.2.1.2),(x.2.2.1.1,x.2.2.1.2))) (fun z14=>(some z14)))))))) (cnd (iNe x.2.2.2.1 3) (some true) (bnd (F_s_SameText ((x.2.1.1,
 x.2.1.2),(x.2.2.1.1,x.2.2.1.2))) (fun z13=>(some z13))))) (cnd (iNe x.2.2.2.1 3) (some true) (bnd (F_s_SameText ((x.2.1.1,x.2.1.2),(x.2.2.1.1,x.2.2.1.2))) (fun
 z13=>(some z13))))))))) (bnd (F_s_l9Old (x.1,((x.2.1.1,x.2.1.2),((x.2.2.1.1,x.2.2.1.2),(x.2.2.2.1,x.2.2.2.2))))) (fun z12=>(cnd z12 (cnd (bNot z6.2)
 (cnd (bNot x.2.2.2.2) (some false) (bnd (F_s_l9New (x.1,((x.2.1.1,x.2.1.2),((x.2.2.1.1,x.2.2.1.2),(x.2.2.2.1,x.2.2.2.2))))) (fun z13=>(cnd z13 (some false) (cnd
 (iNe x.2.2.2.1 3) (some true) (bnd (F_s_SameText ((x.2.1.1,x.2.1.2),(x.2.2.1.1,x.2.2.1.2))) (fun z14=>(some z14)))))))) (cnd (iNe x.2.2.2.1 3) (some true) (bnd
 (F_s_SameText ((x.2.1.1,x.2.1.2),(x.2.2.1.1,x.2.2.1.2))) (fun z13=>(some z13))))) (cnd (iNe x.2.2.2.1 3) (some true) (bnd (F_s_SameText ((x.2.1.1,x.2.1.2),
 (x.2.2.1.1,x.2.2.1.2))) (fun z13=>(some z13)))))))))))))))) (bnd (F_s_l9New (x.1,((x.2.1.1,x.2.1.2),((x.2.2.1.1,x.2.2.1.2),(x.2.2.2.1,x.2.2.2.2))))) (fun z9=>(cnd z9 (cnd (iNe x.2.2.1.1 0) (some false) (cnd (bNot z7.2) (some false) (bnd (F_s_l9Old (x.1,((x.2.1.1,x.2.1.2),((x.2.2.1.1,x.2.2.1.2),(x.2.2.2.1,x.2.2.2.2)))))
 (fun z10=>(cnd z10 (cnd (bNot z6.2) (cnd (bNot x.2.2.2.2) (some false) (bnd (F_s_l9New (x.1,((x.2.1.1,x.2.1.2),((x.2.2.1.1,x.2.2.1.2),(x.2.2.2.1,x.2.2.2.2)))))
 (fun z11=>(cnd z11 (some false) (cnd (iNe x.2.2.2.1 3) (some true) (bnd (F_s_SameText ((x.2.1.1,x.2.1.2),(x.2.2.1.1,x.2.2.1.2))) (fun z12=>(some
 z12)))))))) (cnd (iNe x.2.2.2.1 3) (some true) (bnd (F_s_SameText ((x.2.1.1,x.2.1.2),(x.2.2.1.1,x.2.2.1.2))) (fun z11=>(some z11))))) (cnd (iNe x.2.2.2.1 3) (some
 true) (bnd (F_s_SameText ((x.2.1.1,x.2.1.2),(x.2.2.1.1,x.2.2.1.2))) (fun z11=>(some z11))))))))) (bnd (F_s_l9Old (x.1,((x.2.1.1,x.2.1.2),((x.2.2.1.1,x.2.2.1.2),
 (x.2.2.2.1,x.2.2.2.2))))) (fun z10=>(cnd z10 (cnd (bNot z6.2) (cnd (bNot x.2.2.2.2) (some false) (bnd (F_s_l9New (x.1,((x.2.1.1,x.2.1.2),((x.2.2.1.1,x.2.2.1.2),
 (x.2.2.2.1,x.2.2.2.2))))) (fun z11=>(cnd z11 (some false) (cnd (iNe x.2.2.2.1 3) (some true) (bnd (F_s_SameText ((x.2.1.1,x.2.1.2),(x.2.2.1.1,x.2.2.1.2))) (fun
 z12=>(some z12)))))))) (cnd (iNe x.2.2.2.1 3) (some true) (bnd (F_s_SameText ((x.2.1.1,x.2.1.2),(x.2.2.1.1,x.2.2.1.2))) (fun z11=>(some z11))))) (cnd
 (iNe x.2.2.2.1 3) (some true) (bnd (F_s_SameText ((x.2.1.1,x.2.1.2),(x.2.2.1.1,x.2.2.1.2))) (fun z11=>(some z11)))))))))))))))))))) (bnd (F_s_CellText (x.2.1.1,
 x.2.1.2)) (fun z5=>(bnd (F_s_CellText (x.2.2.1.1,x.2.2.1.2)) (fun z6=>(bnd (F_s_l9Old (x.1,((x.2.1.1,x.2.1.2),
 ((x.2.2.1.1,x.2.2.1.2),(x.2.2.2.1,x.2.2.2.2))))) (fun z7=>(cnd z7 (bnd (F_s_l1In (x.2.1.1,(1,5))) (fun z8=>(cnd (bNot z8) (some false) (bnd (F_s_CellOk
 (x.2.1.1,x.2.1.2)) (fun z9=>(cnd (bNot z9) (some false) (bnd (F_s_l9New (x.1,((x.2.1.1,x.2.1.2),((x.2.2.1.1,x.2.2.1.2),(x.2.2.2.1,x.2.2.2.2))))) (fun z10=>(cnd z10 (cnd (iNe x.2.2.1.1 0) (some false) (cnd (bNot z6.2) (some false) (bnd (F_s_l9Old (x.1,((x.2.1.1,x.2.1.2),((x.2.2.1.1,x.2.2.1.2),(x.2.2.2.1,x.2.2.2.2)))))
 (fun z11=>(cnd z11 (cnd (bNot z5.2) (cnd (bNot x.2.2.2.2) (some false) (bnd (F_s_l9New (x.1,((x.2.1.1,x.2.1.2),((x.2.2.1.1,x.2.2.1.2),(x.2.2.2.1,x.2.2.2.2)))))
 (fun z12=>(cnd z12 (some false) (cnd (iNe x.2.2.2.1 3) (some true) (bnd (F_s_SameText ((x.2.1.1,x.2.1.2),(x.2.2.1.1,x.2.2.1.2))) (fun z13=>(some
 z13)))))))) (cnd (iNe x.2.2.2.1 3) (some true) (bnd (F_s_SameText ((x.2.1.1,x.2.1.2),(x.2.2.1.1,x.2.2.1.2))) (fun z12=>(some z12))))) (cnd (iNe x.2.2.2.1 3) (some
 true) (bnd (F_s_SameText ((x.2.1.1,x.2.1.2),(x.2.2.1.1,x.2.2.1.2))) (fun z12=>(some z12))))))))) (bnd (F_s_l9Old (x.1,((x.2.1.1,x.2.1.2),((x.2.2.1.1,x.2.2.1.2),
 (x.2.2.2.1,x.2.2.2.2))))) (fun z11=>(cnd z11 (cnd (bNot z5.2) (cnd (bNot x.2.2.2.2) (some false) (bnd (F_s_l9New (x.1,((x.2.1.1,x.2.1.2),((x.2.2.1.1,x.2.2.1.2),
 (x.2.2.2.1,x.2.2.2.2))))) (fun z12=>(cnd z12 (some false) (cnd (iNe x.2.2.2.1 3) (some true) (bnd (F_s_SameText ((x.2.1.1,x.2.1.2),(x.2.2.1.1,x.2.2.1.2))) (fun
 z13=>(some z13)))))))) (cnd (iNe x.2.2.2.1 3) (some true) (bnd (F_s_SameText ((x.2.1.1,x.2.1.2),(x.2.2.1.1,x.2.2.1.2))) (fun z12=>(some z12))))) (cnd
 (iNe x.2.2.2.1 3) (some true) (bnd (F_s_SameText ((x.2.1.1,x.2.1.2),(x.2.2.1.1,x.2.2.1.2))) (fun z12=>(some z12)))))))))))))))) (bnd (F_s_l9New (x.1,((x.2.1.1,
 x.2.1.2),((x.2.2.1.1,x.2.2.1.2),(x.2.2.2.1,x.2.2.2.2))))) (fun z8=>(cnd z8 (cnd (iNe x.2.2.1.1 0) (some false) (cnd (bNot z6.2) (some false) (bnd (F_s_l9Old (x.1,
 ((x.2.1.1,x.2.1.2),((x.2.2.1.1,x.2.2.1.2),(x.2.2.2.1,x.2.2.2.2))))) (fun z9=>(cnd z9 (cnd (bNot z5.2) (cnd (bNot x.2.2.2.2) (some false) (bnd (F_s_l9New (x.1,
 ((x.2.1.1,x.2.1.2),((x.2.2.1.1,x.2.2.1.2),(x.2.2.2.1,x.2.2.2.2))))) (fun z10=>(cnd z10 (some false) (cnd (iNe x.2.2.2.1 3) (some true) (bnd (F_s_SameText
 ((x.2.1.1,x.2.1.2),(x.2.2.1.1,x.2.2.1.2))) (fun z11=>(some z11)))))))) (cnd (iNe x.2.2.2.1 3) (some true) (bnd (F_s_SameText ((x.2.1.1,x.2.1.2),(x.2.2.1.1,
 x.2.2.1.2))) (fun z10=>(some z10))))) (cnd (iNe x.2.2.2.1 3) (some true) (bnd (F_s_SameText ((x.2.1.1,x.2.1.2),(x.2.2.1.1,x.2.2.1.2))) (fun z10=>(some
 z10))))))))) (bnd (F_s_l9Old (x.1,((x.2.1.1,x.2.1.2),((x.2.2.1.1,x.2.2.1.2),(x.2.2.2.1,x.2.2.2.2))))) (fun z9=>(cnd z9 (cnd (bNot z5.2) (cnd (bNot x.2.2.2.2)
 (some false) (bnd (F_s_l9New (x.1,((x.2.1.1,x.2.1.2),((x.2.2.1.1,x.2.2.1.2),(x.2.2.2.1,x.2.2.2.2))))) (fun z10=>(cnd z10 (some false) (cnd (iNe x.2.2.2.1 3)
 (some true) (bnd (F_s_SameText ((x.2.1.1,x.2.1.2),(x.2.2.1.1,x.2.2.1.2))) (fun z11=>(some z11)))))))) (cnd (iNe x.2.2.2.1 3) (some true) (bnd (F_s_SameText
 ((x.2.1.1,x.2.1.2),(x.2.2.1.1,x.2.2.1.2))) (fun z10=>(some z10))))) (cnd (iNe x.2.2.2.1 3) (some true) (bnd (F_s_SameText ((x.2.1.1,x.2.1.2),(x.2.2.1.1,
 x.2.2.1.2))) (fun z10=>(some z10)))))))))))))))))))))))))))))
def F_s_l1Word (x:Int):(Option Bool):=(bnd (F_s_l1In (x,(0,65535))) (fun z1=>(some z1)))
def F_s_l11Who (x:(Int×(((List UInt8)×((Int×(List UInt8))×((Int×(List UInt8))×(Int×Bool))))×((List UInt8)×(Int×(Int×(Int×Int))))))) :
 (Option Bool):=(cnd (iEq x.2.2.2.2.1 0) (cnd (iEq x.2.2.2.2.2.1 0) (cnd (iEq x.2.2.2.2.2.2 0) (some (iNe x.1 4)) (some false)) (some false)) (bnd (F_s_l1In (x.2.2.2.2.1,(1,
 9))) (fun z1=>(cnd z1 (bnd (F_s_l1Word x.2.2.2.2.2.1) (fun z2=>(cnd z2 (bnd (F_s_l1In (x.2.2.2.2.2.2,(0,6))) (fun z3=>(some z3))) (some
 false)))) (some false)))))
def F_s_RecOk (x:(Int×(((List UInt8)×((Int×(List UInt8))×((Int×(List UInt8))×(Int×Bool))))×((List UInt8)×(Int×(Int×(Int×Int))))))):(Option
 Bool):=(bnd (F_s_l11NoRow (x.2.1.1,((x.2.1.2.1.1,x.2.1.2.1.2),((x.2.1.2.2.1.1,x.2.1.2.2.1.2),(x.2.1.2.2.2.1,x.2.1.2.2.2.2))))) (fun z1=>(joinX (cnd (iEq x.1 1)
 (bnd (F_s_RowOk (x.2.1.1,((x.2.1.2.1.1,x.2.1.2.1.2),((x.2.1.2.2.1.1,x.2.1.2.2.1.2),(x.2.1.2.2.2.1,x.2.1.2.2.2.2))))) (fun z2=>(some (.inl (z2,((sEq x.2.2.1 []),
 (iEq x.2.2.2.1 0))))))) (cnd (iEq x.1 2) (bnd (F_s_NameOk x.2.2.1) (fun z2=>(some (.inl (z1,(z2,(iEq x.2.2.2.1 0))))))) (cnd (iEq x.1 3) (bnd (F_s_l1In (x.2.2.2.1,
 (0,7))) (fun z2=>(some (.inl (z1,((sEq x.2.2.1 []),z2)))))) (some (.inl (z1,((sEq x.2.2.1 []),(iEq x.2.2.2.1 0)))))))) (fun (z2:(Bool×(Bool×Bool)))=>(bnd
 (F_s_l1In (x.1,(1,4))) (fun z3=>(cnd z3 (cnd z2.1 (cnd z2.2.1 (cnd z2.2.2 (bnd (F_s_l11Who (x.1,((x.2.1.1,((x.2.1.2.1.1,x.2.1.2.1.2),((x.2.1.2.2.1.1,
 x.2.1.2.2.1.2),(x.2.1.2.2.2.1,x.2.1.2.2.2.2)))),(x.2.2.1,(x.2.2.2.1,(x.2.2.2.2.1,(x.2.2.2.2.2.1,x.2.2.2.2.2.2))))))) (fun z4=>(some z4))) (some false)) (some
 false)) (some false)) (some false))))))))
def F_s_PutW (x:((List UInt8)×Int)):(Option (List UInt8)):=(chk (room (0+x.1.length) 1) (chk (room ((lApp [] x.1).length+2) 1) (some (lApp (lApp [] x.1)
 [(u8 (iConv .u8 (iShr .i64 x.2 8))),(u8 (iConv .u8 x.2))]))))
def F_s_PutText (x:((List UInt8)×(List UInt8))):(Option (List UInt8)):=(cnd (iGt (lLen x.2) 60) (chk (room (0+x.1.length) 1) (some (lApp [] x.1))) (bnd
 (F_s_PutW (x.1,(lLen x.2))) (fun z1=>(chk (room (z1.length+x.2.length) 1) (some (lApp z1 x.2))))))
def F_s_l11Bit (x:Bool):(Option UInt8):=(cnd x (some (u8 1)) (some (u8 0)))
def F_s_l11Cell (x:((List UInt8)×(Int×(List UInt8)))):(Option (List UInt8)):=(chk (room (x.1.length+1) 1) (bnd (F_s_PutText ((lApp x.1 [(u8 (iConv .u8
 x.2.1))]),x.2.2)) (fun z1=>(some z1))))
def F_s_PutRow (x:((List UInt8)×((List UInt8)×((Int×(List UInt8))×((Int×(List UInt8))×(Int×Bool)))))):(Option (List UInt8)):=(chk (room (0 +
 x.1.length) 1) (bnd (F_s_RowOk (x.2.1,((x.2.2.1.1,x.2.2.1.2),((x.2.2.2.1.1,x.2.2.2.1.2),(x.2.2.2.2.1,x.2.2.2.2.2))))) (fun z1=>(cnd (bNot z1) (some (lApp []
 x.1)) (bnd (F_s_PutText ((lApp [] x.1),x.2.1)) (fun z2=>(bnd (F_s_l11Bit x.2.2.2.2.2) (fun z3=>(chk (room (z2.length+2) 1) (joinX (bnd
 (F_s_l9Old (x.2.1,((x.2.2.1.1,x.2.2.1.2),((x.2.2.2.1.1,x.2.2.2.1.2),(x.2.2.2.2.1,x.2.2.2.2.2))))) (fun z4=>(cnd z4 (bnd (F_s_l11Cell ((lApp z2 [(u8 (iConv .u8
 x.2.2.2.2.1)),z3]),(x.2.2.1.1,x.2.2.1.2))) (fun z5=>(some (.inl z5)))) (some (.inl (lApp z2 [(u8 (iConv .u8 x.2.2.2.2.1)),z3])))))) (fun (z4:(List
 UInt8))=>(joinX (bnd (F_s_l9New (x.2.1,((x.2.2.1.1,x.2.2.1.2),((x.2.2.2.1.1,x.2.2.2.1.2),(x.2.2.2.2.1,x.2.2.2.2.2))))) (fun z5=>(cnd z5 (bnd (F_s_l11Cell (z4,
 (x.2.2.2.1.1,x.2.2.2.1.2))) (fun z6=>(some (.inl z6)))) (some (.inl z4))))) (fun (z5:(List UInt8))=>(some z5))))))))))))))
def S_s_Sum_0:(Int×Int)->Option ((Int×Int) ⊕ (Int ⊕ ((Int×Int) ⊕ (Int ⊕ Int)))):=fun (z3:(Int×Int))=>(cnd (iLt z3.2 8) (joinX (cnd (iGt (iShl .i64
 z3.1 1) 65535) (some (.inl (iXor .i64 (iShl .i64 z3.1 1) 69665))) (some (.inl (iShl .i64 z3.1 1)))) (fun (z4:Int)=>(some (.inl (z4,(iAdd .i64 z3.2 1)))))) (some (.inr (.inl
 z3.1))))
def S_s_Sum_1 (x:(List UInt8)):(Int×Int)->Option ((Int×Int) ⊕ (Int ⊕ Int)):=fun (z1:(Int×Int))=>(cnd (iLt z1.2 (lLen x)) (joinX (bnd (idx x z1.2)
 (fun z2=>(loopX (S_s_Sum_0) ((iXor .i64 z1.1 (iShl .i64 (iConv .i64 (y2i z2)) 8)),0)))) (fun (z2:Int)=>(some (.inl (z2,(iAdd .i64 z1.2 1)))))) (some (.inr (.inl
 z1.1))))
def F_s_Sum (x:(List UInt8)):(Option Int):=(joinX (loopX (S_s_Sum_1 x) (65535,0)) (fun (z1:Int)=>(some (iAnd .i64 z1 65535))))
def F_s_PutRec (x:(Int×(Int×(Int×(((List UInt8)×((Int×(List UInt8))×((Int×(List UInt8))×(Int×Bool))))×((List UInt8)×(Int×(Int×(Int ×
 Int))))))))):(Option (List UInt8)):=(bnd (F_s_RecOk (x.2.2.1,((x.2.2.2.1.1,((x.2.2.2.1.2.1.1,x.2.2.2.1.2.1.2),((x.2.2.2.1.2.2.1.1,x.2.2.2.1.2.2.1.2),(x.2.2.2.1.2.2.2.1,
 x.2.2.2.1.2.2.2.2)))),(x.2.2.2.2.1,(x.2.2.2.2.2.1,(x.2.2.2.2.2.2.1,(x.2.2.2.2.2.2.2.1,x.2.2.2.2.2.2.2.2))))))) (fun z1=>(cnd (bNot z1) (some []) (bnd (F_s_l1Word
 x.1) (fun z2=>(cnd (bNot z2) (some []) (bnd (F_s_l1Word x.2.1) (fun z3=>(cnd (bNot z3) (some []) (alt2 (bnd (F_s_PutW ([],x.1)) (fun z4 =>
 (bnd (F_s_PutW (z4,x.2.1)) (fun z5=>(chk (room (z5.length+1) 1) (joinX (cnd (iEq x.2.2.1 1) (bnd (F_s_PutRow ((lApp z5 [(u8 (iConv .u8 x.2.2.1))]),
 (x.2.2.2.1.1,((x.2.2.2.1.2.1.1,x.2.2.2.1.2.1.2),((x.2.2.2.1.2.2.1.1,x.2.2.2.1.2.2.1.2),(x.2.2.2.1.2.2.2.1,x.2.2.2.1.2.2.2.2)))))) (fun z6=>(some (.inl
 z6)))) (cnd (iEq x.2.2.1 2) (bnd (F_s_PutText ((lApp z5 [(u8 (iConv .u8 x.2.2.1))]),x.2.2.2.2.1)) (fun z6=>(some (.inl z6)))) (cnd (iEq x.2.2.1 3) (chk (room
 ((lApp z5 [(u8 (iConv .u8 x.2.2.1))]).length+1) 1) (some (.inl (lApp (lApp z5 [(u8 (iConv .u8 x.2.2.1))]) [(u8 (iConv .u8 x.2.2.2.2.2.1))])))) (some (.inl (lApp z5 [(u8 (iConv
 .u8 x.2.2.1))])))))) (fun (z6:(List UInt8))=>(chk (room (z6.length+2) 1) (bnd (F_s_PutW ((lApp z6 [(u8 (iConv .u8 x.2.2.2.2.2.2.1)),(u8 (iConv .u8 x.2.2.2.2.2.2.2.2))]),
 x.2.2.2.2.2.2.2.1)) (fun z7=>(bnd (F_s_Sum z7) (fun z8=>(bnd (F_s_PutW (z7,z8)) (fun z9=>(some z9))))))))))))))) (alt2 (bnd
 (F_s_PutW ([],x.1)) (fun z4=>(bnd (F_s_PutW (z4,x.2.1)) (fun z5=>(chk (room (z5.length+1) 1) (joinX (cnd (iEq x.2.2.1 1) (bnd
 (F_s_PutRow ((lApp z5 [(u8 (iConv .u8 x.2.2.1))]),(x.2.2.2.1.1,((x.2.2.2.1.2.1.1,x.2.2.2.1.2.1.2),((x.2.2.2.1.2.2.1.1,x.2.2.2.1.2.2.1.2),(x.2.2.2.1.2.2.2.1,
 x.2.2.2.1.2.2.2.2)))))) (fun z6=>(some (.inl z6)))) (cnd (iEq x.2.2.1 2) (bnd (F_s_PutText ((lApp z5 [(u8 (iConv .u8 x.2.2.1))]),x.2.2.2.2.1)) (fun z6=>(some (.inl z6)))) (cnd (iEq x.2.2.1 3) (chk (room ((lApp z5 [(u8 (iConv .u8 x.2.2.1))]).length+1) 1) (some (.inl (lApp (lApp z5 [(u8 (iConv .u8 x.2.2.1))])
 [(u8 (iConv .u8 x.2.2.2.2.2.1))])))) (some (.inl (lApp z5 [(u8 (iConv .u8 x.2.2.1))])))))) (fun (z6:(List UInt8))=>(chk (room (z6.length+2) 1) (bnd (F_s_PutW ((lApp z6 [(u8
 (iConv .u8 x.2.2.2.2.2.2.1)),(u8 (iConv .u8 x.2.2.2.2.2.2.2.2))]),x.2.2.2.2.2.2.2.1)) (fun z7=>(bnd (F_s_Sum z7) (fun z8=>(bnd (F_s_PutW (z7,z8))
 (fun z9=>(some z9))))))))))))))) (alt2 (bnd (F_s_PutW ([],x.1)) (fun z4=>(bnd (F_s_PutW (z4,x.2.1)) (fun z5=>(chk (room
 (z5.length+1) 1) (joinX (cnd (iEq x.2.2.1 1) (bnd (F_s_PutRow ((lApp z5 [(u8 (iConv .u8 x.2.2.1))]),(x.2.2.2.1.1,((x.2.2.2.1.2.1.1,x.2.2.2.1.2.1.2),((x.2.2.2.1.2.2.1.1,
 x.2.2.2.1.2.2.1.2),(x.2.2.2.1.2.2.2.1,x.2.2.2.1.2.2.2.2)))))) (fun z6=>(some (.inl z6)))) (cnd (iEq x.2.2.1 2) (bnd (F_s_PutText ((lApp z5 [(u8 (iConv .u8
 x.2.2.1))]),x.2.2.2.2.1)) (fun z6=>(some (.inl z6)))) (cnd (iEq x.2.2.1 3) (chk (room ((lApp z5 [(u8 (iConv .u8 x.2.2.1))]).length+1) 1) (some (.inl (lApp
 (lApp z5 [(u8 (iConv .u8 x.2.2.1))]) [(u8 (iConv .u8 x.2.2.2.2.2.1))])))) (some (.inl (lApp z5 [(u8 (iConv .u8 x.2.2.1))])))))) (fun (z6:(List UInt8))=>(chk (room (z6.length
 + 2) 1) (bnd (F_s_PutW ((lApp z6 [(u8 (iConv .u8 x.2.2.2.2.2.2.1)),(u8 (iConv .u8 x.2.2.2.2.2.2.2.2))]),x.2.2.2.2.2.2.2.1)) (fun z7=>(bnd (F_s_Sum z7) (fun
 z8=>(bnd (F_s_PutW (z7,z8)) (fun z9=>(some z9))))))))))))))) (bnd (F_s_PutW ([],x.1)) (fun z4=>(bnd (F_s_PutW (z4,x.2.1)) (fun
 z5=>(chk (room (z5.length+1) 1) (joinX (cnd (iEq x.2.2.1 1) (bnd (F_s_PutRow ((lApp z5 [(u8 (iConv .u8 x.2.2.1))]),(x.2.2.2.1.1,((x.2.2.2.1.2.1.1,
 x.2.2.2.1.2.1.2),((x.2.2.2.1.2.2.1.1,x.2.2.2.1.2.2.1.2),(x.2.2.2.1.2.2.2.1,x.2.2.2.1.2.2.2.2)))))) (fun z6=>(some (.inl z6)))) (cnd (iEq x.2.2.1 2) (bnd
 (F_s_PutText ((lApp z5 [(u8 (iConv .u8 x.2.2.1))]),x.2.2.2.2.1)) (fun z6=>(some (.inl z6)))) (cnd (iEq x.2.2.1 3) (chk (room ((lApp z5 [(u8 (iConv .u8
 x.2.2.1))]).length+1) 1) (some (.inl (lApp (lApp z5 [(u8 (iConv .u8 x.2.2.1))]) [(u8 (iConv .u8 x.2.2.2.2.2.1))])))) (some (.inl (lApp z5 [(u8 (iConv .u8 x.2.2.1))])))))) (fun
 (z6:(List UInt8))=>(chk (room (z6.length+2) 1) (bnd (F_s_PutW ((lApp z6 [(u8 (iConv .u8 x.2.2.2.2.2.2.1)),(u8 (iConv .u8 x.2.2.2.2.2.2.2.2))]),x.2.2.2.2.2.2.2.1)) (fun
 z7=>(bnd (F_s_Sum z7) (fun z8=>(bnd (F_s_PutW (z7,z8)) (fun z9=>(some z9)))))))))))))))))))))))))))
def F_s_l10Op (x:((List (List UInt8))×((List (Int×(List UInt8)))×(Int×Bool)))):(Option (Bool×(Int×Bool))):=(cnd (iEq x.2.2.1 0) (some (false,((-1),
 true))) (cnd (iGt x.2.2.1 0) (some (true,((iSub .i64 x.2.2.1 1),x.2.2.2))) (some (true,(x.2.2.1,x.2.2.2)))))
def F_s_l10Write (x:(((List (List UInt8))×((List (Int×(List UInt8)))×(Int×Bool)))×(Int×(List UInt8)))):(Option ((List (Int×(List UInt8)))×(Int ×
 Bool))):=(cnd x.1.2.2.2 (some (x.1.2.1,(x.1.2.2.1,x.1.2.2.2))) (bnd (F_s_l1In (x.2.1,(0,(iSub .i64 (lLen x.1.1) 1)))) (fun z1=>(cnd (bNot z1) (some (x.1.2.1,
 (x.1.2.2.1,x.1.2.2.2))) (cnd (iGt (lLen x.2.2) 120) (some (x.1.2.1,(x.1.2.2.1,x.1.2.2.2))) (cnd (iGe (lLen x.1.2.1) 40) (some (x.1.2.1,(x.1.2.2.1,x.1.2.2.2))) (bnd
 (F_s_l10Op (x.1.1,(x.1.2.1,(x.1.2.2.1,x.1.2.2.2)))) (fun z2=>(cnd (bNot z2.1) (some (x.1.2.1,(z2.2.1,z2.2.2))) (chk (room (0+x.2.2.length) 1)
 (chk (room (x.1.2.1.length+1) 32) (some ((lApp x.1.2.1 [(x.2.1,(lApp [] x.2.2))]),(z2.2.1,z2.2.2))))))))))))))
def F_s_l10Flush (x:(List (List UInt8))×(List (Int×(List UInt8)))×Int×Bool):Option ((List (List UInt8))×(List (Int×(List UInt8)))×Int×Bool):=chk (decide ((-1<=x.2.2.1/\x.2.2.1<=1000)/\x.1.length<2 ^ 40/\x.2.1.length<2 ^ 40/\∀ w∈x.2.1,0<=w.1/\w.1<=(x.1.length:Int) - 1)) (some (flC x.1 x.2.1 x.2.2.1 x.2.2.2))
def F_s_HeadOf (x:(Int×Int)):(Option (List UInt8)):=(bnd (F_s_l1In (x.1,(1,60000))) (fun z1=>(cnd (bNot z1) (some []) (bnd (F_s_l1In (x.2,(0,
 30))) (fun z2=>(cnd (bNot z2) (some []) (bnd (F_s_PutW ([],x.1)) (fun z3=>(bnd (F_s_PutW (z3,x.2)) (fun z4=>(bnd (F_s_Sum z4)
 (fun z5=>(bnd (F_s_PutW (z4,z5)) (fun z6=>(some z6)))))))))))))))
def S_s_l13Lay_0 (x:((((List (List UInt8))×((List (Int×(List UInt8)))×(Int×Bool)))×(((List ((List UInt8)×((Int×(List UInt8))×((Int×(List UInt8)) ×
 (Int×Bool)))))×(Int×(List (Int×(Int×Int)))))×(Int×Int)))×Int)) (z1:(List (Int×(((List UInt8)×((Int×(List UInt8))×((Int×(List UInt8))×(Int×Bool))))
 × ((List UInt8)×(Int×(Int×(Int×Int)))))))):((List (Int×(List UInt8)))×(Int×(Bool×Int)))->Option (((List (Int×(List UInt8)))×(Int×(Bool×Int))) ⊕ (((List
 (Int×(List UInt8)))×(Int×Bool)) ⊕ ((List (List UInt8))×((List (Int×(List UInt8)))×(Int×(Bool×(Int×(Int×Int)))))))):=fun (z2:((List (Int×(List UInt8))) ×
 (Int×(Bool×Int))))=>(cnd (iLt z2.2.2.2 (lLen z1)) (bnd (F_s_l13At (x.2,z2.2.2.2)) (fun z3=>(bnd (idx z1 z2.2.2.2) (fun z4=>(bnd (F_s_PutRec (x.2,(z2.2.2.2,(z4.1,((z4.2.1.1,((z4.2.1.2.1.1,
 z4.2.1.2.1.2),((z4.2.1.2.2.1.1,z4.2.1.2.2.1.2),(z4.2.1.2.2.2.1,z4.2.1.2.2.2.2)))),(z4.2.2.1,(z4.2.2.2.1,(z4.2.2.2.2.1,(z4.2.2.2.2.2.1,z4.2.2.2.2.2.2))))))))) (fun z5=>(bnd (F_s_l10Write ((x.1.1.1,(z2.1,(z2.2.1,z2.2.2.1))),(z3,z5))) (fun z6=>(some (.inl (z6.1,(z6.2.1,
 (z6.2.2,(iAdd .i64 z2.2.2.2 1)))))))))))))) (some (.inr (.inl (z2.1,(z2.2.1,z2.2.2.1))))))
def F_s_l13Lay (x:((((List (List UInt8))×((List (Int×(List UInt8)))×(Int×Bool)))×(((List ((List UInt8)×((Int×(List UInt8))×((Int×(List UInt8)) ×
 (Int×Bool)))))×(Int×(List (Int×(Int×Int)))))×(Int×Int)))×Int)):(Option ((List (List UInt8))×((List (Int×(List UInt8)))×(Int×(Bool×(Int×(Int ×
 Int))))))):=(bnd (F_s_RecsOf (x.1.2.1.1,(x.1.2.1.2.1,x.1.2.1.2.2))) (fun z1=>(joinX (loopX (S_s_l13Lay_0 x z1) (x.1.1.2.1,(x.1.1.2.2.1,(x.1.1.2.2.2,0)))) (fun (z2:((List (Int×(List UInt8)))×(Int
 × Bool)))=>(bnd (F_s_l10Flush (x.1.1.1,(z2.1,(z2.2.1,z2.2.2)))) (fun z3=>(bnd (F_s_HeadOf (x.2,
 (lLen z1))) (fun z4=>(bnd (F_s_l10Write ((z3.1,(z3.2.1,(z3.2.2.1,z3.2.2.2))),((iRem x.2 2),z4))) (fun z5
 => (bnd (F_s_l10Flush (z3.1,(z5.1,(z5.2.1,z5.2.2)))) (fun z6=>(cnd (bNot z6.2.2.2) (some (z6.1,
 (z6.2.1,(z6.2.2.1,(z6.2.2.2,(x.1.2.1.2.1,(x.2,(lLen z1)))))))) (some (z6.1,(z6.2.1,(z6.2.2.1,(z6.2.2.2,(x.1.2.1.2.1,(x.1.2.2.1,x.1.2.2.2))))))))))))))))))))
def F_s_Format (x:Unit):(Option (((List (List UInt8))×((List (Int×(List UInt8)))×(Int×Bool)))×(((List ((List UInt8)×((Int×(List UInt8))×((Int ×
 (List UInt8))×(Int×Bool)))))×(Int×(List (Int×(Int×Int)))))×(Int×Int)))):=(bnd (F_s_DevNew 62) (fun z1=>(bnd (F_s_l13Lay (((z1.1,(z1.2.1,(z1.2.2.1,z1.2.2.2))),(([],(0,[])),(0,0))),1)) (fun z2=>(some ((z2.1,(z2.2.1,(z2.2.2.1,z2.2.2.2.1))),(([],(z2.2.2.2.2.1,[])),(z2.2.2.2.2.2.1,z2.2.2.2.2.2.2))))))))
def S_i_joined_0 (x:(List (List UInt8))):((List UInt8)×Int)->Option (((List UInt8)×Int) ⊕ ((List UInt8) ⊕ (List UInt8))):=fun (z1:((List UInt8)×Int))
 => (cnd (iLt z1.2 (lLen x)) (bnd (idx x z1.2) (fun z2=>(chk (room (z1.1.length+z2.length) 1) (some (.inl ((lApp z1.1 z2),(iAdd .i64 z1.2 1))))))) (some
 (.inr (.inl z1.1))))
def F_i_joined (x:(List (List UInt8))):(Option (List UInt8)):=(joinX (loopX (S_i_joined_0 x) ([],0)) (fun (z1:(List UInt8))=>(some z1)))
def F_i_copyCell (x:(Int×(List UInt8))):(Option (Int×(List UInt8))):=(bnd (F_i_joined [x.2]) (fun z1=>(some (x.1,z1))))
def F_i_copyRow (x:((List UInt8)×((Int×(List UInt8))×((Int×(List UInt8))×(Int×Bool))))):(Option ((List UInt8)×((Int×(List UInt8))×((Int×(List
 UInt8))×(Int×Bool))))):=(bnd (F_i_copyCell (x.2.1.1,x.2.1.2)) (fun z1=>(bnd (F_i_copyCell (x.2.2.1.1,x.2.2.1.2)) (fun z2=>(some (x.1,((z1.1,z1.2),((z2.1,z2.2),(x.2.2.2.1,x.2.2.2.2)))))))))
def S_i_RecsOf_0 (x:((List ((List UInt8)×((Int×(List UInt8))×((Int×(List UInt8))×(Int×Bool)))))×(Int×(List (Int×(Int×Int)))))):((List (Int ×
 (((List UInt8)×((Int×(List UInt8))×((Int×(List UInt8))×(Int×Bool))))×((List UInt8)×(Int×(Int×(Int×Int)))))))×Int)->Option (((List (Int×(((List UInt8) ×
 ((Int×(List UInt8))×((Int×(List UInt8))×(Int×Bool))))×((List UInt8)×(Int×(Int×(Int×Int)))))))×Int) ⊕ ((List (Int×(((List UInt8)×((Int×(List UInt8)) ×
 ((Int×(List UInt8))×(Int×Bool))))×((List UInt8)×(Int×(Int×(Int×Int))))))) ⊕ (List (Int×(((List UInt8)×((Int×(List UInt8))×((Int×(List UInt8))×(Int ×
 Bool))))×((List UInt8)×(Int×(Int×(Int×Int))))))))):=fun (z1:((List (Int×(((List UInt8)×((Int×(List UInt8))×((Int×(List UInt8))×(Int×Bool))))×((List
 UInt8)×(Int×(Int×(Int×Int)))))))×Int))=>(cnd (iLt z1.2 (lLen x.1)) (bnd (idx x.1 z1.2) (fun z2=>(bnd (F_i_copyRow (z2.1,((z2.2.1.1,z2.2.1.2),((z2.2.2.1.1,z2.2.2.1.2),(z2.2.2.2.1,z2.2.2.2.2))))) (fun z3=>(chk (room (z1.1.length+1) 152) (some (.inl ((lApp z1.1 [(1,((z3.1,((z3.2.1.1,z3.2.1.2),((z3.2.2.1.1,z3.2.2.1.2),(z3.2.2.2.1,
 z3.2.2.2.2)))),([],(0,(0,(0,0))))))]),(iAdd .i64 z1.2 1))))))))) (some (.inr (.inl z1.1))))
def S_i_RecsOf_1 (x:((List ((List UInt8)×((Int×(List UInt8))×((Int×(List UInt8))×(Int×Bool)))))×(Int×(List (Int×(Int×Int)))))):((List (Int ×
 (((List UInt8)×((Int×(List UInt8))×((Int×(List UInt8))×(Int×Bool))))×((List UInt8)×(Int×(Int×(Int×Int)))))))×Int)->Option (((List (Int×(((List UInt8) ×
 ((Int×(List UInt8))×((Int×(List UInt8))×(Int×Bool))))×((List UInt8)×(Int×(Int×(Int×Int)))))))×Int) ⊕ ((List (Int×(((List UInt8)×((Int×(List UInt8)) ×
 ((Int×(List UInt8))×(Int×Bool))))×((List UInt8)×(Int×(Int×(Int×Int))))))) ⊕ (List (Int×(((List UInt8)×((Int×(List UInt8))×((Int×(List UInt8))×(Int ×
 Bool))))×((List UInt8)×(Int×(Int×(Int×Int))))))))):=fun (z2:((List (Int×(((List UInt8)×((Int×(List UInt8))×((Int×(List UInt8))×(Int×Bool))))×((List
 UInt8)×(Int×(Int×(Int×Int)))))))×Int))=>(cnd (iLt z2.2 (lLen x.2.2)) (bnd (idx x.2.2 z2.2) (fun z3=>(chk (room (z2.1.length+1) 152) (some
 (.inl ((lApp z2.1 [(4,(([],((0,[]),((0,[]),(0,false)))),([],(0,(z3.1,(z3.2.1,z3.2.2))))))]),(iAdd .i64 z2.2 1))))))) (some (.inr (.inl z2.1))))
def F_i_RecsOf (x:((List ((List UInt8)×((Int×(List UInt8))×((Int×(List UInt8))×(Int×Bool)))))×(Int×(List (Int×(Int×Int)))))):(Option (List
 (Int×(((List UInt8)×((Int×(List UInt8))×((Int×(List UInt8))×(Int×Bool))))×((List UInt8)×(Int×(Int×(Int×Int)))))))):=(joinX (loopX (S_i_RecsOf_0 x) ([(3,
 (([],((0,[]),((0,[]),(0,false)))),([],(x.2.1,(0,(0,0))))))],0)) (fun (z1:(List (Int×(((List UInt8)×((Int×(List UInt8))×((Int×(List UInt8))×(Int ×
 Bool))))×((List UInt8)×(Int×(Int×(Int×Int))))))))=>(joinX (loopX (S_i_RecsOf_1 x) (z1,0)) (fun (z2:(List (Int×(((List UInt8)×((Int×(List UInt8))×((Int ×
 (List UInt8))×(Int×Bool))))×((List UInt8)×(Int×(Int×(Int×Int))))))))=>(some z2)))))
def F_i_within (x:(Int×(Int×Int))):(Option Bool):=(cnd (iGe x.1 x.2.1) (some (iLe x.1 x.2.2)) (some false))
def F_i_DevNew (x:Int):(Option ((List (List UInt8))×((List (Int×(List UInt8)))×(Int×Bool)))):=(bnd (F_i_within (x,(1,64))) (fun z1=>(cnd
 (bNot z1) (some ([],([],(0,false)))) (chk (iEq x x) (chk (mkOk x 24) (some ((lRep (nOf x) []),([],((-1),false)))))))))
def F_i_sectorOf (x:(Int×Int)):(Option Int):=(some (iAdd .i64 (iAdd .i64 2 (iMul .i64 30 (iRem x.1 2))) x.2))
def F_i_sameCell (x:((Int×(List UInt8))×(Int×(List UInt8)))):(Option Bool):=(cnd (iEq x.1.1 x.2.1) (some (sEq x.1.2 x.2.2)) (some false))
def F_i_sameRow (x:(((List UInt8)×((Int×(List UInt8))×((Int×(List UInt8))×(Int×Bool))))×((List UInt8)×((Int×(List UInt8))×((Int×(List UInt8))
 × (Int×Bool)))))):(Option Bool):=(cnd (sEq x.1.1 x.2.1) (bnd (F_i_sameCell ((x.1.2.1.1,x.1.2.1.2),(x.2.2.1.1,x.2.2.1.2))) (fun z1=>(cnd z1 (bnd (F_i_sameCell
 ((x.1.2.2.1.1,x.1.2.2.1.2),(x.2.2.2.1.1,x.2.2.2.1.2))) (fun z2=>(cnd z2 (cnd (iEq x.1.2.2.2.1 x.2.2.2.2.1) (some (bEq x.1.2.2.2.2 x.2.2.2.2.2)) (some false)) (some
 false)))) (some false)))) (some false))
def S_i_NameOk_0 (x:(List UInt8)):(Int)->Option ((Int) ⊕ (Unit ⊕ Bool)):=fun (z1:Int)=>(cnd (iLt z1 (lLen x)) (bnd (idx x z1) (fun z2=>(bnd
 (F_i_within ((iConv .i64 (y2i z2)),(97,122))) (fun z3=>(cnd (bNot z3) (bnd (idx x z1) (fun z4=>(bnd (F_i_within ((iConv .i64 (y2i z4)),(48,57))) (fun
 z5=>(cnd (bNot z5) (some (.inr (.inr false))) (some (.inl (iAdd .i64 z1 1)))))))) (some (.inl (iAdd .i64 z1 1)))))))) (some (.inr (.inl ()))))
def F_i_NameOk (x:(List UInt8)):(Option Bool):=(joinX (loopX (S_i_NameOk_0 x) 0) (fun (z1:Unit)=>(bnd (F_i_within ((lLen x),(1,6))) (fun z2 =>
 (some z2)))))
def F_i_isSet (x:Int):(Option Bool):=(bnd (F_i_within (x,(0,5))) (fun z1=>(some z1)))
def F_i_CellOk (x:(Int×(List UInt8))):(Option Bool):=(bnd (F_i_isSet x.1) (fun z1=>(cnd z1 (some (iLe (lLen x.2) 20)) (some false))))
def F_utf8_decodeRuneSlow (x:(List UInt8)):(Option (Int×Int)):=(cnd (iLt (lLen x) 1) (some (65533,0)) (bnd (idx x 0) (fun z1=>(chk (iLe 0 (y2i
 z1)) (chk (iLt (y2i z1) 256) (bnd (idx gFirst (Int.ofNat (0+((nOf (y2i z1))*1)))) (fun z2=>(cnd (iGe (y2i z2) (y2i (u8 240))) (bnd (idx x 0) (fun z3 =>
 (some ((iOr .i32 (iAndNot .i32 (iConv .i32 (y2i z3)) (iShr .i32 (iShl .i32 (iConv .i32 (y2i z2)) 31) 31)) (iAnd .i32 65533 (iShr .i32 (iShl .i32 (iConv .i32 (y2i z2)) 31) 31))),
 1)))) (chk (iLe 0 (y2i (u8 (iShr .u8 (y2i z2) 4)))) (chk (iLt (y2i (u8 (iShr .u8 (y2i z2) 4))) 16) (bnd (idx gAcc (Int.ofNat (0+((nOf (y2i (u8 (iShr .u8 (y2i z2) 4))))*2))))
 (fun z3=>(bnd (idx gAcc (Int.ofNat ((0+((nOf (y2i (u8 (iShr .u8 (y2i z2) 4))))*2))+1))) (fun z4=>(cnd (iLt (lLen x) (iConv .i64 (y2i (u8 (iAnd .u8
 (y2i z2) (y2i (u8 7))))))) (some (65533,1)) (bnd (idx x 1) (fun z5=>(cnd (iLt (y2i z5) (y2i z3)) (some (65533,1)) (cnd (iLt (y2i z4) (y2i z5)) (some (65533,1))
 (cnd (iLe (iConv .i64 (y2i (u8 (iAnd .u8 (y2i z2) (y2i (u8 7)))))) 2) (some ((iOr .i32 (iShl .i32 (iConv .i32 (y2i (u8 (iAnd .u8 (y2i z1) (y2i (u8 31)))))) 6) (iConv .i32 (y2i
 (u8 (iAnd .u8 (y2i z5) (y2i (u8 63))))))),2)) (bnd (idx x 2) (fun z6=>(cnd (iLt (y2i z6) (y2i (u8 128))) (some (65533,1)) (cnd (iLt (y2i (u8 191)) (y2i z6)) (some
 (65533,1)) (cnd (iLe (iConv .i64 (y2i (u8 (iAnd .u8 (y2i z2) (y2i (u8 7)))))) 3) (some ((iOr .i32 (iOr .i32 (iShl .i32 (iConv .i32 (y2i (u8 (iAnd .u8 (y2i z1) (y2i (u8 15))))))
 12) (iShl .i32 (iConv .i32 (y2i (u8 (iAnd .u8 (y2i z5) (y2i (u8 63)))))) 6)) (iConv .i32 (y2i (u8 (iAnd .u8 (y2i z6) (y2i (u8 63))))))),3)) (bnd (idx x 3) (fun z7 =>
 (cnd (iLt (y2i z7) (y2i (u8 128))) (some (65533,1)) (cnd (iLt (y2i (u8 191)) (y2i z7)) (some (65533,1)) (some ((iOr .i32 (iOr .i32 (iOr .i32 (iShl .i32 (iConv .i32 (y2i (u8
 (iAnd .u8 (y2i z1) (y2i (u8 7)))))) 18) (iShl .i32 (iConv .i32 (y2i (u8 (iAnd .u8 (y2i z5) (y2i (u8 63)))))) 12)) (iShl .i32 (iConv .i32 (y2i (u8 (iAnd .u8 (y2i z6) (y2i (u8
 63)))))) 6)) (iConv .i32 (y2i (u8 (iAnd .u8 (y2i z7) (y2i (u8 63))))))),4)))))))))))))))))))))))))))))))
def S_utf8_DecodeRune_0 (x:(List UInt8)):(Int)->Option ((Int) ⊕ (Unit ⊕ (Int×Int))):=fun (z1:Int)=>(cnd (iLt z1 (lLen x)) (bnd (idx x z1) (fun z2=>(cnd (iLt (y2i z2) (y2i (u8 128))) (some (.inr (.inr ((iConv .i32 (y2i z2)),1)))) (some (.inr (.inl ())))))) (some (.inr (.inl ()))))
def F_utf8_DecodeRune (x:(List UInt8)):(Option (Int×Int)):=(joinX (loopX (S_utf8_DecodeRune_0 x) 0) (fun (z1:Unit)=>(bnd (F_utf8_decodeRuneSlow x) (fun
 z2=>(some (z2.1,z2.2))))))
def F_i_GetSign (x:((List UInt8)×Int)):(Option (Int×(Int×Bool))):=(cnd (iLt x.2 0) (some (0,(0,false))) (cnd (iGe x.2 (lLen x.1)) (some (0,(0,false)))
 (chk (within x.2 (lLen x.1) (lLen x.1)) (chk (posW (nOf x.2) (lTake ((nOf (lLen x.1)) - (nOf x.2)) (lDrop (nOf x.2) x.1)).length) (bnd (F_utf8_DecodeRune (lTake ((nOf (lLen x.1))
 - (nOf x.2)) (lDrop (nOf x.2) x.1))) (fun z1=>(cnd (iEq z1.1 65533) (cnd (iLt z1.2 2) (some (0,(0,false))) (some ((iConv .i64 z1.1),((iAdd .i64 x.2 z1.2),
 true)))) (some ((iConv .i64 z1.1),((iAdd .i64 x.2 z1.2),true))))))))))
def F_i_PairSign (x:(Int×Int)):(Option (Int×Bool)):=(cnd (iEq x.1 164) (bnd (F_i_within (x.2,(161,243))) (fun z1=>(cnd z1 (some ((iSub .i64
 (iAdd .i64 12353 x.2) 161),true)) (cnd (iEq x.1 165) (bnd (F_i_within (x.2,(161,246))) (fun z2=>(cnd z2 (some ((iSub .i64 (iAdd .i64 12449 x.2) 161),true)) (some
 (0,false))))) (some (0,false)))))) (cnd (iEq x.1 165) (bnd (F_i_within (x.2,(161,246))) (fun z1=>(cnd z1 (some ((iSub .i64 (iAdd .i64 12449 x.2) 161),true)) (some
 (0,false))))) (some (0,false))))
def F_i_EucSign (x:((List UInt8)×Int)):(Option (Int×(Int×Bool))):=(cnd (iLt x.2 0) (some (0,(0,false))) (cnd (iGe x.2 (lLen x.1)) (some (0,(0,false)))
 (bnd (idx x.1 x.2) (fun z1=>(cnd (iLe (y2i z1) (y2i (u8 127))) (bnd (idx x.1 x.2) (fun z2=>(some ((iConv .i64 (y2i z2)),((iAdd .i64 x.2 1),true)))))
 (cnd (iEq (iAdd .i64 x.2 1) (lLen x.1)) (some (0,(0,false))) (bnd (idx x.1 x.2) (fun z2=>(bnd (idx x.1 (iAdd .i64 x.2 1)) (fun z3=>(bnd (F_i_PairSign
 ((iConv .i64 (y2i z2)),(iConv .i64 (y2i z3)))) (fun z4=>(cnd (bNot z4.2) (some (0,(0,false))) (some (z4.1,((iAdd .i64 x.2 2),true))))))))))))))))
def F_i_nineSign (x:Int):(Option Int):=(cnd (iEq x 164) (some 8364) (cnd (iEq x 166) (some 352) (cnd (iEq x 168) (some 353) (cnd (iEq x 180) (some 381) (cnd
 (iEq x 184) (some 382) (cnd (iEq x 188) (some 338) (cnd (iEq x 189) (some 339) (cnd (iEq x 190) (some 376) (some x)))))))))
def F_i_koiSign (x:Int):(Option Int):=(cnd (iGe x 224) (chk (iLe 0 (iSub .i64 x 224)) (chk (iLt (iSub .i64 x 224) 32) (bnd (idx [1102,1072,1073,1094,1076,
 1077,1092,1075,1093,1080,1081,1082,1083,1084,1085,1086,1087,1103,1088,1089,1090,1091,1078,1074,1100,1099,1079,1096,1101,1097,1095,1098] (Int.ofNat (0 +
 ((nOf (iSub .i64 x 224))*1)))) (fun z1=>(some (iSub .i64 z1 32)))))) (cnd (iGe x 192) (chk (iLe 0 (iSub .i64 x 192)) (chk (iLt (iSub .i64 x 192) 32) (bnd (idx [1102,
 1072,1073,1094,1076,1077,1092,1075,1093,1080,1081,1082,1083,1084,1085,1086,1087,1103,1088,1089,1090,1091,1078,1074,1100,1099,1079,1096,1101,1097,
 1095,1098] (Int.ofNat (0+((nOf (iSub .i64 x 192))*1)))) (fun z1=>(some z1))))) (cnd (iEq x 163) (some 1105) (cnd (iEq x 179) (some 1025) (some 0)))))
def F_i_winSign (x:Int):(Option Int):=(cnd (iGe x 160) (some x) (chk (iLe 0 (iSub .i64 x 128)) (chk (iLt (iSub .i64 x 128) 32) (bnd (idx [8364,0,8218,402,
 8222,8230,8224,8225,710,8240,352,8249,338,0,381,0,0,8216,8217,8220,8221,8226,8211,8212,732,8482,353,8250,339,0,382,376] (Int.ofNat (0+((nOf (iSub
 .i64 x 128))*1)))) (fun z1=>(some z1))))))
def F_i_ByteSign (x:(Int×Int)):(Option (Int×Bool)):=(bnd (F_i_within (x.1,(1,4))) (fun z1=>(cnd (bNot z1) (some (0,false)) (bnd (F_i_within
 (x.2,(0,255))) (fun z2=>(cnd (bNot z2) (some (0,false)) (cnd (iLe x.2 127) (some (x.2,true)) (joinX (cnd (iEq x.1 2) (bnd (F_i_nineSign x.2) (fun z3 =>
 (some (.inl z3)))) (cnd (iEq x.1 3) (bnd (F_i_koiSign x.2) (fun z3=>(some (.inl z3)))) (cnd (iEq x.1 4) (bnd (F_i_winSign x.2) (fun z3=>(some (.inl z3))))
 (some (.inl x.2))))) (fun (z3:Int)=>(some (z3,(iNe z3 0))))))))))))
def F_i_signIn (x:(Int×((List UInt8)×Int))):(Option (Int×(Int×Bool))):=(cnd (iEq x.1 0) (bnd (F_i_GetSign (x.2.1,x.2.2)) (fun z1=>(some (z1.1,(z1.2.1,z1.2.2))))) (cnd (iEq x.1 5) (bnd (F_i_EucSign (x.2.1,x.2.2)) (fun z1=>(some (z1.1,(z1.2.1,z1.2.2))))) (bnd (idx
 x.2.1 x.2.2) (fun z1=>(bnd (F_i_ByteSign (x.1,(iConv .i64 (y2i z1)))) (fun z2=>(some (z2.1,((iAdd .i64 x.2.2 1),z2.2)))))))))
def F_i_SignOk (x:Int):(Option Bool):=(bnd (F_i_within (x,(0,1114111))) (fun z1=>(cnd z1 (bnd (F_i_within (x,(55296,57343))) (fun z2 =>
 (some (bNot z2)))) (some false))))
def F_utf8_appendRuneNonASCII (x:((List UInt8)×Int)):(Option (List UInt8)):=(cnd (iLe (iConv .u32 x.2) 2047) (chk (room (x.1.length+2) 1) (some (lApp x.1
 [(u8 (iOr .u8 (y2i (u8 192)) (y2i (u8 (iConv .u8 (iShr .i32 x.2 6)))))),(u8 (iOr .u8 (y2i (u8 128)) (y2i (u8 (iAnd .u8 (y2i (u8 (iConv .u8 x.2))) (y2i (u8 63)))))))]))) (joinX
 (cnd (iLt (iConv .u32 x.2) 55296) (some (.inl true)) (cnd (iLt 57343 (iConv .u32 x.2)) (some (.inl (iLe (iConv .u32 x.2) 65535))) (some (.inl false)))) (fun (z1:Bool)=>(cnd
 z1 (chk (room (x.1.length+3) 1) (some (lApp x.1 [(u8 (iOr .u8 (y2i (u8 224)) (y2i (u8 (iConv .u8 (iShr .i32 x.2 12)))))),(u8 (iOr .u8 (y2i (u8 128)) (y2i (u8 (iAnd .u8 (y2i
 (u8 (iConv .u8 (iShr .i32 x.2 6)))) (y2i (u8 63))))))),(u8 (iOr .u8 (y2i (u8 128)) (y2i (u8 (iAnd .u8 (y2i (u8 (iConv .u8 x.2))) (y2i (u8 63)))))))]))) (cnd (iGt (iConv .u32
 x.2) 65535) (cnd (iLe (iConv .u32 x.2) 1114111) (chk (room (x.1.length+4) 1) (some (lApp x.1 [(u8 (iOr .u8 (y2i (u8 240)) (y2i (u8 (iConv .u8 (iShr .i32 x.2 18)))))),(u8 (iOr
 .u8 (y2i (u8 128)) (y2i (u8 (iAnd .u8 (y2i (u8 (iConv .u8 (iShr .i32 x.2 12)))) (y2i (u8 63))))))),(u8 (iOr .u8 (y2i (u8 128)) (y2i (u8 (iAnd .u8 (y2i (u8 (iConv .u8 (iShr .i32
 x.2 6)))) (y2i (u8 63))))))),(u8 (iOr .u8 (y2i (u8 128)) (y2i (u8 (iAnd .u8 (y2i (u8 (iConv .u8 x.2))) (y2i (u8 63)))))))]))) (chk (room (x.1.length+3) 1) (some (lApp x.1 [(u8
 239),(u8 191),(u8 189)])))) (chk (room (x.1.length+3) 1) (some (lApp x.1 [(u8 239),(u8 191),(u8 189)]))))))))
def F_utf8_AppendRune (x:((List UInt8)×Int)):(Option (List UInt8)):=(cnd (iLe (iConv .u32 x.2) 127) (chk (room (x.1.length+1) 1) (some (lApp x.1 [(u8 (iConv
 .u8 x.2))]))) (bnd (F_utf8_appendRuneNonASCII (x.1,x.2)) (fun z1=>(some z1))))
def F_i_PutSign (x:((List UInt8)×Int)):(Option (List UInt8)):=(bnd (F_i_joined [x.1]) (fun z1=>(bnd (F_i_SignOk x.2) (fun z2 =>
 (cnd (bNot z2) (some z1) (bnd (F_utf8_AppendRune (z1,(iConv .i32 x.2))) (fun z3=>(some z3))))))))
def S_i_Decode_0 (x:(Int×(List UInt8))):((List UInt8)×Int)->Option (((List UInt8)×Int) ⊕ ((List UInt8) ⊕ ((List UInt8)×Bool))):=fun (z2:((List UInt8)
 × Int))=>(cnd (iLt z2.2 (lLen x.2)) (bnd (F_i_signIn (x.1,(x.2,z2.2))) (fun z3=>(cnd (bNot z3.2.2) (some (.inr (.inr ([],false)))) (bnd
 (F_i_PutSign (z2.1,z3.1)) (fun z4=>(some (.inl (z4,z3.2.1)))))))) (some (.inr (.inl z2.1))))
def F_i_Decode (x:(Int×(List UInt8))):(Option ((List UInt8)×Bool)):=(bnd (F_i_isSet x.1) (fun z1=>(cnd (bNot z1) (some ([],false)) (joinX (loopX
 (S_i_Decode_0 x) ([],0)) (fun (z2:(List UInt8))=>(some (z2,true)))))))
def F_i_CellText (x:(Int×(List UInt8))):(Option ((List UInt8)×Bool)):=(bnd (F_i_CellOk (x.1,x.2)) (fun z1=>(cnd (bNot z1) (some ([],false))
 (bnd (F_i_Decode (x.1,x.2)) (fun z2=>(some (z2.1,z2.2)))))))
def F_i_SameText (x:((Int×(List UInt8))×(Int×(List UInt8)))):(Option Bool):=(bnd (F_i_CellText (x.1.1,x.1.2)) (fun z1=>(bnd
 (F_i_CellText (x.2.1,x.2.2)) (fun z2=>(cnd z1.2 (cnd z2.2 (some (sEq z1.1 z2.1)) (some false)) (some false))))))
def F_i_RowOk (x:((List UInt8)×((Int×(List UInt8))×((Int×(List UInt8))×(Int×Bool))))):(Option Bool):=(bnd (F_i_NameOk x.1) (fun z1=>(cnd
 (bNot z1) (some false) (bnd (F_i_within (x.2.2.2.1,(1,3))) (fun z2=>(cnd (bNot z2) (some false) (bnd (F_i_CellText (x.2.1.1,x.2.1.2)) (fun z3=>(bnd (F_i_CellText (x.2.2.1.1,x.2.2.1.2)) (fun z4=>(bnd (F_i_sameCell ((x.2.1.1,x.2.1.2),(0,[]))) (fun z5=>(joinX (cnd (iNe
 x.2.2.2.1 2) (bnd (F_i_CellOk (x.2.1.1,x.2.1.2)) (fun z6=>(cnd z6 (cnd (iNe x.2.1.1 0) (cnd z3.2 (some (.inl true)) (cnd x.2.2.2.2 (some (.inl (iEq x.2.2.2.1 1)))
 (some (.inl false)))) (some (.inl false))) (some (.inl false))))) (some (.inl z5))) (fun (z6:Bool)=>(bnd (F_i_sameCell ((x.2.2.1.1,x.2.2.1.2),(0,[]))) (fun z7 =>
 (joinX (cnd (iNe x.2.2.2.1 1) (cnd (iEq x.2.2.1.1 0) (some (.inl z4.2)) (some (.inl false))) (some (.inl z7))) (fun (z8:Bool)=>(cnd z6 (cnd z8 (cnd (iNe x.2.2.2.1 3) (some
 true) (bnd (F_i_SameText ((x.2.1.1,x.2.1.2),(x.2.2.1.1,x.2.2.1.2))) (fun z9=>(some z9)))) (some false)) (some false))))))))))))))))))))
def F_i_isWord (x:Int):(Option Bool):=(bnd (F_i_within (x,(0,65535))) (fun z1=>(some z1)))
def F_i_RecOk (x:(Int×(((List UInt8)×((Int×(List UInt8))×((Int×(List UInt8))×(Int×Bool))))×((List UInt8)×(Int×(Int×(Int×Int))))))):(Option
 Bool):=(bnd (F_i_sameRow ((x.2.1.1,((x.2.1.2.1.1,x.2.1.2.1.2),((x.2.1.2.2.1.1,x.2.1.2.2.1.2),(x.2.1.2.2.2.1,x.2.1.2.2.2.2)))),([],((0,[]),((0,[]),(0,false))))))
 (fun z1=>(joinX (cnd (iEq x.1 1) (bnd (F_i_RowOk (x.2.1.1,((x.2.1.2.1.1,x.2.1.2.1.2),((x.2.1.2.2.1.1,x.2.1.2.2.1.2),(x.2.1.2.2.2.1,x.2.1.2.2.2.2))))) (fun z2=>(cnd z2 (cnd (sEq x.2.2.1 []) (some (.inl (iEq x.2.2.2.1 0))) (some (.inl false))) (some (.inl false))))) (cnd (iEq x.1 2) (cnd z1 (bnd (F_i_NameOk x.2.2.1) (fun z2=>(cnd z2 (some (.inl (iEq x.2.2.2.1 0))) (some (.inl false))))) (some (.inl false))) (cnd (iEq x.1 3) (cnd z1 (cnd (sEq x.2.2.1 []) (bnd (F_i_within (x.2.2.2.1,(0,7)))
 (fun z2=>(some (.inl z2)))) (some (.inl false))) (some (.inl false))) (cnd (iEq x.1 4) (cnd z1 (cnd (sEq x.2.2.1 []) (cnd (iEq x.2.2.2.1 0) (some (.inl (iNe
 x.2.2.2.2.1 0))) (some (.inl false))) (some (.inl false))) (some (.inl false))) (some (.inl false)))))) (fun (z2:Bool)=>(cnd (iEq x.2.2.2.2.1 0) (cnd z2 (cnd (iEq
 x.2.2.2.2.2.1 0) (some (iEq x.2.2.2.2.2.2 0)) (some false)) (some false)) (cnd z2 (bnd (F_i_within (x.2.2.2.2.1,(1,9))) (fun z3=>(cnd z3 (bnd (F_i_isWord
 x.2.2.2.2.2.1) (fun z4=>(cnd z4 (bnd (F_i_within (x.2.2.2.2.2.2,(0,6))) (fun z5=>(some z5))) (some false)))) (some false)))) (some false)))))))
def F_i_PutW (x:((List UInt8)×Int)):(Option (List UInt8)):=(bnd (F_i_joined [x.1,[(u8 (iConv .u8 (iAnd .i64 (iShr .i64 x.2 8) 255))),(u8 (iConv .u8 (iAnd
 .i64 x.2 255)))]]) (fun z1=>(some z1)))
def F_i_PutText (x:((List UInt8)×(List UInt8))):(Option (List UInt8)):=(cnd (iGt (lLen x.2) 60) (bnd (F_i_joined [x.1]) (fun z1=>(some
 z1))) (bnd (F_i_PutW (x.1,(lLen x.2))) (fun z1=>(bnd (F_i_joined [z1,x.2]) (fun z2=>(some z2))))))
def F_i_flag (x:Bool):(Option UInt8):=(cnd x (some (u8 1)) (some (u8 0)))
def F_i_PutRow (x:((List UInt8)×((List UInt8)×((Int×(List UInt8))×((Int×(List UInt8))×(Int×Bool)))))):(Option (List UInt8)):=(bnd (F_i_joined
 [x.1]) (fun z1=>(bnd (F_i_RowOk (x.2.1,((x.2.2.1.1,x.2.2.1.2),((x.2.2.2.1.1,x.2.2.2.1.2),(x.2.2.2.2.1,x.2.2.2.2.2))))) (fun z2=>(cnd (bNot z2)
 (some z1) (bnd (F_i_PutText (z1,x.2.1)) (fun z3=>(bnd (F_i_flag x.2.2.2.2.2) (fun z4=>(chk (room (z3.length+2) 1) (joinX (cnd (iNe x.2.2.2.2.1
 2) (chk (room ((lApp z3 [(u8 (iConv .u8 x.2.2.2.2.1)),z4]).length+1) 1) (bnd (F_i_PutText ((lApp (lApp z3 [(u8 (iConv .u8 x.2.2.2.2.1)),z4]) [(u8 (iConv .u8 x.2.2.1.1))]),
 x.2.2.1.2)) (fun z5=>(some (.inl z5))))) (some (.inl (lApp z3 [(u8 (iConv .u8 x.2.2.2.2.1)),z4])))) (fun (z5:(List UInt8))=>(joinX (cnd (iNe x.2.2.2.2.1
 1) (chk (room (z5.length+1) 1) (bnd (F_i_PutText ((lApp z5 [(u8 (iConv .u8 x.2.2.2.1.1))]),x.2.2.2.1.2)) (fun z6=>(some (.inl z6))))) (some (.inl z5))) (fun
 (z6:(List UInt8))=>(some z6)))))))))))))))
def S_i_Sum_0:(Int×Int)->Option ((Int×Int) ⊕ (Int ⊕ ((Int×Int) ⊕ (Int ⊕ Int)))):=fun (z3:(Int×Int))=>(cnd (iLt z3.2 8) (joinX (cnd (iGt (iMul .i64
 z3.1 2) 65535) (some (.inl (iXor .i64 (iMul .i64 z3.1 2) 69665))) (some (.inl (iMul .i64 z3.1 2)))) (fun (z4:Int)=>(some (.inl (z4,(iAdd .i64 z3.2 1)))))) (some (.inr (.inl
 z3.1))))
def S_i_Sum_1 (x:(List UInt8)):(Int×Int)->Option ((Int×Int) ⊕ (Int ⊕ Int)):=fun (z1:(Int×Int))=>(cnd (iLt z1.2 (lLen x)) (joinX (bnd (idx x z1.2)
 (fun z2=>(loopX (S_i_Sum_0) ((iXor .i64 z1.1 (iMul .i64 256 (iConv .i64 (y2i z2)))),0)))) (fun (z2:Int)=>(some (.inl (z2,(iAdd .i64 z1.2 1)))))) (some (.inr
 (.inl z1.1))))
def F_i_Sum (x:(List UInt8)):(Option Int):=(joinX (loopX (S_i_Sum_1 x) (65535,0)) (fun (z1:Int)=>(some (iAnd .i64 z1 65535))))
def F_i_PutRec (x:(Int×(Int×(Int×(((List UInt8)×((Int×(List UInt8))×((Int×(List UInt8))×(Int×Bool))))×((List UInt8)×(Int×(Int×(Int ×
 Int))))))))):(Option (List UInt8)):=(bnd (F_i_RecOk (x.2.2.1,((x.2.2.2.1.1,((x.2.2.2.1.2.1.1,x.2.2.2.1.2.1.2),((x.2.2.2.1.2.2.1.1,x.2.2.2.1.2.2.1.2),(x.2.2.2.1.2.2.2.1,
 x.2.2.2.1.2.2.2.2)))),(x.2.2.2.2.1,(x.2.2.2.2.2.1,(x.2.2.2.2.2.2.1,(x.2.2.2.2.2.2.2.1,x.2.2.2.2.2.2.2.2))))))) (fun z1=>(cnd (bNot z1) (some []) (bnd (F_i_isWord
 x.1) (fun z2=>(cnd (bNot z2) (some []) (bnd (F_i_isWord x.2.1) (fun z3=>(cnd (bNot z3) (some []) (alt2 (bnd (F_i_PutW ([],x.1)) (fun z4 =>
 (bnd (F_i_PutW (z4,x.2.1)) (fun z5=>(chk (room (z5.length+1) 1) (joinX (cnd (iEq x.2.2.1 1) (bnd (F_i_PutRow ((lApp z5 [(u8 (iConv .u8 x.2.2.1))]),
 (x.2.2.2.1.1,((x.2.2.2.1.2.1.1,x.2.2.2.1.2.1.2),((x.2.2.2.1.2.2.1.1,x.2.2.2.1.2.2.1.2),(x.2.2.2.1.2.2.2.1,x.2.2.2.1.2.2.2.2)))))) (fun z6=>(some (.inl
 z6)))) (cnd (iEq x.2.2.1 2) (bnd (F_i_PutText ((lApp z5 [(u8 (iConv .u8 x.2.2.1))]),x.2.2.2.2.1)) (fun z6=>(some (.inl z6)))) (cnd (iEq x.2.2.1 3) (chk (room
 ((lApp z5 [(u8 (iConv .u8 x.2.2.1))]).length+1) 1) (some (.inl (lApp (lApp z5 [(u8 (iConv .u8 x.2.2.1))]) [(u8 (iConv .u8 x.2.2.2.2.2.1))])))) (some (.inl (lApp z5 [(u8 (iConv
 .u8 x.2.2.1))])))))) (fun (z6:(List UInt8))=>(chk (room (z6.length+2) 1) (bnd (F_i_PutW ((lApp z6 [(u8 (iConv .u8 x.2.2.2.2.2.2.1)),(u8 (iConv .u8 x.2.2.2.2.2.2.2.2))]),
 x.2.2.2.2.2.2.2.1)) (fun z7=>(bnd (F_i_Sum z7) (fun z8=>(bnd (F_i_PutW (z7,z8)) (fun z9=>(some z9))))))))))))))) (alt2 (bnd
 (F_i_PutW ([],x.1)) (fun z4=>(bnd (F_i_PutW (z4,x.2.1)) (fun z5=>(chk (room (z5.length+1) 1) (joinX (cnd (iEq x.2.2.1 1) (bnd
 (F_i_PutRow ((lApp z5 [(u8 (iConv .u8 x.2.2.1))]),(x.2.2.2.1.1,((x.2.2.2.1.2.1.1,x.2.2.2.1.2.1.2),((x.2.2.2.1.2.2.1.1,x.2.2.2.1.2.2.1.2),(x.2.2.2.1.2.2.2.1,
 x.2.2.2.1.2.2.2.2)))))) (fun z6=>(some (.inl z6)))) (cnd (iEq x.2.2.1 2) (bnd (F_i_PutText ((lApp z5 [(u8 (iConv .u8 x.2.2.1))]),x.2.2.2.2.1)) (fun z6=>(some (.inl z6)))) (cnd (iEq x.2.2.1 3) (chk (room ((lApp z5 [(u8 (iConv .u8 x.2.2.1))]).length+1) 1) (some (.inl (lApp (lApp z5 [(u8 (iConv .u8 x.2.2.1))])
 [(u8 (iConv .u8 x.2.2.2.2.2.1))])))) (some (.inl (lApp z5 [(u8 (iConv .u8 x.2.2.1))])))))) (fun (z6:(List UInt8))=>(chk (room (z6.length+2) 1) (bnd (F_i_PutW ((lApp z6 [(u8
 (iConv .u8 x.2.2.2.2.2.2.1)),(u8 (iConv .u8 x.2.2.2.2.2.2.2.2))]),x.2.2.2.2.2.2.2.1)) (fun z7=>(bnd (F_i_Sum z7) (fun z8=>(bnd (F_i_PutW (z7,z8))
 (fun z9=>(some z9))))))))))))))) (bnd (F_i_PutW ([],x.1)) (fun z4=>(bnd (F_i_PutW (z4,x.2.1)) (fun z5=>(chk (room
 (z5.length+1) 1) (joinX (cnd (iEq x.2.2.1 1) (bnd (F_i_PutRow ((lApp z5 [(u8 (iConv .u8 x.2.2.1))]),(x.2.2.2.1.1,((x.2.2.2.1.2.1.1,x.2.2.2.1.2.1.2),((x.2.2.2.1.2.2.1.1,
 x.2.2.2.1.2.2.1.2),(x.2.2.2.1.2.2.2.1,x.2.2.2.1.2.2.2.2)))))) (fun z6=>(some (.inl z6)))) (cnd (iEq x.2.2.1 2) (bnd (F_i_PutText ((lApp z5 [(u8 (iConv .u8
 x.2.2.1))]),x.2.2.2.2.1)) (fun z6=>(some (.inl z6)))) (cnd (iEq x.2.2.1 3) (chk (room ((lApp z5 [(u8 (iConv .u8 x.2.2.1))]).length+1) 1) (some (.inl (lApp
 (lApp z5 [(u8 (iConv .u8 x.2.2.1))]) [(u8 (iConv .u8 x.2.2.2.2.2.1))])))) (some (.inl (lApp z5 [(u8 (iConv .u8 x.2.2.1))])))))) (fun (z6:(List UInt8))=>(chk (room (z6.length
 + 2) 1) (bnd (F_i_PutW ((lApp z6 [(u8 (iConv .u8 x.2.2.2.2.2.2.1)),(u8 (iConv .u8 x.2.2.2.2.2.2.2.2))]),x.2.2.2.2.2.2.2.1)) (fun z7=>(bnd (F_i_Sum z7) (fun
 z8=>(bnd (F_i_PutW (z7,z8)) (fun z9=>(some z9))))))))))))))))))))))))))
def S_i_copyDev_0 (x:((List (List UInt8))×((List (Int×(List UInt8)))×(Int×Bool)))):((List (List UInt8))×Int)->Option (((List (List UInt8))×Int) ⊕
 ((List (List UInt8)) ⊕ ((List (List UInt8))×((List (Int×(List UInt8)))×(Int×Bool))))):=fun (z1:((List (List UInt8))×Int))=>(cnd (iLt z1.2 (lLen x.1)) (bnd (idx
 x.1 z1.2) (fun z2=>(bnd (F_i_joined [z2]) (fun z3=>(chk (room (z1.1.length+1) 24) (some (.inl ((lApp z1.1 [z3]),(iAdd .i64 z1.2
 1))))))))) (some (.inr (.inl z1.1))))
def S_i_copyDev_1 (x:((List (List UInt8))×((List (Int×(List UInt8)))×(Int×Bool)))):((List (Int×(List UInt8)))×Int)->Option (((List (Int×(List
 UInt8)))×Int) ⊕ ((List (Int×(List UInt8))) ⊕ ((List (List UInt8))×((List (Int×(List UInt8)))×(Int×Bool))))):=fun (z2:((List (Int×(List UInt8)))×Int))=>(cnd
 (iLt z2.2 (lLen x.2.1)) (bnd (idx x.2.1 z2.2) (fun z3=>(bnd (F_i_joined [z3.2]) (fun z4=>(chk (room (z2.1.length+1) 32) (some
 (.inl ((lApp z2.1 [(z3.1,z4)]),(iAdd .i64 z2.2 1))))))))) (some (.inr (.inl z2.1))))
def F_i_copyDev (x:((List (List UInt8))×((List (Int×(List UInt8)))×(Int×Bool)))):(Option ((List (List UInt8))×((List (Int×(List UInt8)))×(Int ×
 Bool)))):=(joinX (loopX (S_i_copyDev_0 x) ([],0)) (fun (z1:(List (List UInt8)))=>(joinX (loopX (S_i_copyDev_1 x) ([],0)) (fun (z2:(List (Int×(List UInt8))))=>(some
 (z1,(z2,(x.2.2.1,x.2.2.2))))))))
def S_i_DevOk_0 (x:((List (List UInt8))×((List (Int×(List UInt8)))×(Int×Bool)))):(Int)->Option ((Int) ⊕ (Unit ⊕ Bool)):=fun (z3:Int)=>(cnd (iLt z3
 (lLen x.1)) (bnd (idx x.1 z3) (fun z4=>(cnd (iGt (lLen z4) 120) (some (.inr (.inr false))) (some (.inl (iAdd .i64 z3 1)))))) (some (.inr (.inl ()))))
def S_i_DevOk_1 (x:((List (List UInt8))×((List (Int×(List UInt8)))×(Int×Bool)))):(Int)->Option ((Int) ⊕ Bool):=fun (z4:Int)=>(cnd (iLt z4 (lLen
 x.2.1)) (bnd (idx x.2.1 z4) (fun z5=>(bnd (F_i_within (z5.1,(0,(iSub .i64 (lLen x.1) 1)))) (fun z6=>(cnd (bNot z6) (some (.inr false))
 (cnd (iGt (lLen z5.2) 120) (some (.inr false)) (some (.inl (iAdd .i64 z4 1))))))))) (some (.inr true)))
def F_i_DevOk (x:((List (List UInt8))×((List (Int×(List UInt8)))×(Int×Bool)))):(Option Bool):=(bnd (F_i_within ((lLen x.1),(1,64))) (fun z1
 => (cnd (bNot z1) (some false) (cnd (iGt (lLen x.2.1) 40) (some false) (bnd (F_i_within (x.2.2.1,((-1),1000))) (fun z2=>(cnd (bNot z2) (some false) (joinX (loopX
 (S_i_DevOk_0 x) 0) (fun (z3:Unit)=>(loopX (S_i_DevOk_1 x) 0))))))))))
def F_i_burn (x:((List (List UInt8))×((List (Int×(List UInt8)))×(Int×Bool)))):(Option (((List (List UInt8))×((List (Int×(List UInt8)))×(Int ×
 Bool)))×Bool)):=(cnd (iEq x.2.2.1 0) (some ((x.1,(x.2.1,((-1),true))),false)) (joinX (cnd (iGt x.2.2.1 0) (some (.inl (iSub .i64 x.2.2.1 1))) (some (.inl x.2.2.1))) (fun
 (z1:Int)=>(some ((x.1,(x.2.1,(z1,x.2.2.2))),true)))))
def F_i_WriteSec (x:(((List (List UInt8))×((List (Int×(List UInt8)))×(Int×Bool)))×(Int×(List UInt8)))):(Option ((List (List UInt8))×((List (Int ×
 (List UInt8)))×(Int×Bool)))):=(bnd (F_i_copyDev (x.1.1,(x.1.2.1,(x.1.2.2.1,x.1.2.2.2)))) (fun z1
 => (bnd (F_i_DevOk (x.1.1,(x.1.2.1,(x.1.2.2.1,x.1.2.2.2)))) (fun z2=>(cnd (bNot z2) (some (z1.1,(z1.2.1,(z1.2.2.1,z1.2.2.2)))) (cnd x.1.2.2.2 (some (z1.1,
 (z1.2.1,(z1.2.2.1,z1.2.2.2)))) (bnd (F_i_within (x.2.1,(0,(iSub .i64 (lLen x.1.1) 1)))) (fun z3=>(cnd (bNot z3) (some (z1.1,(z1.2.1,(z1.2.2.1,z1.2.2.2)))) (cnd
 (iGt (lLen x.2.2) 120) (some (z1.1,(z1.2.1,(z1.2.2.1,z1.2.2.2)))) (cnd (iEq (lLen x.1.2.1) 40) (some (z1.1,(z1.2.1,(z1.2.2.1,z1.2.2.2)))) (bnd (F_i_burn (z1.1,(z1.2.1,
 (z1.2.2.1,z1.2.2.2)))) (fun z4=>(joinX (cnd z4.2 (bnd (F_i_joined [x.2.2]) (fun z5=>(chk (room (z4.1.2.1.length+1) 32) (some (.inl (lApp z4.1.2.1 [(x.2.1,z5)])))))) (some (.inl z4.1.2.1))) (fun (z5:(List (Int×(List UInt8))))=>(some (z4.1.1,
 (z5,(z4.1.2.2.1,z4.1.2.2.2)))))))))))))))))))
def S_i_FlushDev_0 (z3:(((List (List UInt8))×((List (Int×(List UInt8)))×(Int×Bool)))×Bool)):((List (List UInt8))×Int)->Option (((List (List UInt8)) ×
 Int) ⊕ ((List (List UInt8)) ⊕ ((List (List UInt8))×((List (Int×(List UInt8)))×(Int×Bool))))):=fun (z4:((List (List UInt8))×Int))=>(cnd (iLt z4.2 (lLen z3.1.2.1))
 (bnd (idx z3.1.2.1 z4.2) (fun z5=>(bnd (F_i_joined [z5.2]) (fun z6=>(bnd (idx z4.1 z5.1) (fun z7=>(some (.inl
 ((lSet z4.1 (nOf z5.1) z6),(iAdd .i64 z4.2 1)))))))))) (some (.inr (.inl z4.1))))
def F_i_FlushDev (x:((List (List UInt8))×((List (Int×(List UInt8)))×(Int×Bool)))):(Option ((List (List UInt8))×((List (Int×(List UInt8)))×(Int ×
 Bool)))):=(bnd (F_i_copyDev (x.1,(x.2.1,(x.2.2.1,x.2.2.2)))) (fun z1=>(bnd (F_i_DevOk (x.1,
 (x.2.1,(x.2.2.1,x.2.2.2)))) (fun z2=>(cnd (bNot z2) (some (z1.1,(z1.2.1,(z1.2.2.1,z1.2.2.2)))) (cnd x.2.2.2 (some (z1.1,(z1.2.1,(z1.2.2.1,z1.2.2.2)))) (bnd
 (F_i_burn (z1.1,(z1.2.1,(z1.2.2.1,z1.2.2.2)))) (fun z3=>(cnd (bNot z3.2) (some (z3.1.1,
 (z3.1.2.1,(z3.1.2.2.1,z3.1.2.2.2)))) (joinX (loopX (S_i_FlushDev_0 z3) (z3.1.1,0)) (fun (z4:(List (List UInt8)))=>(some (z4,([],(z3.1.2.2.1,z3.1.2.2.2)))))))))))))))
def F_i_HeadOf (x:(Int×Int)):(Option (List UInt8)):=(bnd (F_i_within (x.1,(1,60000))) (fun z1=>(cnd (bNot z1) (some []) (bnd (F_i_within (x.2,
 (0,30))) (fun z2=>(cnd (bNot z2) (some []) (bnd (F_i_PutW ([],x.1)) (fun z3=>(bnd (F_i_PutW (z3,x.2)) (fun z4=>(bnd (F_i_Sum
 z4) (fun z5=>(bnd (F_i_PutW (z4,z5)) (fun z6=>(some z6)))))))))))))))
def S_i_laid_0 (x:(((List (List UInt8))×((List (Int×(List UInt8)))×(Int×Bool)))×(Int×(List (Int×(((List UInt8)×((Int×(List UInt8))×((Int×(List
 UInt8))×(Int×Bool))))×((List UInt8)×(Int×(Int×(Int×Int)))))))))):((List (List UInt8))×((List (Int×(List UInt8)))×(Int×(Bool×Int))))->Option (((List
 (List UInt8))×((List (Int×(List UInt8)))×(Int×(Bool×Int)))) ⊕ (((List (List UInt8))×((List (Int×(List UInt8)))×(Int×Bool))) ⊕ ((List (List UInt8))×((List (Int
 × (List UInt8)))×(Int×Bool))))):=fun (z1:((List (List UInt8))×((List (Int×(List UInt8)))×(Int×(Bool×Int)))))=>(cnd (iLt z1.2.2.2.2 (lLen x.2.2)) (bnd (idx
 x.2.2 z1.2.2.2.2) (fun z2=>(bnd
 (F_i_sectorOf (x.2.1,z1.2.2.2.2)) (fun z3=>(bnd (F_i_PutRec (x.2.1,(z1.2.2.2.2,(z2.1,((z2.2.1.1,((z2.2.1.2.1.1,z2.2.1.2.1.2),((z2.2.1.2.2.1.1,z2.2.1.2.2.1.2),
 (z2.2.1.2.2.2.1,z2.2.1.2.2.2.2)))),(z2.2.2.1,(z2.2.2.2.1,(z2.2.2.2.2.1,(z2.2.2.2.2.2.1,z2.2.2.2.2.2.2))))))))) (fun z4=>(bnd (F_i_WriteSec ((z1.1,
 (z1.2.1,(z1.2.2.1,z1.2.2.2.1))),(z3,z4))) (fun z5=>(some (.inl (z5.1,(z5.2.1,(z5.2.2.1,
 (z5.2.2.2,(iAdd .i64 z1.2.2.2.2 1))))))))))))))) (some (.inr (.inl (z1.1,(z1.2.1,(z1.2.2.1,z1.2.2.2.1)))))))
def F_i_laid (x:(((List (List UInt8))×((List (Int×(List UInt8)))×(Int×Bool)))×(Int×(List (Int×(((List UInt8)×((Int×(List UInt8))×((Int×(List
 UInt8))×(Int×Bool))))×((List UInt8)×(Int×(Int×(Int×Int)))))))))):(Option ((List (List UInt8))×((List (Int×(List UInt8)))×(Int×Bool)))):=(joinX (loopX
 (S_i_laid_0 x) (x.1.1,(x.1.2.1,(x.1.2.2.1,(x.1.2.2.2,0))))) (fun (z1:((List (List UInt8))×((List (Int×(List UInt8)))×(Int×Bool))))=>(bnd (F_i_FlushDev (z1.1,
 (z1.2.1,(z1.2.2.1,z1.2.2.2)))) (fun z2=>(bnd (F_i_HeadOf (x.2.1,(lLen x.2.2))) (fun z3=>(bnd (F_i_WriteSec ((z2.1,(z2.2.1,(z2.2.2.1,z2.2.2.2))),((iRem x.2.1 2),z3))) (fun z4 =>
 (bnd (F_i_FlushDev (z4.1,(z4.2.1,(z4.2.2.1,z4.2.2.2)))) (fun z5=>(some (z5.1,(z5.2.1,(z5.2.2.1,
 z5.2.2.2))))))))))))))
def F_i_Format (x:Unit):(Option (((List (List UInt8))×((List (Int×(List UInt8)))×(Int×Bool)))×(((List ((List UInt8)×((Int×(List UInt8))×((Int ×
 (List UInt8))×(Int×Bool)))))×(Int×(List (Int×(Int×Int)))))×(Int×Int)))):=(bnd (F_i_RecsOf ([],(0,[]))) (fun z1=>(bnd (F_i_DevNew 62) (fun z2=>(bnd (F_i_laid ((z2.1,(z2.2.1,(z2.2.2.1,z2.2.2.2))),(1,z1))) (fun z3
 => (some ((z3.1,(z3.2.1,(z3.2.2.1,z3.2.2.2))),(([],(0,[])),(1,(lLen z1)))))))))))
def S_l_eqByteS_0 (x:((List UInt8)×(List UInt8))):(Int)->Option ((Int) ⊕ Bool):=fun (z1:Int)=>(cnd (iLt z1 (lLen x.1)) (bnd (idx x.1 z1) (fun z2=>(bnd (idx x.2 z1) (fun z3=>(cnd (iNe (y2i z2) (y2i z3)) (some (.inr false)) (some (.inl (iAdd .i64 z1 1)))))))) (some (.inr true)))
def F_l_eqByteS (x:((List UInt8)×(List UInt8))):(Option Bool):=(cnd (iNe (lLen x.1) (lLen x.2)) (some false) (loopX (S_l_eqByteS_0 x) 0))
def S_l_eqByteSS_0 (x:((List (List UInt8))×(List (List UInt8)))):(Int)->Option ((Int) ⊕ Bool):=fun (z1:Int)=>(cnd (iLt z1 (lLen x.1)) (bnd (idx x.1 z1)
 (fun z2=>(bnd (idx x.2 z1) (fun z3=>(bnd (F_l_eqByteS (z2,z3)) (fun z4=>(cnd (bNot z4) (some (.inr false)) (some (.inl (iAdd
 .i64 z1 1)))))))))) (some (.inr true)))
def F_l_eqByteSS (x:((List (List UInt8))×(List (List UInt8)))):(Option Bool):=(cnd (iNe (lLen x.1) (lLen x.2)) (some false) (loopX (S_l_eqByteSS_0 x) 0))
def F_l_eqWr (x:((Int×(List UInt8))×(Int×(List UInt8)))):(Option Bool):=(cnd (iNe x.1.1 x.2.1) (some false) (bnd (F_l_eqByteS (x.1.2,x.2.2)) (fun z1=>(cnd (bNot z1) (some false) (some true)))))
def S_l_eqWrS_0 (x:((List (Int×(List UInt8)))×(List (Int×(List UInt8))))):(Int)->Option ((Int) ⊕ Bool):=fun (z1:Int)=>(cnd (iLt z1 (lLen x.1)) (bnd
 (idx x.1 z1) (fun z2=>(bnd (idx x.2 z1) (fun z3=>(bnd (F_l_eqWr ((z2.1,z2.2),(z3.1,z3.2))) (fun z4=>(cnd (bNot
 z4) (some (.inr false)) (some (.inl (iAdd .i64 z1 1)))))))))) (some (.inr true)))
def F_l_eqWrS (x:((List (Int×(List UInt8)))×(List (Int×(List UInt8))))):(Option Bool):=(cnd (iNe (lLen x.1) (lLen x.2)) (some false) (loopX (S_l_eqWrS_0
 x) 0))
def F_l_eqDev (x:(((List (List UInt8))×((List (Int×(List UInt8)))×(Int×Bool)))×((List (List UInt8))×((List (Int×(List UInt8)))×(Int×Bool))))) :
 (Option Bool):=(bnd (F_l_eqByteSS (x.1.1,x.2.1)) (fun z1=>(cnd (bNot z1) (some false) (bnd (F_l_eqWrS (x.1.2.1,x.2.2.1)) (fun z2=>(cnd (bNot z2) (some
 false) (cnd (iNe x.1.2.2.1 x.2.2.2.1) (some false) (cnd (bNe x.1.2.2.2 x.2.2.2.2) (some false) (some true)))))))))
def F_l_eqCell (x:((Int×(List UInt8))×(Int×(List UInt8)))):(Option Bool):=(cnd (iNe x.1.1 x.2.1) (some false) (bnd (F_l_eqByteS (x.1.2,x.2.2)) (fun z1=>(cnd (bNot z1) (some false) (some true)))))
def F_l_eqRow (x:(((List UInt8)×((Int×(List UInt8))×((Int×(List UInt8))×(Int×Bool))))×((List UInt8)×((Int×(List UInt8))×((Int×(List UInt8)) ×
 (Int×Bool)))))):(Option Bool):=(cnd (bNot (sEq x.1.1 x.2.1)) (some false) (bnd (F_l_eqCell ((x.1.2.1.1,x.1.2.1.2),(x.2.2.1.1,x.2.2.1.2))) (fun z1=>(cnd (bNot
 z1) (some false) (bnd (F_l_eqCell ((x.1.2.2.1.1,x.1.2.2.1.2),(x.2.2.2.1.1,x.2.2.2.1.2))) (fun z2=>(cnd (bNot z2) (some false) (cnd (iNe x.1.2.2.2.1 x.2.2.2.2.1)
 (some false) (cnd (bNe x.1.2.2.2.2 x.2.2.2.2.2) (some false) (some true))))))))))
def S_l_eqRowS_0 (x:((List ((List UInt8)×((Int×(List UInt8))×((Int×(List UInt8))×(Int×Bool)))))×(List ((List UInt8)×((Int×(List UInt8))×((Int ×
 (List UInt8))×(Int×Bool))))))):(Int)->Option ((Int) ⊕ Bool):=fun (z1:Int)=>(cnd (iLt z1 (lLen x.1)) (bnd (idx x.1 z1) (fun z2=>(bnd (idx x.2 z1) (fun z3=>(bnd
 (F_l_eqRow ((z2.1,((z2.2.1.1,z2.2.1.2),((z2.2.2.1.1,z2.2.2.1.2),(z2.2.2.2.1,z2.2.2.2.2)))),(z3.1,((z3.2.1.1,z3.2.1.2),((z3.2.2.1.1,z3.2.2.1.2),(z3.2.2.2.1,
 z3.2.2.2.2)))))) (fun z4=>(cnd (bNot z4) (some (.inr false)) (some (.inl (iAdd .i64 z1 1)))))))))) (some (.inr true)))
def F_l_eqRowS (x:((List ((List UInt8)×((Int×(List UInt8))×((Int×(List UInt8))×(Int×Bool)))))×(List ((List UInt8)×((Int×(List UInt8))×((Int ×
 (List UInt8))×(Int×Bool))))))):(Option Bool):=(cnd (iNe (lLen x.1) (lLen x.2)) (some false) (loopX (S_l_eqRowS_0 x) 0))
def F_l_eqMark (x:((Int×(Int×Int))×(Int×(Int×Int)))):(Option Bool):=(cnd (iNe x.1.1 x.2.1) (some false) (cnd (iNe x.1.2.1 x.2.2.1) (some false) (cnd
 (iNe x.1.2.2 x.2.2.2) (some false) (some true))))
def S_l_eqMarkS_0 (x:((List (Int×(Int×Int)))×(List (Int×(Int×Int))))):(Int)->Option ((Int) ⊕ Bool):=fun (z1:Int)=>(cnd (iLt z1 (lLen x.1)) (bnd
 (idx x.1 z1) (fun z2=>(bnd (idx x.2 z1) (fun z3=>(bnd (F_l_eqMark ((z2.1,(z2.2.1,z2.2.2)),(z3.1,(z3.2.1,z3.2.2)))) (fun
 z4=>(cnd (bNot z4) (some (.inr false)) (some (.inl (iAdd .i64 z1 1)))))))))) (some (.inr true)))
def F_l_eqMarkS (x:((List (Int×(Int×Int)))×(List (Int×(Int×Int))))):(Option Bool):=(cnd (iNe (lLen x.1) (lLen x.2)) (some false) (loopX (S_l_eqMarkS_0
 x) 0))
def F_l_eqTab (x:(((List ((List UInt8)×((Int×(List UInt8))×((Int×(List UInt8))×(Int×Bool)))))×(Int×(List (Int×(Int×Int)))))×((List ((List
 UInt8)×((Int×(List UInt8))×((Int×(List UInt8))×(Int×Bool)))))×(Int×(List (Int×(Int×Int))))))):(Option Bool):=(bnd (F_l_eqRowS (x.1.1,x.2.1)) (fun z1=>(cnd (bNot z1) (some false) (cnd (iNe x.1.2.1 x.2.2.1) (some false) (bnd (F_l_eqMarkS (x.1.2.2,x.2.2.2)) (fun z2=>(cnd (bNot z2) (some false) (some
 true))))))))
def F_l_eqStore (x:((((List (List UInt8))×((List (Int×(List UInt8)))×(Int×Bool)))×(((List ((List UInt8)×((Int×(List UInt8))×((Int×(List UInt8)) ×
 (Int×Bool)))))×(Int×(List (Int×(Int×Int)))))×(Int×Int)))×(((List (List UInt8))×((List (Int×(List UInt8)))×(Int×Bool)))×(((List ((List UInt8)×((Int ×
 (List UInt8))×((Int×(List UInt8))×(Int×Bool)))))×(Int×(List (Int×(Int×Int)))))×(Int×Int))))):(Option Bool):=(bnd (F_l_eqDev ((x.1.1.1,(x.1.1.2.1,
 (x.1.1.2.2.1,x.1.1.2.2.2))),(x.2.1.1,(x.2.1.2.1,(x.2.1.2.2.1,x.2.1.2.2.2))))) (fun z1=>(cnd (bNot z1) (some false) (bnd (F_l_eqTab ((x.1.2.1.1,(x.1.2.1.2.1,
 x.1.2.1.2.2)),(x.2.2.1.1,(x.2.2.1.2.1,x.2.2.1.2.2)))) (fun z2=>(cnd (bNot z2) (some false) (cnd (iNe x.1.2.2.1 x.2.2.2.1) (some false) (cnd (iNe x.1.2.2.2
 x.2.2.2.2) (some false) (some true)))))))))
def S_l_markByteS_0:((List UInt8)×(Int×Int))->Option (((List UInt8)×(Int×Int)) ⊕ (((List UInt8)×Int) ⊕ (Int×(List UInt8)))):=fun (z1:((List UInt8)
 × (Int×Int)))=>(cnd (iLt z1.2.2 (lLen z1.1)) (bnd (idx z1.1 z1.2.2) (fun z2=>(some (.inl ((lSet z1.1 (nOf z1.2.2) (u8 (iConv .u8 z1.2.1))),((iAdd .i64 z1.2.1 1),
 (iAdd .i64 z1.2.2 1))))))) (some (.inr (.inl (z1.1,z1.2.1)))))
def F_l_markByteS (x:((List UInt8)×Int)):(Option (Int×(List UInt8))):=(joinX (loopX (S_l_markByteS_0) (x.1,(x.2,0))) (fun (z1:((List UInt8)×Int)) =>
 (chk (nEq z1.1.length x.1.length) (some (z1.2,z1.1)))))
def S_l_markByteSS_0:((List (List UInt8))×(Int×Int))->Option (((List (List UInt8))×(Int×Int)) ⊕ (((List (List UInt8))×Int) ⊕ (Int×(List (List
 UInt8))))):=fun (z1:((List (List UInt8))×(Int×Int)))=>(cnd (iLt z1.2.2 (lLen z1.1)) (bnd (idx z1.1 z1.2.2) (fun z2=>(bnd (idx z1.1 (Int.ofNat (nOf
 z1.2.2))) (fun z3=>(chk (nEq z3.length z2.length) (bnd (F_l_markByteS (z2,z1.2.1)) (fun z4=>(chk (nEq z4.2.length z2.length) (bnd
 (idx z1.1 (Int.ofNat (nOf z1.2.2))) (fun z5=>(some (.inl ((lSet z1.1 (nOf z1.2.2) z4.2),(z4.1,(iAdd .i64 z1.2.2 1))))))))))))))) (some (.inr (.inl (z1.1,
 z1.2.1)))))
def F_l_markByteSS (x:((List (List UInt8))×Int)):(Option (Int×(List (List UInt8)))):=(joinX (loopX (S_l_markByteSS_0) (x.1,(x.2,0))) (fun (z1:((List
 (List UInt8))×Int))=>(chk (nEq z1.1.length x.1.length) (some (z1.2,z1.1)))))
def S_l_markWrS_0:((List (Int×(List UInt8)))×(Int×Int))->Option (((List (Int×(List UInt8)))×(Int×Int)) ⊕ (((List (Int×(List UInt8)))×Int) ⊕ (Int ×
 (List (Int×(List UInt8)))))):=fun (z1:((List (Int×(List UInt8)))×(Int×Int)))=>(cnd (iLt z1.2.2 (lLen z1.1)) (bnd (idx z1.1 z1.2.2) (fun z2
 => (bnd (idx (lSet z1.1 (nOf z1.2.2) (z1.2.1,z2.2)) z1.2.2) (fun z3=>(bnd (idx (lSet z1.1 (nOf z1.2.2) (z1.2.1,z2.2)) (Int.ofNat (nOf z1.2.2))) (fun
 z4=>(chk (nEq z4.2.length z3.2.length) (bnd (F_l_markByteS (z3.2,(iAdd .i64 z1.2.1 1))) (fun z5=>(chk (nEq z5.2.length
 z3.2.length) (bnd (idx (lSet z1.1 (nOf z1.2.2) (z1.2.1,z2.2)) (Int.ofNat (nOf z1.2.2))) (fun z6=>(some (.inl ((lSet (lSet z1.1 (nOf z1.2.2) (z1.2.1,
 z2.2)) (nOf z1.2.2) (z6.1,z5.2)),(z5.1,(iAdd .i64 z1.2.2 1))))))))))))))))) (some (.inr (.inl (z1.1,z1.2.1)))))
def F_l_markWrS (x:((List (Int×(List UInt8)))×Int)):(Option (Int×(List (Int×(List UInt8))))):=(joinX (loopX (S_l_markWrS_0) (x.1,(x.2,0))) (fun (z1 :
 ((List (Int×(List UInt8)))×Int))=>(chk (nEq z1.1.length x.1.length) (some (z1.2,z1.1)))))
def F_l_markDev (x:(((List (List UInt8))×((List (Int×(List UInt8)))×(Int×Bool)))×Int)):(Option (Int×((List (List UInt8))×(List (Int×(List
 UInt8)))))):=(bnd (F_l_markByteSS (x.1.1,x.2)) (fun z1=>(chk (nEq z1.2.length x.1.1.length) (bnd (F_l_markWrS (x.1.2.1,z1.1)) (fun z2=>(chk (nEq z2.2.length x.1.2.1.length) (chk (nEq z1.2.length x.1.1.length) (chk (nEq z2.2.length x.1.2.1.length) (some (z2.1,(z1.2,
 z2.2)))))))))))
def S_l_markText_0:(Int×(List UInt8))->Option ((Int×(List UInt8)) ⊕ ((List UInt8) ⊕ (List UInt8))):=fun (z1:(Int×(List UInt8)))=>(cnd (iGt z1.1 0) (chk
 (small [(u8 (iConv .u8 (iAdd .i64 48 (iRem z1.1 10))))] z1.2) (some (.inl ((iQuo .i64 z1.1 10),(lApp [(u8 (iConv .u8 (iAdd .i64 48 (iRem z1.1 10))))] z1.2))))) (some (.inr (.inl
 z1.2))))
def F_l_markText (x:Int):(Option (List UInt8)):=(cnd (iLe x 0) (some [109,48]) (joinX (loopX (S_l_markText_0) (x,[])) (fun (z1:(List UInt8))=>(chk (small
 [109] z1) (some (lApp [109] z1))))))
def S_l_markRowS_0:((List ((List UInt8)×((Int×(List UInt8))×((Int×(List UInt8))×(Int×Bool)))))×(Int×Int))->Option (((List ((List UInt8)×((Int ×
 (List UInt8))×((Int×(List UInt8))×(Int×Bool)))))×(Int×Int)) ⊕ (((List ((List UInt8)×((Int×(List UInt8))×((Int×(List UInt8))×(Int×Bool)))))×Int) ⊕ (Int ×
 (List ((List UInt8)×((Int×(List UInt8))×((Int×(List UInt8))×(Int×Bool)))))))):=fun (z1:((List ((List UInt8)×((Int×(List UInt8))×((Int×(List UInt8))×(Int
 × Bool)))))×(Int×Int)))=>(cnd (iLt z1.2.2 (lLen z1.1)) (bnd (F_l_markText z1.2.1) (fun z2=>(bnd (idx z1.1 z1.2.2) (fun z3=>(bnd (idx (lSet z1.1 (nOf z1.2.2) (z2,((z3.2.1.1,z3.2.1.2),((z3.2.2.1.1,z3.2.2.1.2),(z3.2.2.2.1,z3.2.2.2.2)))))
 z1.2.2) (fun z4=>(bnd (idx (lSet (lSet z1.1 (nOf z1.2.2) (z2,((z3.2.1.1,z3.2.1.2),
 ((z3.2.2.1.1,z3.2.2.1.2),(z3.2.2.2.1,z3.2.2.2.2))))) (nOf z1.2.2) (z4.1,(((iAdd .i64 z1.2.1 1),z4.2.1.2),((z4.2.2.1.1,z4.2.2.1.2),(z4.2.2.2.1,z4.2.2.2.2))))) z1.2.2)
 (fun z5=>(bnd (idx (lSet (lSet z1.1 (nOf z1.2.2) (z2,((z3.2.1.1,z3.2.1.2),((z3.2.2.1.1,
 z3.2.2.1.2),(z3.2.2.2.1,z3.2.2.2.2))))) (nOf z1.2.2) (z4.1,(((iAdd .i64 z1.2.1 1),z4.2.1.2),((z4.2.2.1.1,z4.2.2.1.2),(z4.2.2.2.1,z4.2.2.2.2))))) (Int.ofNat (nOf z1.2.2)))
 (fun z6=>(chk (nEq z6.2.1.2.length z5.2.1.2.length) (bnd (F_l_markByteS (z5.2.1.2,(iAdd
 .i64 (iAdd .i64 z1.2.1 1) 1))) (fun z7=>(chk (nEq z7.2.length z5.2.1.2.length) (bnd (idx (lSet (lSet z1.1 (nOf z1.2.2) (z2,((z3.2.1.1,z3.2.1.2),
 ((z3.2.2.1.1,z3.2.2.1.2),(z3.2.2.2.1,z3.2.2.2.2))))) (nOf z1.2.2) (z4.1,(((iAdd .i64 z1.2.1 1),z4.2.1.2),((z4.2.2.1.1,z4.2.2.1.2),(z4.2.2.2.1,z4.2.2.2.2))))) (Int.ofNat
 (nOf z1.2.2))) (fun z8=>(bnd (idx (lSet (lSet (lSet z1.1 (nOf z1.2.2) (z2,((z3.2.1.1,
 z3.2.1.2),((z3.2.2.1.1,z3.2.2.1.2),(z3.2.2.2.1,z3.2.2.2.2))))) (nOf z1.2.2) (z4.1,(((iAdd .i64 z1.2.1 1),z4.2.1.2),((z4.2.2.1.1,z4.2.2.1.2),(z4.2.2.2.1,z4.2.2.2.2)))))
 (nOf z1.2.2) (z8.1,((z8.2.1.1,z7.2),z8.2.2))) z1.2.2) (fun z9=>(bnd (idx (lSet (lSet
 (lSet (lSet z1.1 (nOf z1.2.2) (z2,((z3.2.1.1,z3.2.1.2),((z3.2.2.1.1,z3.2.2.1.2),(z3.2.2.2.1,z3.2.2.2.2))))) (nOf z1.2.2) (z4.1,(((iAdd .i64 z1.2.1 1),z4.2.1.2),
 ((z4.2.2.1.1,z4.2.2.1.2),(z4.2.2.2.1,z4.2.2.2.2))))) (nOf z1.2.2) (z8.1,((z8.2.1.1,z7.2),z8.2.2))) (nOf z1.2.2) (z9.1,((z9.2.1.1,z9.2.1.2),((z7.1,z9.2.2.1.2),
 (z9.2.2.2.1,z9.2.2.2.2))))) z1.2.2) (fun z10=>(bnd (idx (lSet (lSet (lSet (lSet z1.1 (nOf
 z1.2.2) (z2,((z3.2.1.1,z3.2.1.2),((z3.2.2.1.1,z3.2.2.1.2),(z3.2.2.2.1,z3.2.2.2.2))))) (nOf z1.2.2) (z4.1,(((iAdd .i64 z1.2.1 1),z4.2.1.2),((z4.2.2.1.1,z4.2.2.1.2),
 (z4.2.2.2.1,z4.2.2.2.2))))) (nOf z1.2.2) (z8.1,((z8.2.1.1,z7.2),z8.2.2))) (nOf z1.2.2) (z9.1,((z9.2.1.1,z9.2.1.2),((z7.1,z9.2.2.1.2),(z9.2.2.2.1,z9.2.2.2.2)))))
 (Int.ofNat (nOf z1.2.2))) (fun z11=>(chk (nEq z11.2.2.1.2.length z10.2.2.1.2.length) (bnd
 (F_l_markByteS (z10.2.2.1.2,(iAdd .i64 z7.1 1))) (fun z12=>(chk (nEq z12.2.length z10.2.2.1.2.length) (bnd (idx (lSet (lSet (lSet (lSet z1.1 (nOf
 z1.2.2) (z2,((z3.2.1.1,z3.2.1.2),((z3.2.2.1.1,z3.2.2.1.2),(z3.2.2.2.1,z3.2.2.2.2))))) (nOf z1.2.2) (z4.1,(((iAdd .i64 z1.2.1 1),z4.2.1.2),((z4.2.2.1.1,z4.2.2.1.2),
 (z4.2.2.2.1,z4.2.2.2.2))))) (nOf z1.2.2) (z8.1,((z8.2.1.1,z7.2),z8.2.2))) (nOf z1.2.2) (z9.1,((z9.2.1.1,z9.2.1.2),((z7.1,z9.2.2.1.2),(z9.2.2.2.1,z9.2.2.2.2)))))
 (Int.ofNat (nOf z1.2.2))) (fun z13=>(bnd (idx (lSet (lSet (lSet (lSet (lSet z1.1 (nOf
 z1.2.2) (z2,((z3.2.1.1,z3.2.1.2),((z3.2.2.1.1,z3.2.2.1.2),(z3.2.2.2.1,z3.2.2.2.2))))) (nOf z1.2.2) (z4.1,(((iAdd .i64 z1.2.1 1),z4.2.1.2),((z4.2.2.1.1,z4.2.2.1.2),
 (z4.2.2.2.1,z4.2.2.2.2))))) (nOf z1.2.2) (z8.1,((z8.2.1.1,z7.2),z8.2.2))) (nOf z1.2.2) (z9.1,((z9.2.1.1,z9.2.1.2),((z7.1,z9.2.2.1.2),(z9.2.2.2.1,z9.2.2.2.2))))) (nOf
 z1.2.2) (z13.1,(z13.2.1,((z13.2.2.1.1,z12.2),z13.2.2.2)))) z1.2.2) (fun z14=>(bnd (idx
 (lSet (lSet (lSet (lSet (lSet (lSet z1.1 (nOf z1.2.2) (z2,((z3.2.1.1,z3.2.1.2),((z3.2.2.1.1,z3.2.2.1.2),(z3.2.2.2.1,z3.2.2.2.2))))) (nOf z1.2.2) (z4.1,(((iAdd .i64 z1.2.1
 1),z4.2.1.2),((z4.2.2.1.1,z4.2.2.1.2),(z4.2.2.2.1,z4.2.2.2.2))))) (nOf z1.2.2) (z8.1,((z8.2.1.1,z7.2),z8.2.2))) (nOf z1.2.2) (z9.1,((z9.2.1.1,z9.2.1.2),((z7.1,
 z9.2.2.1.2),(z9.2.2.2.1,z9.2.2.2.2))))) (nOf z1.2.2) (z13.1,(z13.2.1,((z13.2.2.1.1,z12.2),z13.2.2.2)))) (nOf z1.2.2) (z14.1,((z14.2.1.1,z14.2.1.2),((z14.2.2.1.1,
 z14.2.2.1.2),(z12.1,z14.2.2.2.2))))) z1.2.2) (fun z15=>(some (.inl ((lSet (lSet (lSet
 (lSet (lSet (lSet (lSet z1.1 (nOf z1.2.2) (z2,((z3.2.1.1,z3.2.1.2),((z3.2.2.1.1,z3.2.2.1.2),(z3.2.2.2.1,z3.2.2.2.2))))) (nOf z1.2.2) (z4.1,(((iAdd .i64 z1.2.1 1),
 z4.2.1.2),((z4.2.2.1.1,z4.2.2.1.2),(z4.2.2.2.1,z4.2.2.2.2))))) (nOf z1.2.2) (z8.1,((z8.2.1.1,z7.2),z8.2.2))) (nOf z1.2.2) (z9.1,((z9.2.1.1,z9.2.1.2),((z7.1,
 z9.2.2.1.2),(z9.2.2.2.1,z9.2.2.2.2))))) (nOf z1.2.2) (z13.1,(z13.2.1,((z13.2.2.1.1,z12.2),z13.2.2.2)))) (nOf z1.2.2) (z14.1,((z14.2.1.1,z14.2.1.2),((z14.2.2.1.1,
 z14.2.2.1.2),(z12.1,z14.2.2.2.2))))) (nOf z1.2.2) (z15.1,((z15.2.1.1,z15.2.1.2),((z15.2.2.1.1,z15.2.2.1.2),(z15.2.2.2.1,(iEq (iRem (iAdd .i64 z12.1 1) 3) 0)))))),((iAdd
 .i64 (iAdd .i64 z12.1 1) 1),(iAdd .i64 z1.2.2 1))))))))))))))))))))))))))))))))))))) (some (.inr (.inl (z1.1,z1.2.1)))))
def F_l_markRowS (x:((List ((List UInt8)×((Int×(List UInt8))×((Int×(List UInt8))×(Int×Bool)))))×Int)):(Option (Int×(List ((List UInt8)×((Int ×
 (List UInt8))×((Int×(List UInt8))×(Int×Bool))))))):=(joinX (loopX (S_l_markRowS_0) (x.1,(x.2,0))) (fun (z1:((List ((List UInt8)×((Int×(List UInt8))×((Int ×
 (List UInt8))×(Int×Bool)))))×Int))=>(chk (nEq z1.1.length x.1.length) (some (z1.2,z1.1)))))
def S_l_markMarkS_0:((List (Int×(Int×Int)))×(Int×Int))->Option (((List (Int×(Int×Int)))×(Int×Int)) ⊕ (((List (Int×(Int×Int)))×Int) ⊕ (Int ×
 (List (Int×(Int×Int)))))):=fun (z1:((List (Int×(Int×Int)))×(Int×Int)))=>(cnd (iLt z1.2.2 (lLen z1.1)) (bnd (idx z1.1 z1.2.2) (fun z2 =>
 (bnd (idx (lSet z1.1 (nOf z1.2.2) (z1.2.1,(z2.2.1,z2.2.2))) z1.2.2) (fun z3=>(bnd (idx (lSet (lSet z1.1 (nOf z1.2.2) (z1.2.1,(z2.2.1,z2.2.2))) (nOf
 z1.2.2) (z3.1,((iAdd .i64 z1.2.1 1),z3.2.2))) z1.2.2) (fun z4=>(some (.inl ((lSet (lSet (lSet z1.1 (nOf z1.2.2) (z1.2.1,(z2.2.1,z2.2.2))) (nOf
 z1.2.2) (z3.1,((iAdd .i64 z1.2.1 1),z3.2.2))) (nOf z1.2.2) (z4.1,(z4.2.1,(iAdd .i64 (iAdd .i64 z1.2.1 1) 1)))),((iAdd .i64 (iAdd .i64 (iAdd .i64 z1.2.1 1) 1) 1),(iAdd .i64
 z1.2.2 1))))))))))) (some (.inr (.inl (z1.1,z1.2.1)))))
def F_l_markMarkS (x:((List (Int×(Int×Int)))×Int)):(Option (Int×(List (Int×(Int×Int))))):=(joinX (loopX (S_l_markMarkS_0) (x.1,(x.2,0))) (fun (z1
 : ((List (Int×(Int×Int)))×Int))=>(chk (nEq z1.1.length x.1.length) (some (z1.2,z1.1)))))
def F_l_markTab (x:(((List ((List UInt8)×((Int×(List UInt8))×((Int×(List UInt8))×(Int×Bool)))))×(Int×(List (Int×(Int×Int)))))×Int)):(Option
 (Int×((List ((List UInt8)×((Int×(List UInt8))×((Int×(List UInt8))×(Int×Bool)))))×(List (Int×(Int×Int)))))):=(bnd (F_l_markRowS (x.1.1,x.2)) (fun z1=>(chk (nEq z1.2.length x.1.1.length) (bnd (F_l_markMarkS (x.1.2.2,z1.1)) (fun z2=>(chk (nEq z2.2.length x.1.2.2.length) (chk (nEq z1.2.length x.1.1.length) (chk (nEq z2.2.length x.1.2.2.length) (some (z2.1,(z1.2,
 z2.2)))))))))))
def F_l_markStore (x:((((List (List UInt8))×((List (Int×(List UInt8)))×(Int×Bool)))×(((List ((List UInt8)×((Int×(List UInt8))×((Int×(List UInt8))
 × (Int×Bool)))))×(Int×(List (Int×(Int×Int)))))×(Int×Int)))×Int)):(Option (Int×((List (List UInt8))×((List (Int×(List UInt8)))×((List ((List UInt8) ×
 ((Int×(List UInt8))×((Int×(List UInt8))×(Int×Bool)))))×(List (Int×(Int×Int)))))))):=(bnd (F_l_markDev ((x.1.1.1,(x.1.1.2.1,(x.1.1.2.2.1,x.1.1.2.2.2))),x.2))
 (fun z1=>(chk (nEq z1.2.1.length x.1.1.1.length) (chk (nEq z1.2.2.length x.1.1.2.1.length) (bnd (F_l_markTab
 ((x.1.2.1.1,(x.1.2.1.2.1,x.1.2.1.2.2)),z1.1)) (fun z2=>(chk (nEq z2.2.1.length x.1.2.1.1.length) (chk (nEq z2.2.2.length x.1.2.1.2.2.length) (chk (nEq z1.2.1.length x.1.1.1.length) (chk (nEq z1.2.2.length
 x.1.1.2.1.length) (chk (nEq z2.2.1.length x.1.2.1.1.length) (chk (nEq z2.2.2.length x.1.2.1.2.2.length) (some (z2.1,(z1.2.1,(z1.2.2,(z2.2.1,z2.2.2)))))))))))))))))
def S_l_heldByteS_0 (x:((List UInt8)×Int)):(Int×Int)->Option ((Int×Int) ⊕ (Int ⊕ Int)):=fun (z1:(Int×Int))=>(cnd (iLt z1.2 (lLen x.1)) (bnd (idx
 x.1 z1.2) (fun z2=>(cnd (iNe (y2i z2) (y2i (u8 (iConv .u8 z1.1)))) (some (.inr (.inr (-1)))) (some (.inl ((iAdd .i64 z1.1 1),(iAdd .i64 z1.2 1))))))) (some (.inr
 (.inl z1.1))))
def F_l_heldByteS (x:((List UInt8)×Int)):(Option Int):=(joinX (loopX (S_l_heldByteS_0 x) (x.2,0)) (fun (z1:Int)=>(some z1)))
def S_l_heldByteSS_0 (x:((List (List UInt8))×Int)):(Int×Int)->Option ((Int×Int) ⊕ (Int ⊕ Int)):=fun (z1:(Int×Int))=>(cnd (iLt z1.2 (lLen x.1)) (bnd
 (idx x.1 z1.2) (fun z2=>(bnd (F_l_heldByteS (z2,z1.1)) (fun z3=>(cnd (iLt z3 0) (some (.inr (.inr (-1)))) (some (.inl (z3,(iAdd .i64 z1.2
 1))))))))) (some (.inr (.inl z1.1))))
def F_l_heldByteSS (x:((List (List UInt8))×Int)):(Option Int):=(joinX (loopX (S_l_heldByteSS_0 x) (x.2,0)) (fun (z1:Int)=>(some z1)))
def S_l_heldWrS_0 (x:((List (Int×(List UInt8)))×Int)):(Int×Int)->Option ((Int×Int) ⊕ (Int ⊕ Int)):=fun (z1:(Int×Int))=>(cnd (iLt z1.2 (lLen x.1))
 (bnd (idx x.1 z1.2) (fun z2=>(cnd (iNe z2.1 z1.1) (some (.inr (.inr (-1)))) (bnd (idx x.1 z1.2) (fun z3=>(bnd (F_l_heldByteS
 (z3.2,(iAdd .i64 z1.1 1))) (fun z4=>(cnd (iLt z4 0) (some (.inr (.inr (-1)))) (some (.inl (z4,(iAdd .i64 z1.2 1)))))))))))) (some (.inr (.inl z1.1))))
def F_l_heldWrS (x:((List (Int×(List UInt8)))×Int)):(Option Int):=(joinX (loopX (S_l_heldWrS_0 x) (x.2,0)) (fun (z1:Int)=>(some z1)))
def F_l_heldDev (x:(((List (List UInt8))×((List (Int×(List UInt8)))×(Int×Bool)))×Int)):(Option Int):=(bnd (F_l_heldByteSS (x.1.1,x.2)) (fun z1=>(cnd (iLt z1 0) (some (-1)) (bnd (F_l_heldWrS (x.1.2.1,z1)) (fun z2=>(cnd (iLt z2 0) (some (-1)) (some z2)))))))
def S_l_heldRowS_0 (x:((List ((List UInt8)×((Int×(List UInt8))×((Int×(List UInt8))×(Int×Bool)))))×Int)):(Int×Int)->Option ((Int×Int) ⊕ (Int ⊕
 Int)):=fun (z1:(Int×Int))=>(cnd (iLt z1.2 (lLen x.1)) (bnd (idx x.1 z1.2) (fun z2 =>
 (bnd (F_l_markText z1.1) (fun z3=>(cnd (bNot (sEq z2.1 z3)) (some (.inr (.inr (-1)))) (bnd (idx x.1 z1.2) (fun z4=>(cnd (iNe z4.2.1.1 (iAdd .i64 z1.1 1)) (some (.inr (.inr (-1)))) (bnd (idx x.1 z1.2) (fun z5=>(bnd (F_l_heldByteS (z5.2.1.2,(iAdd .i64 (iAdd .i64 z1.1 1) 1))) (fun z6=>(cnd (iLt z6 0) (some (.inr (.inr (-1)))) (bnd
 (idx x.1 z1.2) (fun z7=>(cnd (iNe z7.2.2.1.1 z6) (some (.inr (.inr (-1)))) (bnd (idx x.1
 z1.2) (fun z8=>(bnd (F_l_heldByteS (z8.2.2.1.2,(iAdd .i64 z6 1))) (fun z9=>(cnd
 (iLt z9 0) (some (.inr (.inr (-1)))) (bnd (idx x.1 z1.2) (fun z10=>(cnd (iNe z10.2.2.2.1 z9)
 (some (.inr (.inr (-1)))) (bnd (idx x.1 z1.2) (fun z11=>(cnd (bNe z11.2.2.2.2 (iEq (iRem
 (iAdd .i64 z9 1) 3) 0)) (some (.inr (.inr (-1)))) (some (.inl ((iAdd .i64 (iAdd .i64 z9 1) 1),(iAdd .i64 z1.2 1))))))))))))))))))))))))))))))) (some (.inr (.inl z1.1))))
def F_l_heldRowS (x:((List ((List UInt8)×((Int×(List UInt8))×((Int×(List UInt8))×(Int×Bool)))))×Int)):(Option Int):=(joinX (loopX (S_l_heldRowS_0
 x) (x.2,0)) (fun (z1:Int)=>(some z1)))
def S_l_heldMarkS_0 (x:((List (Int×(Int×Int)))×Int)):(Int×Int)->Option ((Int×Int) ⊕ (Int ⊕ Int)):=fun (z1:(Int×Int))=>(cnd (iLt z1.2 (lLen
 x.1)) (bnd (idx x.1 z1.2) (fun z2=>(cnd (iNe z2.1 z1.1) (some (.inr (.inr (-1)))) (bnd (idx x.1 z1.2) (fun z3=>(cnd (iNe
 z3.2.1 (iAdd .i64 z1.1 1)) (some (.inr (.inr (-1)))) (bnd (idx x.1 z1.2) (fun z4=>(cnd (iNe z4.2.2 (iAdd .i64 (iAdd .i64 z1.1 1) 1)) (some (.inr (.inr
 (-1)))) (some (.inl ((iAdd .i64 (iAdd .i64 (iAdd .i64 z1.1 1) 1) 1),(iAdd .i64 z1.2 1))))))))))))) (some (.inr (.inl z1.1))))
def F_l_heldMarkS (x:((List (Int×(Int×Int)))×Int)):(Option Int):=(joinX (loopX (S_l_heldMarkS_0 x) (x.2,0)) (fun (z1:Int)=>(some z1)))
def F_l_heldTab (x:(((List ((List UInt8)×((Int×(List UInt8))×((Int×(List UInt8))×(Int×Bool)))))×(Int×(List (Int×(Int×Int)))))×Int)):(Option
 Int):=(bnd (F_l_heldRowS (x.1.1,x.2)) (fun z1=>(cnd (iLt z1 0) (some (-1)) (bnd (F_l_heldMarkS (x.1.2.2,z1)) (fun z2=>(cnd (iLt z2 0) (some (-1)) (some
 z2)))))))
def F_l_heldStore (x:((((List (List UInt8))×((List (Int×(List UInt8)))×(Int×Bool)))×(((List ((List UInt8)×((Int×(List UInt8))×((Int×(List UInt8))
 × (Int×Bool)))))×(Int×(List (Int×(Int×Int)))))×(Int×Int)))×Int)):(Option Int):=(bnd (F_l_heldDev ((x.1.1.1,(x.1.1.2.1,(x.1.1.2.2.1,x.1.1.2.2.2))),x.2))
 (fun z1=>(cnd (iLt z1 0) (some (-1)) (bnd (F_l_heldTab ((x.1.2.1.1,(x.1.2.1.2.1,x.1.2.1.2.2)),z1)) (fun z2=>(cnd (iLt z2 0) (some (-1)) (some z2)))))))
def F_l_FnExactFormat (x:Unit):(Option Bool):=(bnd (F_s_Format ()) (fun z1=>(bnd (F_i_Format ()) (fun z2=>(bnd (F_l_eqStore (((z2.1.1,(z2.1.2.1,(z2.1.2.2.1,z2.1.2.2.2))),((z2.2.1.1,(z2.2.1.2.1,z2.2.1.2.2)),(z2.2.2.1,z2.2.2.2))),((z1.1.1,
 (z1.1.2.1,(z1.1.2.2.1,z1.1.2.2.2))),((z1.2.1.1,(z1.2.1.2.1,z1.2.1.2.2)),(z1.2.2.1,z1.2.2.2))))) (fun z3=>(cnd (bNot z3) (some false) (bnd (F_l_markStore
 (((z2.1.1,(z2.1.2.1,(z2.1.2.2.1,z2.1.2.2.2))),((z2.2.1.1,(z2.2.1.2.1,z2.2.1.2.2)),(z2.2.2.1,z2.2.2.2))),1)) (fun z4=>(chk (nEq z4.2.1.length z2.1.1.length)
 (chk (nEq z4.2.2.1.length z2.1.2.1.length) (chk (nEq z4.2.2.2.1.length z2.2.1.1.length) (chk (nEq z4.2.2.2.2.length z2.2.1.2.2.length) (bnd (F_l_heldStore (((z4.2.1,(z4.2.2.1,
 (z2.1.2.2.1,z2.1.2.2.2))),((z4.2.2.2.1,(z2.2.1.2.1,z4.2.2.2.2)),(z2.2.2.1,z2.2.2.2))),1)) (fun z5=>(cnd (iLt z5 0) (some false) (cnd (iNe z5 z4.1) (some false)
 (bnd (F_i_Format ()) (fun z6=>(bnd (F_l_eqStore (((z6.1.1,(z6.1.2.1,(z6.1.2.2.1,z6.1.2.2.2))),((z6.2.1.1,(z6.2.1.2.1,
 z6.2.1.2.2)),(z6.2.2.1,z6.2.2.2))),((z1.1.1,(z1.1.2.1,(z1.1.2.2.1,z1.1.2.2.2))),((z1.2.1.1,(z1.2.1.2.1,z1.2.1.2.2)),(z1.2.2.1,z1.2.2.2))))) (fun z7=>(cnd
 (bNot z7) (some false) (bnd (F_l_heldStore (((z4.2.1,(z4.2.2.1,(z2.1.2.2.1,z2.1.2.2.2))),((z4.2.2.2.1,(z2.2.1.2.1,z4.2.2.2.2)),(z2.2.2.1,z2.2.2.2))),1)) (fun z8
 => (cnd (iLt z8 0) (some false) (cnd (iNe z8 z4.1) (some false) (some true)))))))))))))))))))))))))))
end
end Go.Vs
