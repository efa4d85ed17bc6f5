import Derived.Test.YtmpopjdcbabchaaGreatDoorVsW5
set_option linter.all false
namespace Go.Vs
noncomputable section
def gFirst:List UInt8:=[240,240,240,240,240,240,240,240,240,240,240,240,240,240,240,240,240,240,240,240,240,240,240,240,240,240,240,240,240,240,
 240,240,240,240,240,240,240,240,240,240,240,240,240,240,240,240,240,240,240,240,240,240,240,240,240,240,240,240,240,240,240,240,240,240,240,
 240,240,240,240,240,240,240,240,240,240,240,240,240,240,240,240,240,240,240,240,240,240,240,240,240,240,240,240,240,240,240,240,240,240,240,
 240,240,240,240,240,240,240,240,240,240,240,240,240,240,240,240,240,240,240,240,240,240,240,240,240,240,240,240,241,241,241,241,241,241,241,
 241,241,241,241,241,241,241,241,241,241,241,241,241,241,241,241,241,241,241,241,241,241,241,241,241,241,241,241,241,241,241,241,241,241,241,
 241,241,241,241,241,241,241,241,241,241,241,241,241,241,241,241,241,241,241,241,241,241,241,241,2,2,2,2,2,2,2,2,2,2,2,2,2,2,2,2,2,2,2,
 2,2,2,2,2,2,2,2,2,2,2,19,3,3,3,3,3,3,3,3,3,3,3,3,35,3,3,52,4,4,4,68,241,241,241,241,241,241,241,241,241,241,241]
def gAcc:List UInt8:=[128,191,160,191,128,159,144,191,128,143,0,0,0,0,0,0,0,0,0,0,0,0,0,0,0,0,0,0,0,0,0,0]
instance glbI:Glb:=⟨[(0,gFirst),(1,gAcc)]⟩
def Zdv (x:((List UInt8)×Int)):(Option Int):=(cnd (iLt (iSub .i64 x.2 (lLen x.1)) 0) (some (-1)) (some (iSub .i64 x.2 (lLen x.1))))
def Zcn (x:((Int×(List UInt8))×Int)):(Option Int):=(bnd (Zdv (x.1.2,x.2)) (fun z1=>(cnd (iLt z1 0) (some (-1)) (some z1))))
def Zbk (x:(((List UInt8)×((Int×(List UInt8))×((Int×(List UInt8))×(Int×Bool))))×Int)):(Option Int):=(cnd (iLt (iSub .i64 x.2 (lLen x.1.1))
 0) (some (-1)) (bnd (Zcn ((x.1.2.1.1,x.1.2.1.2),(iSub .i64 x.2 (lLen x.1.1)))) (fun z1=>(cnd (iLt z1 0) (some (-1)) (bnd (Zcn ((x.1.2.2.1.1,
 x.1.2.2.1.2),z1)) (fun z2=>(cnd (iLt z2 0) (some (-1)) (some z2))))))))
def Zfq (x:((List ((List UInt8)×((Int×(List UInt8))×((Int×(List UInt8))×(Int×Bool)))))×Int)):(Int×Int)->Option ((Int×Int) ⊕ (Int ⊕
 Int)):=fun (z1:(Int×Int))=>(cnd (iLt z1.2 (lLen x.1)) (bnd (idx x.1 z1.2) (fun z2 =>
 (bnd (Zbk ((z2.1,((z2.2.1.1,z2.2.1.2),((z2.2.2.1.1,z2.2.2.1.2),(z2.2.2.2.1,z2.2.2.2.2)))),z1.1)) (fun z3=>(cnd (iLt z3 0) (some (.inr (.inr (-1)))) (some
 (.inl (z3,(iAdd .i64 z1.2 1))))))))) (some (.inr (.inl z1.1))))
def Zco (x:((List ((List UInt8)×((Int×(List UInt8))×((Int×(List UInt8))×(Int×Bool)))))×Int)):(Option Int):=(cnd (iLt (iSub .i64 x.2 (lLen
 x.1)) 0) (some (-1)) (joinX (loopX (Zfq x) ((iSub .i64 x.2 (lLen x.1)),0)) (fun (z1:Int)=>(some z1))))
def Zdw (x:((List (Int×(Int×Int)))×Int)):(Option Int):=(cnd (iLt (iSub .i64 x.2 (lLen x.1)) 0) (some (-1)) (some (iSub .i64 x.2 (lLen x.1))))
def Zbv (x:(((List ((List UInt8)×((Int×(List UInt8))×((Int×(List UInt8))×(Int×Bool)))))×(Int×(List (Int×(Int×Int)))))×Int)):(Option
 Int):=(bnd (Zco (x.1.1,x.2)) (fun z1=>(cnd (iLt z1 0) (some (-1)) (bnd (Zdw (x.1.2.2,z1)) (fun z2=>(cnd (iLt z2 0) (some (-1)) (some
 z2)))))))
def Zbw (x:((Int×(((List UInt8)×((Int×(List UInt8))×((Int×(List UInt8))×(Int×Bool))))×((List UInt8)×(Int×(Int×(Int×Int))))))×Int)) :
 (Option Int):=(bnd (Zbk ((x.1.2.1.1,((x.1.2.1.2.1.1,x.1.2.1.2.1.2),((x.1.2.1.2.2.1.1,x.1.2.1.2.2.1.2),(x.1.2.1.2.2.2.1,x.1.2.1.2.2.2.2)))),x.2)) (fun z1 =>
 (cnd (iLt z1 0) (some (-1)) (cnd (iLt (iSub .i64 z1 (lLen x.1.2.2.1)) 0) (some (-1)) (some (iSub .i64 z1 (lLen x.1.2.2.1)))))))
def Zfr (x:(List UInt8)):((List UInt8)×Int)->Option (((List UInt8)×Int) ⊕ ((List UInt8) ⊕ (List UInt8))):=fun (z1:((List UInt8)×Int))=>(cnd
 (iLt z1.2 (lLen x)) (bnd (idx x z1.2) (fun z2=>(bnd (idx z1.1 z1.2) (fun z3=>(some (.inl ((lSet z1.1 (nOf z1.2) z2),(iAdd .i64 z1.2 1)))))))) (some (.inr
 (.inl z1.1))))
def Zcp (x:(List UInt8)):(Option (List UInt8)):=(chk (iEq (lLen x) (lLen x)) (chk (mkOk (lLen x) 1) (joinX (loopX (Zfr x) ((lRep (nOf (lLen
 x)) 0),0)) (fun (z1:(List UInt8))=>(some z1)))))
def Zbx (x:(Int×(List UInt8))):(Option (Int×(List UInt8))):=(bnd (Zcp x.2) (fun z1=>(some (x.1,z1))))
def Zy (x:((List UInt8)×((Int×(List UInt8))×((Int×(List UInt8))×(Int×Bool))))):(Option ((List UInt8)×((Int×(List UInt8))×((Int×(List
 UInt8))×(Int×Bool))))):=(bnd (Zbx (x.2.1.1,x.2.1.2)) (fun z1=>(bnd (Zbx (x.2.2.1.1,x.2.2.1.2)) (fun z2
 => (some (x.1,((z1.1,z1.2),((z2.1,z2.2),(x.2.2.2.1,x.2.2.2.2)))))))))
def Zfs (x:(List ((List UInt8)×((Int×(List UInt8))×((Int×(List UInt8))×(Int×Bool)))))):((List ((List UInt8)×((Int×(List UInt8))×((Int ×
 (List UInt8))×(Int×Bool)))))×Int)->Option (((List ((List UInt8)×((Int×(List UInt8))×((Int×(List UInt8))×(Int×Bool)))))×Int) ⊕ ((List ((List UInt8)×((Int ×
 (List UInt8))×((Int×(List UInt8))×(Int×Bool))))) ⊕ (List ((List UInt8)×((Int×(List UInt8))×((Int×(List UInt8))×(Int×Bool))))))):=fun (z1:((List ((List
 UInt8)×((Int×(List UInt8))×((Int×(List UInt8))×(Int×Bool)))))×Int))=>(cnd (iLt z1.2 (lLen x)) (bnd (idx x z1.2) (fun z2=>(bnd (Zy (z2.1,((z2.2.1.1,z2.2.1.2),((z2.2.2.1.1,z2.2.2.1.2),(z2.2.2.2.1,z2.2.2.2.2))))) (fun z3=>(bnd (idx z1.1 z1.2) (fun z4 =>
 (some (.inl ((lSet z1.1 (nOf z1.2) (z3.1,((z3.2.1.1,z3.2.1.2),((z3.2.2.1.1,z3.2.2.1.2),(z3.2.2.2.1,z3.2.2.2.2))))),(iAdd .i64 z1.2 1)))))))))) (some (.inr (.inl z1.1))))
def Zcq (x:(List ((List UInt8)×((Int×(List UInt8))×((Int×(List UInt8))×(Int×Bool)))))):(Option (List ((List UInt8)×((Int×(List UInt8)) ×
 ((Int×(List UInt8))×(Int×Bool)))))):=(chk (iEq (lLen x) (lLen x)) (chk (mkOk (lLen x) 96) (joinX (loopX (Zfs x) ((lRep (nOf (lLen x)) ([],((0,[]),((0,[]),
 (0,false))))),0)) (fun (z1:(List ((List UInt8)×((Int×(List UInt8))×((Int×(List UInt8))×(Int×Bool))))))=>(some z1)))))
def Zdx (x:(Int×(Int×Int))):(Option (Int×(Int×Int))):=(some (x.1,(x.2.1,x.2.2)))
def Zft (x:(List (Int×(Int×Int)))):((List (Int×(Int×Int)))×Int)->Option (((List (Int×(Int×Int)))×Int) ⊕ ((List (Int×(Int×Int))) ⊕
 (List (Int×(Int×Int))))):=fun (z1:((List (Int×(Int×Int)))×Int))=>(cnd (iLt z1.2 (lLen x)) (bnd (idx x z1.2) (fun z2=>(bnd (Zdx
 (z2.1,(z2.2.1,z2.2.2))) (fun z3=>(bnd (idx z1.1 z1.2) (fun z4=>(some (.inl ((lSet z1.1 (nOf z1.2) (z3.1,(z3.2.1,z3.2.2))),
 (iAdd .i64 z1.2 1)))))))))) (some (.inr (.inl z1.1))))
def Zcr (x:(List (Int×(Int×Int)))):(Option (List (Int×(Int×Int)))):=(chk (iEq (lLen x) (lLen x)) (chk (mkOk (lLen x) 24) (joinX (loopX
 (Zft x) ((lRep (nOf (lLen x)) (0,(0,0))),0)) (fun (z1:(List (Int×(Int×Int))))=>(some z1)))))
def Za (x:((List ((List UInt8)×((Int×(List UInt8))×((Int×(List UInt8))×(Int×Bool)))))×(Int×(List (Int×(Int×Int)))))):(Option ((List
 ((List UInt8)×((Int×(List UInt8))×((Int×(List UInt8))×(Int×Bool)))))×(Int×(List (Int×(Int×Int)))))):=(bnd (Zcq x.1) (fun z1=>(bnd (Zcr x.2.2) (fun z2=>(some (z1,(x.2.1,z2)))))))
def Zb (x:(Int×(((List UInt8)×((Int×(List UInt8))×((Int×(List UInt8))×(Int×Bool))))×((List UInt8)×(Int×(Int×(Int×Int))))))):(Option
 (Int×(((List UInt8)×((Int×(List UInt8))×((Int×(List UInt8))×(Int×Bool))))×((List UInt8)×(Int×(Int×(Int×Int))))))):=(bnd (Zy (x.2.1.1,
 ((x.2.1.2.1.1,x.2.1.2.1.2),((x.2.1.2.2.1.1,x.2.1.2.2.1.2),(x.2.1.2.2.2.1,x.2.1.2.2.2.2))))) (fun z1=>(some (x.1,((z1.1,((z1.2.1.1,z1.2.1.2),((z1.2.2.1.1,z1.2.2.1.2),(z1.2.2.2.1,z1.2.2.2.2)))),(x.2.2.1,(x.2.2.2.1,(x.2.2.2.2.1,(x.2.2.2.2.2.1,
 x.2.2.2.2.2.2)))))))))
def Zby (x:(Int×(List UInt8))):(Option (Int×(List UInt8))):=(chk (room (0+x.2.length) 1) (some (x.1,(lApp [] x.2))))
def Zl (x:((List UInt8)×((Int×(List UInt8))×((Int×(List UInt8))×(Int×Bool))))):(Option ((List UInt8)×((Int×(List UInt8))×((Int×(List
 UInt8))×(Int×Bool))))):=(bnd (Zby (x.2.1.1,x.2.1.2)) (fun z1=>(bnd (Zby (x.2.2.1.1,x.2.2.1.2)) (fun z2
 => (some (x.1,((z1.1,z1.2),((z2.1,z2.2),(x.2.2.2.1,x.2.2.2.2)))))))))
def Zfd (x:((List ((List UInt8)×((Int×(List UInt8))×((Int×(List UInt8))×(Int×Bool)))))×(Int×(List (Int×(Int×Int)))))):((List ((List
 UInt8)×((Int×(List UInt8))×((Int×(List UInt8))×(Int×Bool)))))×Int)->Option (((List ((List UInt8)×((Int×(List UInt8))×((Int×(List UInt8))×(Int×Bool)))))
 × Int) ⊕ ((List ((List UInt8)×((Int×(List UInt8))×((Int×(List UInt8))×(Int×Bool))))) ⊕ ((List ((List UInt8)×((Int×(List UInt8))×((Int×(List UInt8))×(Int ×
 Bool)))))×(Int×(List (Int×(Int×Int))))))):=fun (z1:((List ((List UInt8)×((Int×(List UInt8))×((Int×(List UInt8))×(Int×Bool)))))×Int))=>(cnd (iLt z1.2
 (lLen x.1)) (bnd (idx x.1 z1.2) (fun z2=>(bnd (Zl (z2.1,((z2.2.1.1,z2.2.1.2),
 ((z2.2.2.1.1,z2.2.2.1.2),(z2.2.2.2.1,z2.2.2.2.2))))) (fun z3=>(chk (room (z1.1.length +
 1) 96) (some (.inl ((lApp z1.1 [(z3.1,((z3.2.1.1,z3.2.1.2),((z3.2.2.1.1,z3.2.2.1.2),(z3.2.2.2.1,z3.2.2.2.2))))]),(iAdd .i64 z1.2 1))))))))) (some (.inr (.inl z1.1))))
def Zfe (x:((List ((List UInt8)×((Int×(List UInt8))×((Int×(List UInt8))×(Int×Bool)))))×(Int×(List (Int×(Int×Int)))))):((List ((List
 UInt8)×((Int×(List UInt8))×((Int×(List UInt8))×(Int×Bool)))))×Int)->Option (((List ((List UInt8)×((Int×(List UInt8))×((Int×(List UInt8))×(Int×Bool)))))
 × Int) ⊕ ((List ((List UInt8)×((Int×(List UInt8))×((Int×(List UInt8))×(Int×Bool))))) ⊕ ((List ((List UInt8)×((Int×(List UInt8))×((Int×(List UInt8))×(Int ×
 Bool)))))×(Int×(List (Int×(Int×Int))))))):=fun (z1:((List ((List UInt8)×((Int×(List UInt8))×((Int×(List UInt8))×(Int×Bool)))))×Int))=>(cnd (iLt z1.2
 (lLen x.1)) (bnd (idx x.1 z1.2) (fun z2=>(bnd (Zl (z2.1,((z2.2.1.1,z2.2.1.2),
 ((z2.2.2.1.1,z2.2.2.1.2),(z2.2.2.2.1,z2.2.2.2.2))))) (fun z3=>(chk (room (z1.1.length +
 1) 96) (some (.inl ((lApp z1.1 [(z3.1,((z3.2.1.1,z3.2.1.2),((z3.2.2.1.1,z3.2.2.1.2),(z3.2.2.2.1,z3.2.2.2.2))))]),(iAdd .i64 z1.2 1))))))))) (some (.inr (.inl z1.1))))
def Zff (x:((List ((List UInt8)×((Int×(List UInt8))×((Int×(List UInt8))×(Int×Bool)))))×(Int×(List (Int×(Int×Int)))))):((List ((List
 UInt8)×((Int×(List UInt8))×((Int×(List UInt8))×(Int×Bool)))))×Int)->Option (((List ((List UInt8)×((Int×(List UInt8))×((Int×(List UInt8))×(Int×Bool)))))
 × Int) ⊕ ((List ((List UInt8)×((Int×(List UInt8))×((Int×(List UInt8))×(Int×Bool))))) ⊕ ((List ((List UInt8)×((Int×(List UInt8))×((Int×(List UInt8))×(Int ×
 Bool)))))×(Int×(List (Int×(Int×Int))))))):=fun (z1:((List ((List UInt8)×((Int×(List UInt8))×((Int×(List UInt8))×(Int×Bool)))))×Int))=>(cnd (iLt z1.2
 (lLen x.1)) (bnd (idx x.1 z1.2) (fun z2=>(bnd (Zl (z2.1,((z2.2.1.1,z2.2.1.2),
 ((z2.2.2.1.1,z2.2.2.1.2),(z2.2.2.2.1,z2.2.2.2.2))))) (fun z3=>(chk (room (z1.1.length +
 1) 96) (some (.inl ((lApp z1.1 [(z3.1,((z3.2.1.1,z3.2.1.2),((z3.2.2.1.1,z3.2.2.1.2),(z3.2.2.2.1,z3.2.2.2.2))))]),(iAdd .i64 z1.2 1))))))))) (some (.inr (.inl z1.1))))
def Zz (x:((List ((List UInt8)×((Int×(List UInt8))×((Int×(List UInt8))×(Int×Bool)))))×(Int×(List (Int×(Int×Int)))))):(Option ((List
 ((List UInt8)×((Int×(List UInt8))×((Int×(List UInt8))×(Int×Bool)))))×(Int×(List (Int×(Int×Int)))))):=(alt2 (chk (room (0+x.2.2.length) 24) (joinX (loopX
 (Zfd x) ([],0)) (fun (z1:(List ((List UInt8)×((Int×(List UInt8))×((Int×(List UInt8))×(Int×Bool))))))=>(some (z1,(x.2.1,(lApp [] x.2.2))))))) (alt2
 (chk (room (0+x.2.2.length) 24) (joinX (loopX (Zfe x) ([],0)) (fun (z1:(List ((List UInt8)×((Int×(List UInt8))×((Int×(List UInt8))×(Int×Bool)))))) =>
 (some (z1,(x.2.1,(lApp [] x.2.2))))))) (chk (room (0+x.2.2.length) 24) (joinX (loopX (Zff x) ([],0)) (fun (z1:(List ((List UInt8)×((Int×(List UInt8))×((Int
 × (List UInt8))×(Int×Bool))))))=>(some (z1,(x.2.1,(lApp [] x.2.2)))))))))
def Zg (x:(Int×(Int×Int))):(Option Bool):=(cnd (iGe x.1 x.2.1) (some (iLe x.1 x.2.2)) (some false))
def Zcs (x:(List UInt8)):(Int)->Option ((Int) ⊕ (Unit ⊕ Bool)):=fun (z1:Int)=>(cnd (iLt z1 (lLen x)) (bnd (idx x z1) (fun z2=>(bnd
 (Zg ((iConv .i64 (y2i z2)),(97,122))) (fun z3=>(cnd (bNot z3) (bnd (idx x z1) (fun z4=>(bnd (Zg ((iConv .i64 (y2i z4)),(48,57))) (fun z5=>(cnd (bNot z5) (some (.inr (.inr false))) (some (.inl (iAdd .i64 z1 1)))))))) (some (.inl (iAdd .i64 z1 1)))))))) (some (.inr (.inl ()))))
def Zbl (x:(List UInt8)):(Option Bool):=(joinX (loopX (Zcs x) 0) (fun (z1:Unit)=>(bnd (Zg ((lLen x),(1,6))) (fun z2 =>
 (some z2)))))
def Zi (x:((List UInt8)×((Int×(List UInt8))×((Int×(List UInt8))×(Int×Bool))))):(Option Bool):=(some (iEq (iAnd .i64 x.2.2.2.1 1) 1))
def Zu (x:(Int×(List UInt8))):(Option Bool):=(cnd (iEq x.1 0) (some (iEq (lLen x.2) 0)) (some false))
def Zh (x:((List UInt8)×((Int×(List UInt8))×((Int×(List UInt8))×(Int×Bool))))):(Option Bool):=(some (iEq (iAnd .i64 x.2.2.2.1 2) 2))
def Zbz (x:Int):(Option Bool):=(bnd (Zg (x,(0,5))) (fun z1=>(some z1)))
def Zs (x:(Int×(List UInt8))):(Option Bool):=(bnd (Zbz x.1) (fun z1=>(cnd z1 (some (iLe (lLen x.2) 20)) (some false))))
def Zct (x:UInt8):(Option Int):=(cnd (iLt (y2i x) (y2i (u8 128))) (some 1) (bnd (Zg ((iConv .i64 (y2i x)),(194,223))) (fun z1=>(cnd z1
 (some 2) (bnd (Zg ((iConv .i64 (y2i x)),(224,239))) (fun z2=>(cnd z2 (some 3) (bnd (Zg ((iConv .i64 (y2i x)),(240,244))) (fun z3=>(cnd z3
 (some 4) (some 0)))))))))))
def Zbm (x:Int):(Option Bool):=(bnd (Zg (x,(0,1114111))) (fun z1=>(cnd z1 (bnd (Zg (x,(55296,57343))) (fun z2 =>
 (some (bNot z2)))) (some false))))
def Zbn (x:((List UInt8)×Int)):(Option (List UInt8)):=(chk (room (0+x.1.length) 1) (bnd (Zbm x.2) (fun z1=>(cnd (bNot z1) (some
 (lApp [] x.1)) (cnd (iLe x.2 127) (chk (room ((lApp [] x.1).length+1) 1) (some (lApp (lApp [] x.1) [(u8 (iConv .u8 x.2))]))) (cnd (iLe x.2 2047) (chk (room ((lApp []
 x.1).length+2) 1) (some (lApp (lApp [] x.1) [(u8 (iConv .u8 (iOr .i64 192 (iShr .i64 x.2 6)))),(u8 (iConv .u8 (iOr .i64 128 (iAnd .i64 x.2 63))))]))) (cnd (iLe x.2 65535) (chk
 (room ((lApp [] x.1).length+3) 1) (some (lApp (lApp [] x.1) [(u8 (iConv .u8 (iOr .i64 224 (iShr .i64 x.2 12)))),(u8 (iConv .u8 (iOr .i64 128 (iAnd .i64 (iShr .i64 x.2 6)
 63)))),(u8 (iConv .u8 (iOr .i64 128 (iAnd .i64 x.2 63))))]))) (chk (room ((lApp [] x.1).length+4) 1) (some (lApp (lApp [] x.1) [(u8 (iConv .u8 (iOr .i64 240 (iShr .i64 x.2
 18)))),(u8 (iConv .u8 (iOr .i64 128 (iAnd .i64 (iShr .i64 x.2 12) 63)))),(u8 (iConv .u8 (iOr .i64 128 (iAnd .i64 (iShr .i64 x.2 6) 63)))),(u8 (iConv .u8 (iOr .i64 128 (iAnd
 .i64 x.2 63))))]))))))))))
def Zv (x:((List UInt8)×Int)) (z3:Int):(Int×Int)->Option ((Int×Int) ⊕ (Int ⊕ (Int×(Int×Bool)))):=fun (z6:(Int×Int))=>(cnd (iLt
 z6.2 z3) (bnd (idx x.1 (iAdd .i64 x.2 z6.2)) (fun z7=>(cnd (iNe (y2i (u8 (iAnd .u8 (y2i z7) (y2i (u8 192))))) (y2i (u8 128))) (some (.inr (.inr (0,(0,false)))))
 (bnd (idx x.1 (iAdd .i64 x.2 z6.2)) (fun z8=>(some (.inl ((iOr .i64 (iShl .i64 z6.1 6) (iConv .i64 (y2i (u8 (iAnd .u8 (y2i z8) (y2i (u8 63))))))),(iAdd .i64 z6.2
 1))))))))) (some (.inr (.inl z6.1))))
def Zcu (x:((List UInt8)×Int)):(Option (Int×(Int×Bool))):=(bnd (Zg (x.2,(0,(iSub .i64 (lLen x.1) 1)))) (fun z1=>(cnd (bNot z1)
 (some (0,(0,false))) (bnd (idx x.1 x.2) (fun z2=>(bnd (Zct z2) (fun z3=>(cnd (iEq z3 0) (some (0,(0,false))) (cnd (iGt z3 (iSub .i64 (lLen x.1)
 x.2)) (some (0,(0,false))) (bnd (idx x.1 x.2) (fun z4=>(joinX (cnd (iGt z3 1) (chk (iLe 0 (iConv .u64 z3)) (some (.inl (iAnd .i64 (iConv .i64 (y2i z4)) (iShr .i64
 127 (iConv .u64 z3)))))) (some (.inl (iConv .i64 (y2i z4))))) (fun (z5:Int)=>(joinX (loopX (Zv x z3) (z5,1)) (fun (z6:Int)=>(bnd (Zbm z6) (fun z7=>(cnd (bNot z7) (some (0,(0,false))) (bnd (Zbn ([],z6)) (fun z8=>(chk (within x.2 (iAdd .i64 x.2 z3) (lLen x.1)) (cnd (bNot (sEq z8 (lTake
 ((nOf (iAdd .i64 x.2 z3))-(nOf x.2)) (lDrop (nOf x.2) x.1)))) (some (0,(0,false))) (some (z6,((iAdd .i64 x.2 z3),true)))))))))))))))))))))))))
def Zcv (x:(Int×Int)):(Option (Int×Bool)):=(cnd (iEq x.1 164) (bnd (Zg (x.2,(161,243))) (fun z1=>(cnd z1 (some ((iSub .i64 (iAdd
 .i64 12353 x.2) 161),true)) (cnd (iEq x.1 165) (bnd (Zg (x.2,(161,246))) (fun z2=>(cnd z2 (some ((iSub .i64 (iAdd .i64 12449 x.2) 161),true)) (some (0,
 false))))) (some (0,false)))))) (cnd (iEq x.1 165) (bnd (Zg (x.2,(161,246))) (fun z1=>(cnd z1 (some ((iSub .i64 (iAdd .i64 12449 x.2) 161),true)) (some (0,
 false))))) (some (0,false))))
def Zcw (x:((List UInt8)×Int)):(Option (Int×(Int×Bool))):=(bnd (Zg (x.2,(0,(iSub .i64 (lLen x.1) 1)))) (fun z1=>(cnd (bNot z1)
 (some (0,(0,false))) (bnd (idx x.1 x.2) (fun z2=>(cnd (iLt (y2i z2) (y2i (u8 128))) (bnd (idx x.1 x.2) (fun z3=>(some ((iConv .i64 (y2i z3)),((iAdd
 .i64 x.2 1),true))))) (cnd (iGe (iAdd .i64 x.2 1) (lLen x.1)) (some (0,(0,false))) (bnd (idx x.1 x.2) (fun z3=>(bnd (idx x.1 (iAdd .i64 x.2 1)) (fun z4
 => (bnd (Zcv ((iConv .i64 (y2i z3)),(iConv .i64 (y2i z4)))) (fun z5=>(cnd (bNot z5.2) (some (0,(0,false))) (some (z5.1,((iAdd .i64 x.2 2),
 true)))))))))))))))))
def Zep (x:Int):(Option Int):=(cnd (iEq x 164) (some 8364) (cnd (iEq x 166) (some 352) (cnd (iEq x 168) (some 353) (cnd (iEq x 180) (some 381) (cnd (iEq
 x 184) (some 382) (cnd (iEq x 188) (some 338) (cnd (iEq x 189) (some 339) (cnd (iEq x 190) (some 376) (some x)))))))))
def Zeq (x:Int):(Option Int):=(cnd (iGe x 224) (bnd (idx [1102,1072,1073,1094,1076,1077,1092,1075,1093,1080,1081,1082,1083,1084,1085,1086,
 1087,1103,1088,1089,1090,1091,1078,1074,1100,1099,1079,1096,1101,1097,1095,1098] (iSub .i64 x 224)) (fun z1=>(some (iSub .i64 z1 32)))) (cnd (iGe x 192)
 (bnd (idx [1102,1072,1073,1094,1076,1077,1092,1075,1093,1080,1081,1082,1083,1084,1085,1086,1087,1103,1088,1089,1090,1091,1078,1074,1100,1099,1079,1096,
 1101,1097,1095,1098] (iSub .i64 x 192)) (fun z1=>(some z1))) (cnd (iEq x 163) (some 1105) (cnd (iEq x 179) (some 1025) (some (-1))))))
def Zer (x:Int):(Option Int):=(cnd (iGe x 160) (some x) (bnd (idx [8364,(-1),8218,402,8222,8230,8224,8225,710,8240,352,8249,338,(-1),381,
 (-1),(-1),8216,8217,8220,8221,8226,8211,8212,732,8482,353,8250,339,(-1),382,376] (iSub .i64 x 128)) (fun z1=>(some z1))))
def Zba (x:(Int×Int)):(Option (Int×Bool)):=(bnd (Zg (x.1,(1,4))) (fun z1=>(cnd (bNot z1) (some (0,false)) (bnd (Zg (x.2,
 (0,255))) (fun z2=>(cnd (bNot z2) (some (0,false)) (joinX (cnd (iGe x.2 128) (cnd (iEq x.1 2) (bnd (Zep x.2) (fun z3=>(some (.inl z3)))) (cnd (iEq
 x.1 3) (bnd (Zeq x.2) (fun z3=>(some (.inl z3)))) (cnd (iEq x.1 4) (bnd (Zer x.2) (fun z3=>(some (.inl z3)))) (some (.inl x.2))))) (some (.inl
 x.2))) (fun (z3:Int)=>(cnd (iLt z3 0) (some (0,false)) (some (z3,true)))))))))))
def Zcx (x:(Int×((List UInt8)×Int))):(Option (Int×(Int×Bool))):=(cnd (iEq x.1 0) (bnd (Zcu (x.2.1,x.2.2)) (fun z1=>(some (z1.1,(z1.2.1,z1.2.2))))) (cnd (iEq x.1 5) (bnd (Zcw (x.2.1,x.2.2)) (fun z1=>(some (z1.1,(z1.2.1,z1.2.2))))) (bnd (idx
 x.2.1 x.2.2) (fun z1=>(bnd (Zba (x.1,(iConv .i64 (y2i z1)))) (fun z2=>(some (z2.1,((iAdd .i64 x.2.2 1),z2.2)))))))))
def Zes (x:(Int×(List UInt8))):((List UInt8)×Int)->Option (((List UInt8)×Int) ⊕ ((List UInt8) ⊕ ((List UInt8)×Bool))):=fun (z2:((List UInt8)
 × Int))=>(cnd (iLt z2.2 (lLen x.2)) (bnd (Zcx (x.1,(x.2,z2.2))) (fun z3=>(cnd (bNot z3.2.2) (some (.inr (.inr ([],false)))) (bnd
 (Zbn (z2.1,z3.1)) (fun z4=>(some (.inl (z4,z3.2.1)))))))) (some (.inr (.inl z2.1))))
def Zcy (x:(Int×(List UInt8))):(Option ((List UInt8)×Bool)):=(bnd (Zbz x.1) (fun z1=>(cnd (bNot z1) (some ([],false)) (joinX (loopX
 (Zes x) ([],0)) (fun (z2:(List UInt8))=>(some (z2,true)))))))
def Zm (x:(Int×(List UInt8))):(Option ((List UInt8)×Bool)):=(bnd (Zs (x.1,x.2)) (fun z1=>(cnd (bNot z1) (some ([],false))
 (bnd (Zcy (x.1,x.2)) (fun z2=>(some (z2.1,z2.2)))))))
def Zd (x:((Int×(List UInt8))×(Int×(List UInt8)))):(Option Bool):=(bnd (Zm (x.1.1,x.1.2)) (fun z1=>(bnd
 (Zm (x.2.1,x.2.2)) (fun z2=>(cnd z1.2 (cnd z2.2 (some (sEq z1.1 z2.1)) (some false)) (some false))))))
def Zbb (x:((List UInt8)×((Int×(List UInt8))×((Int×(List UInt8))×(Int×Bool))))):(Option Bool):=(bnd (Zbl x.1) (fun z1=>(cnd
 (bNot z1) (some false) (bnd (Zg (x.2.2.2.1,(1,3))) (fun z2=>(cnd (bNot z2) (some false) (bnd (Zi (x.1,((x.2.1.1,x.2.1.2),((x.2.2.1.1,x.2.2.1.2),
 (x.2.2.2.1,x.2.2.2.2))))) (fun z3=>(cnd (bNot z3) (bnd (Zu (x.2.1.1,x.2.1.2)) (fun z4=>(cnd (bNot z4) (some false) (bnd (Zh (x.1,
 ((x.2.1.1,x.2.1.2),((x.2.2.1.1,x.2.2.1.2),(x.2.2.2.1,x.2.2.2.2))))) (fun z5=>(cnd (bNot z5) (bnd (Zu (x.2.2.1.1,x.2.2.1.2)) (fun z6=>(cnd
 (bNot z6) (some false) (bnd (Zm (x.2.1.1,x.2.1.2)) (fun z7=>(bnd (Zm (x.2.2.1.1,x.2.2.1.2)) (fun z8 =>
 (bnd (Zi (x.1,((x.2.1.1,x.2.1.2),((x.2.2.1.1,x.2.2.1.2),(x.2.2.2.1,x.2.2.2.2))))) (fun z9=>(cnd z9 (bnd (Zg (x.2.1.1,(1,5))) (fun z10 =>
 (cnd (bNot z10) (some false) (bnd (Zs (x.2.1.1,x.2.1.2)) (fun z11=>(cnd (bNot z11) (some false) (bnd (Zh (x.1,((x.2.1.1,x.2.1.2),((x.2.2.1.1,
 x.2.2.1.2),(x.2.2.2.1,x.2.2.2.2))))) (fun z12=>(cnd z12 (cnd (iNe x.2.2.1.1 0) (some false) (cnd (bNot z8.2) (some false) (bnd (Zi (x.1,((x.2.1.1,x.2.1.2),
 ((x.2.2.1.1,x.2.2.1.2),(x.2.2.2.1,x.2.2.2.2))))) (fun z13=>(cnd z13 (cnd (bNot z7.2) (cnd (bNot x.2.2.2.2) (some false) (bnd (Zh (x.1,((x.2.1.1,x.2.1.2),
 ((x.2.2.1.1,x.2.2.1.2),(x.2.2.2.1,x.2.2.2.2))))) (fun z14=>(cnd z14 (some false) (cnd (iNe x.2.2.2.1 3) (some true) (bnd (Zd ((x.2.1.1,x.2.1.2),
 (x.2.2.1.1,x.2.2.1.2))) (fun z15=>(some z15)))))))) (cnd (iNe x.2.2.2.1 3) (some true) (bnd (Zd ((x.2.1.1,x.2.1.2),(x.2.2.1.1,x.2.2.1.2))) (fun z14=>(some z14))))) (cnd (iNe x.2.2.2.1 3) (some true) (bnd (Zd ((x.2.1.1,x.2.1.2),(x.2.2.1.1,x.2.2.1.2))) (fun z14=>(some z14))))))))) (bnd
 (Zi (x.1,((x.2.1.1,x.2.1.2),((x.2.2.1.1,x.2.2.1.2),(x.2.2.2.1,x.2.2.2.2))))) (fun z13=>(cnd z13 (cnd (bNot z7.2) (cnd (bNot x.2.2.2.2) (some false) (bnd
 (Zh (x.1,((x.2.1.1,x.2.1.2),((x.2.2.1.1,x.2.2.1.2),(x.2.2.2.1,x.2.2.2.2))))) (fun z14=>(cnd z14 (some false) (cnd (iNe x.2.2.2.1 3) (some true) (bnd
 (Zd ((x.2.1.1,x.2.1.2),(x.2.2.1.1,x.2.2.1.2))) (fun z15=>(some z15)))))))) (cnd (iNe x.2.2.2.1 3) (some true) (bnd (Zd ((x.2.1.1,x.2.1.2),
 (x.2.2.1.1,x.2.2.1.2))) (fun z14=>(some z14))))) (cnd (iNe x.2.2.2.1 3) (some true) (bnd (Zd ((x.2.1.1,x.2.1.2),(x.2.2.1.1,x.2.2.1.2))) (fun z14
 => (some z14)))))))))))))))) (bnd (Zh (x.1,((x.2.1.1,x.2.1.2),((x.2.2.1.1,x.2.2.1.2),(x.2.2.2.1,x.2.2.2.2))))) (fun z10=>(cnd z10 (cnd (iNe x.2.2.1.1 0)
 (some false) (cnd (bNot z8.2) (some false) (bnd (Zi (x.1,((x.2.1.1,x.2.1.2),((x.2.2.1.1,x.2.2.1.2),(x.2.2.2.1,x.2.2.2.2))))) (fun z11=>(cnd z11 (cnd (bNot
 z7.2) (cnd (bNot x.2.2.2.2) (some false) (bnd (Zh (x.1,((x.2.1.1,x.2.1.2),((x.2.2.1.1,x.2.2.1.2),(x.2.2.2.1,x.2.2.2.2))))) (fun z12=>(cnd z12 (some false)
 (cnd (iNe x.2.2.2.1 3) (some true) (bnd (Zd ((x.2.1.1,x.2.1.2),(x.2.2.1.1,x.2.2.1.2))) (fun z13=>(some z13)))))))) (cnd (iNe x.2.2.2.1 3) (some true) (bnd
 (Zd ((x.2.1.1,x.2.1.2),(x.2.2.1.1,x.2.2.1.2))) (fun z12=>(some z12))))) (cnd (iNe x.2.2.2.1 3) (some true) (bnd (Zd ((x.2.1.1,x.2.1.2),
 (x.2.2.1.1,x.2.2.1.2))) (fun z12=>(some z12))))))))) (bnd (Zi (x.1,((x.2.1.1,x.2.1.2),((x.2.2.1.1,x.2.2.1.2),(x.2.2.2.1,x.2.2.2.2))))) (fun z11
 => (cnd z11 (cnd (bNot z7.2) (cnd (bNot x.2.2.2.2) (some false) (bnd (Zh (x.1,((x.2.1.1,x.2.1.2),((x.2.2.1.1,x.2.2.1.2),(x.2.2.2.1,x.2.2.2.2))))) (fun z12
 => (cnd z12 (some false) (cnd (iNe x.2.2.2.1 3) (some true) (bnd (Zd ((x.2.1.1,x.2.1.2),(x.2.2.1.1,x.2.2.1.2))) (fun z13=>(some z13)))))))) (cnd (iNe
 x.2.2.2.1 3) (some true) (bnd (Zd ((x.2.1.1,x.2.1.2),(x.2.2.1.1,x.2.2.1.2))) (fun z12=>(some z12))))) (cnd (iNe x.2.2.2.1 3) (some true) (bnd
 (Zd ((x.2.1.1,x.2.1.2),(x.2.2.1.1,x.2.2.1.2))) (fun z12=>(some z12)))))))))))))))))))) (bnd (Zm (x.2.1.1,x.2.1.2)) (fun z6=>(bnd (Zm (x.2.2.1.1,x.2.2.1.2)) (fun z7=>(bnd (Zi (x.1,((x.2.1.1,x.2.1.2),((x.2.2.1.1,x.2.2.1.2),(x.2.2.2.1,
 x.2.2.2.2))))) (fun z8=>(cnd z8 (bnd (Zg (x.2.1.1,(1,5))) (fun z9=>(cnd (bNot z9) (some false) (bnd (Zs (x.2.1.1,x.2.1.2)) (fun z10=>(cnd (bNot z10) (some false) (bnd (Zh (x.1,((x.2.1.1,x.2.1.2),((x.2.2.1.1,x.2.2.1.2),(x.2.2.2.1,x.2.2.2.2))))) (fun z11=>(cnd z11 (cnd (iNe
 x.2.2.1.1 0) (some false) (cnd (bNot z7.2) (some false) (bnd (Zi (x.1,((x.2.1.1,x.2.1.2),((x.2.2.1.1,x.2.2.1.2),(x.2.2.2.1,x.2.2.2.2))))) (fun z12=>(cnd
 z12 (cnd (bNot z6.2) (cnd (bNot x.2.2.2.2) (some false) (bnd (Zh (x.1,((x.2.1.1,x.2.1.2),((x.2.2.1.1,x.2.2.1.2),(x.2.2.2.1,x.2.2.2.2))))) (fun z13=>(cnd
 z13 (some false) (cnd (iNe x.2.2.2.1 3) (some true) (bnd (Zd ((x.2.1.1,x.2.1.2),(x.2.2.1.1,x.2.2.1.2))) (fun z14=>(some z14)))))))) (cnd (iNe x.2.2.2.1 3)
 (some true) (bnd (Zd ((x.2.1.1,x.2.1.2),(x.2.2.1.1,x.2.2.1.2))) (fun z13=>(some z13))))) (cnd (iNe x.2.2.2.1 3) (some true) (bnd (Zd ((x.2.1.1,
 x.2.1.2),(x.2.2.1.1,x.2.2.1.2))) (fun z13=>(some z13))))))))) (bnd (Zi (x.1,((x.2.1.1,x.2.1.2),((x.2.2.1.1,x.2.2.1.2),(x.2.2.2.1,x.2.2.2.2))))) (fun
 z12=>(cnd z12 (cnd (bNot z6.2) (cnd (bNot x.2.2.2.2) (some false) (bnd (Zh (x.1,((x.2.1.1,x.2.1.2),((x.2.2.1.1,x.2.2.1.2),(x.2.2.2.1,x.2.2.2.2))))) (fun
 z13=>(cnd z13 (some false) (cnd (iNe x.2.2.2.1 3) (some true) (bnd (Zd ((x.2.1.1,x.2.1.2),(x.2.2.1.1,x.2.2.1.2))) (fun z14=>(some z14))))))))
 (cnd (iNe x.2.2.2.1 3) (some true) (bnd (Zd ((x.2.1.1,x.2.1.2),(x.2.2.1.1,x.2.2.1.2))) (fun z13=>(some z13))))) (cnd (iNe x.2.2.2.1 3) (some true) (bnd
 (Zd ((x.2.1.1,x.2.1.2),(x.2.2.1.1,x.2.2.1.2))) (fun z13=>(some z13)))))))))))))))) (bnd (Zh (x.1,((x.2.1.1,x.2.1.2),((x.2.2.1.1,x.2.2.1.2),
 (x.2.2.2.1,x.2.2.2.2))))) (fun z9=>(cnd z9 (cnd (iNe x.2.2.1.1 0) (some false) (cnd (bNot z7.2) (some false) (bnd (Zi (x.1,((x.2.1.1,x.2.1.2),((x.2.2.1.1,
 x.2.2.1.2),(x.2.2.2.1,x.2.2.2.2))))) (fun z10=>(cnd z10 (cnd (bNot z6.2) (cnd (bNot x.2.2.2.2) (some false) (bnd (Zh (x.1,((x.2.1.1,x.2.1.2),((x.2.2.1.1,
 x.2.2.1.2),(x.2.2.2.1,x.2.2.2.2))))) (fun z11=>(cnd z11 (some false) (cnd (iNe x.2.2.2.1 3) (some true) (bnd (Zd ((x.2.1.1,x.2.1.2),(x.2.2.1.1,
 x.2.2.1.2))) (fun z12=>(some z12)))))))) (cnd (iNe x.2.2.2.1 3) (some true) (bnd (Zd ((x.2.1.1,x.2.1.2),(x.2.2.1.1,x.2.2.1.2))) (fun z11=>(some
 z11))))) (cnd (iNe x.2.2.2.1 3) (some true) (bnd (Zd ((x.2.1.1,x.2.1.2),(x.2.2.1.1,x.2.2.1.2))) (fun z11=>(some z11))))))))) (bnd (Zi (x.1,
 ((x.2.1.1,x.2.1.2),((x.2.2.1.1,x.2.2.1.2),(x.2.2.2.1,x.2.2.2.2))))) (fun z10=>(cnd z10 (cnd (bNot z6.2) (cnd (bNot x.2.2.2.2) (some false) (bnd (Zh (x.1,
 ((x.2.1.1,x.2.1.2),((x.2.2.1.1,x.2.2.1.2),(x.2.2.2.1,x.2.2.2.2))))) (fun z11=>(cnd z11 (some false) (cnd (iNe x.2.2.2.1 3) (some true) (bnd (Zd
 ((x.2.1.1,x.2.1.2),(x.2.2.1.1,x.2.2.1.2))) (fun z12=>(some z12)))))))) (cnd (iNe x.2.2.2.1 3) (some true) (bnd (Zd ((x.2.1.1,x.2.1.2),(x.2.2.1.1,
 x.2.2.1.2))) (fun z11=>(some z11))))) (cnd (iNe x.2.2.2.1 3) (some true) (bnd (Zd ((x.2.1.1,x.2.1.2),(x.2.2.1.1,x.2.2.1.2))) (fun z11=>(some
 z11))))))))))))))))))))))) (bnd (Zh (x.1,((x.2.1.1,x.2.1.2),((x.2.2.1.1,x.2.2.1.2),(x.2.2.2.1,x.2.2.2.2))))) (fun z4=>(cnd (bNot z4) (bnd (Zu
 (x.2.2.1.1,x.2.2.1.2)) (fun z5=>(cnd (bNot z5) (some false) (bnd (Zm (x.2.1.1,x.2.1.2)) (fun z6=>(bnd (Zm (x.2.2.1.1,
 x.2.2.1.2)) (fun z7=>(bnd (Zi (x.1,((x.2.1.1,x.2.1.2),((x.2.2.1.1,x.2.2.1.2),(x.2.2.2.1,x.2.2.2.2))))) (fun z8=>(cnd z8 (bnd
 (Zg (x.2.1.1,(1,5))) (fun z9=>(cnd (bNot z9) (some false) (bnd (Zs (x.2.1.1,x.2.1.2)) (fun z10=>(cnd (bNot z10) (some false) (bnd
 (Zh (x.1,((x.2.1.1,x.2.1.2),((x.2.2.1.1,x.2.2.1.2),(x.2.2.2.1,x.2.2.2.2))))) (fun z11=>(cnd z11 (cnd (iNe x.2.2.1.1 0) (some false) (cnd (bNot z7.2) (some
 false) (bnd (Zi (x.1,((x.2.1.1,x.2.1.2),((x.2.2.1.1,x.2.2.1.2),(x.2.2.2.1,x.2.2.2.2))))) (fun z12=>(cnd z12 (cnd (bNot z6.2) (cnd (bNot x.2.2.2.2) (some
 false) (bnd (Zh (x.1,((x.2.1.1,x.2.1.2),((x.2.2.1.1,x.2.2.1.2),(x.2.2.2.1,x.2.2.2.2))))) (fun z13=>(cnd z13 (some false) (cnd (iNe x.2.2.2.1 3) (some
 true) (bnd (Zd ((x.2.1.1,x.2.1.2),(x.2.2.1.1,x.2.2.1.2))) (fun z14=>(some z14)))))))) (cnd (iNe x.2.2.2.1 3) (some true) (bnd (Zd ((x.2.1.1,
 x.2.1.2),(x.2.2.1.1,x.2.2.1.2))) (fun z13=>(some z13))))) (cnd (iNe x.2.2.2.1 3) (some true) (bnd (Zd ((x.2.1.1,x.2.1.2),(x.2.2.1.1,x.2.2.1.2))) (fun
 z13=>(some z13))))))))) (bnd (Zi (x.1,((x.2.1.1,x.2.1.2),((x.2.2.1.1,x.2.2.1.2),(x.2.2.2.1,x.2.2.2.2))))) (fun z12=>(cnd z12 (cnd (bNot z6.2)
 (cnd (bNot x.2.2.2.2) (some false) (bnd (Zh (x.1,((x.2.1.1,x.2.1.2),((x.2.2.1.1,x.2.2.1.2),(x.2.2.2.1,x.2.2.2.2))))) (fun z13=>(cnd z13 (some false) (cnd
 (iNe x.2.2.2.1 3) (some true) (bnd (Zd ((x.2.1.1,x.2.1.2),(x.2.2.1.1,x.2.2.1.2))) (fun z14=>(some z14)))))))) (cnd (iNe x.2.2.2.1 3) (some true) (bnd
 (Zd ((x.2.1.1,x.2.1.2),(x.2.2.1.1,x.2.2.1.2))) (fun z13=>(some z13))))) (cnd (iNe x.2.2.2.1 3) (some true) (bnd (Zd ((x.2.1.1,x.2.1.2),
 (x.2.2.1.1,x.2.2.1.2))) (fun z13=>(some z13)))))))))))))))) (bnd (Zh (x.1,((x.2.1.1,x.2.1.2),((x.2.2.1.1,x.2.2.1.2),(x.2.2.2.1,x.2.2.2.2))))) (fun z9=>(cnd z9 (cnd (iNe x.2.2.1.1 0) (some false) (cnd (bNot z7.2) (some false) (bnd (Zi (x.1,((x.2.1.1,x.2.1.2),((x.2.2.1.1,x.2.2.1.2),(x.2.2.2.1,x.2.2.2.2)))))
 (fun z10=>(cnd z10 (cnd (bNot z6.2) (cnd (bNot x.2.2.2.2) (some false) (bnd (Zh (x.1,((x.2.1.1,x.2.1.2),((x.2.2.1.1,x.2.2.1.2),(x.2.2.2.1,x.2.2.2.2)))))
 (fun z11=>(cnd z11 (some false) (cnd (iNe x.2.2.2.1 3) (some true) (bnd (Zd ((x.2.1.1,x.2.1.2),(x.2.2.1.1,x.2.2.1.2))) (fun z12=>(some
 z12)))))))) (cnd (iNe x.2.2.2.1 3) (some true) (bnd (Zd ((x.2.1.1,x.2.1.2),(x.2.2.1.1,x.2.2.1.2))) (fun z11=>(some z11))))) (cnd (iNe x.2.2.2.1 3) (some
 true) (bnd (Zd ((x.2.1.1,x.2.1.2),(x.2.2.1.1,x.2.2.1.2))) (fun z11=>(some z11))))))))) (bnd (Zi (x.1,((x.2.1.1,x.2.1.2),((x.2.2.1.1,x.2.2.1.2),
 (x.2.2.2.1,x.2.2.2.2))))) (fun z10=>(cnd z10 (cnd (bNot z6.2) (cnd (bNot x.2.2.2.2) (some false) (bnd (Zh (x.1,((x.2.1.1,x.2.1.2),((x.2.2.1.1,x.2.2.1.2),
 (x.2.2.2.1,x.2.2.2.2))))) (fun z11=>(cnd z11 (some false) (cnd (iNe x.2.2.2.1 3) (some true) (bnd (Zd ((x.2.1.1,x.2.1.2),(x.2.2.1.1,x.2.2.1.2))) (fun
 z12=>(some z12)))))))) (cnd (iNe x.2.2.2.1 3) (some true) (bnd (Zd ((x.2.1.1,x.2.1.2),(x.2.2.1.1,x.2.2.1.2))) (fun z11=>(some z11))))) (cnd
 (iNe x.2.2.2.1 3) (some true) (bnd (Zd ((x.2.1.1,x.2.1.2),(x.2.2.1.1,x.2.2.1.2))) (fun z11=>(some z11)))))))))))))))))))) (bnd (Zm (x.2.1.1,
 x.2.1.2)) (fun z5=>(bnd (Zm (x.2.2.1.1,x.2.2.1.2)) (fun z6=>(bnd (Zi (x.1,((x.2.1.1,x.2.1.2),
 ((x.2.2.1.1,x.2.2.1.2),(x.2.2.2.1,x.2.2.2.2))))) (fun z7=>(cnd z7 (bnd (Zg (x.2.1.1,(1,5))) (fun z8=>(cnd (bNot z8) (some false) (bnd (Zs
 (x.2.1.1,x.2.1.2)) (fun z9=>(cnd (bNot z9) (some false) (bnd (Zh (x.1,((x.2.1.1,x.2.1.2),((x.2.2.1.1,x.2.2.1.2),(x.2.2.2.1,x.2.2.2.2))))) (fun z10=>(cnd z10 (cnd (iNe x.2.2.1.1 0) (some false) (cnd (bNot z6.2) (some false) (bnd (Zi (x.1,((x.2.1.1,x.2.1.2),((x.2.2.1.1,x.2.2.1.2),(x.2.2.2.1,x.2.2.2.2)))))
 (fun z11=>(cnd z11 (cnd (bNot z5.2) (cnd (bNot x.2.2.2.2) (some false) (bnd (Zh (x.1,((x.2.1.1,x.2.1.2),((x.2.2.1.1,x.2.2.1.2),(x.2.2.2.1,x.2.2.2.2)))))
 (fun z12=>(cnd z12 (some false) (cnd (iNe x.2.2.2.1 3) (some true) (bnd (Zd ((x.2.1.1,x.2.1.2),(x.2.2.1.1,x.2.2.1.2))) (fun z13=>(some
 z13)))))))) (cnd (iNe x.2.2.2.1 3) (some true) (bnd (Zd ((x.2.1.1,x.2.1.2),(x.2.2.1.1,x.2.2.1.2))) (fun z12=>(some z12))))) (cnd (iNe x.2.2.2.1 3) (some
 true) (bnd (Zd ((x.2.1.1,x.2.1.2),(x.2.2.1.1,x.2.2.1.2))) (fun z12=>(some z12))))))))) (bnd (Zi (x.1,((x.2.1.1,x.2.1.2),((x.2.2.1.1,x.2.2.1.2),
 (x.2.2.2.1,x.2.2.2.2))))) (fun z11=>(cnd z11 (cnd (bNot z5.2) (cnd (bNot x.2.2.2.2) (some false) (bnd (Zh (x.1,((x.2.1.1,x.2.1.2),((x.2.2.1.1,x.2.2.1.2),
 (x.2.2.2.1,x.2.2.2.2))))) (fun z12=>(cnd z12 (some false) (cnd (iNe x.2.2.2.1 3) (some true) (bnd (Zd ((x.2.1.1,x.2.1.2),(x.2.2.1.1,x.2.2.1.2))) (fun
 z13=>(some z13)))))))) (cnd (iNe x.2.2.2.1 3) (some true) (bnd (Zd ((x.2.1.1,x.2.1.2),(x.2.2.1.1,x.2.2.1.2))) (fun z12=>(some z12))))) (cnd
 (iNe x.2.2.2.1 3) (some true) (bnd (Zd ((x.2.1.1,x.2.1.2),(x.2.2.1.1,x.2.2.1.2))) (fun z12=>(some z12)))))))))))))))) (bnd (Zh (x.1,((x.2.1.1,
 x.2.1.2),((x.2.2.1.1,x.2.2.1.2),(x.2.2.2.1,x.2.2.2.2))))) (fun z8=>(cnd z8 (cnd (iNe x.2.2.1.1 0) (some false) (cnd (bNot z6.2) (some false) (bnd (Zi (x.1,
 ((x.2.1.1,x.2.1.2),((x.2.2.1.1,x.2.2.1.2),(x.2.2.2.1,x.2.2.2.2))))) (fun z9=>(cnd z9 (cnd (bNot z5.2) (cnd (bNot x.2.2.2.2) (some false) (bnd (Zh (x.1,
 ((x.2.1.1,x.2.1.2),((x.2.2.1.1,x.2.2.1.2),(x.2.2.2.1,x.2.2.2.2))))) (fun z10=>(cnd z10 (some false) (cnd (iNe x.2.2.2.1 3) (some true) (bnd (Zd
 ((x.2.1.1,x.2.1.2),(x.2.2.1.1,x.2.2.1.2))) (fun z11=>(some z11)))))))) (cnd (iNe x.2.2.2.1 3) (some true) (bnd (Zd ((x.2.1.1,x.2.1.2),(x.2.2.1.1,
 x.2.2.1.2))) (fun z10=>(some z10))))) (cnd (iNe x.2.2.2.1 3) (some true) (bnd (Zd ((x.2.1.1,x.2.1.2),(x.2.2.1.1,x.2.2.1.2))) (fun z10=>(some
 z10))))))))) (bnd (Zi (x.1,((x.2.1.1,x.2.1.2),((x.2.2.1.1,x.2.2.1.2),(x.2.2.2.1,x.2.2.2.2))))) (fun z9=>(cnd z9 (cnd (bNot z5.2) (cnd (bNot x.2.2.2.2)
 (some false) (bnd (Zh (x.1,((x.2.1.1,x.2.1.2),((x.2.2.1.1,x.2.2.1.2),(x.2.2.2.1,x.2.2.2.2))))) (fun z10=>(cnd z10 (some false) (cnd (iNe x.2.2.2.1 3)
 (some true) (bnd (Zd ((x.2.1.1,x.2.1.2),(x.2.2.1.1,x.2.2.1.2))) (fun z11=>(some z11)))))))) (cnd (iNe x.2.2.2.1 3) (some true) (bnd (Zd
 ((x.2.1.1,x.2.1.2),(x.2.2.1.1,x.2.2.1.2))) (fun z10=>(some z10))))) (cnd (iNe x.2.2.2.1 3) (some true) (bnd (Zd ((x.2.1.1,x.2.1.2),(x.2.2.1.1,
 x.2.2.1.2))) (fun z10=>(some z10)))))))))))))))))))))))))))))
def Zca (x:Int):(Option Bool):=(bnd (Zg (x,(0,65535))) (fun z1=>(some z1)))
def Zcb (x:(Int×(Int×Int))):(Option Bool):=(bnd (Zg (x.1,(1,9))) (fun z1=>(cnd z1 (bnd (Zca x.2.1) (fun z2 =>
 (cnd z2 (bnd (Zg (x.2.2,(0,6))) (fun z3=>(some z3))) (some false)))) (some false))))
def Zdy (x:((List ((List UInt8)×((Int×(List UInt8))×((Int×(List UInt8))×(Int×Bool)))))×(Int×(List (Int×(Int×Int)))))):(Int)->Option
 ((Int) ⊕ (Unit ⊕ Bool)):=fun (z1:Int)=>(cnd (iLt z1 (lLen x.1)) (bnd (idx x.1 z1) (fun z2=>(bnd (Zbb (z2.1,((z2.2.1.1,z2.2.1.2),((z2.2.2.1.1,z2.2.2.1.2),(z2.2.2.2.1,z2.2.2.2.2))))) (fun z3=>(cnd (bNot z3) (some (.inr (.inr false)))
 (cnd (iGt z1 0) (bnd (idx x.1 (iSub .i64 z1 1)) (fun z4=>(bnd (idx x.1 z1) (fun z5=>(cnd (bNot (sLt z4.1 z5.1)) (some (.inr (.inr false))) (some (.inl (iAdd .i64 z1 1)))))))) (some
 (.inl (iAdd .i64 z1 1))))))))) (some (.inr (.inl ()))))
def Zdz (x:((List ((List UInt8)×((Int×(List UInt8))×((Int×(List UInt8))×(Int×Bool)))))×(Int×(List (Int×(Int×Int)))))):(Int)->Option
 ((Int) ⊕ (Unit ⊕ Bool)):=fun (z2:Int)=>(cnd (iLt z2 (lLen x.2.2)) (bnd (idx x.2.2 z2) (fun z3=>(bnd (Zcb (z3.1,(z3.2.1,z3.2.2))) (fun
 z4=>(cnd (bNot z4) (some (.inr (.inr false))) (cnd (iGt z2 0) (bnd (idx x.2.2 (iSub .i64 z2 1)) (fun z5=>(bnd (idx x.2.2 z2) (fun z6=>(cnd (iGe z5.1 z6.1) (some (.inr (.inr false))) (some (.inl (iAdd .i64 z2 1)))))))) (some (.inl (iAdd .i64 z2 1))))))))) (some (.inr (.inl ()))))
def Zw (x:((List ((List UInt8)×((Int×(List UInt8))×((Int×(List UInt8))×(Int×Bool)))))×(Int×(List (Int×(Int×Int)))))):(Option Bool) :=
 (joinX (loopX (Zdy x) 0) (fun (z1:Unit)=>(joinX (loopX (Zdz x) 0) (fun (z2:Unit)=>(cnd (iLe (lLen x.1) 8) (bnd (Zg (x.2.1,(0,7))) (fun z3
 => (some z3))) (some false))))))
def Zcz (x:((List UInt8)×((Int×(List UInt8))×((Int×(List UInt8))×(Int×Bool))))):(Option Bool):=(cnd (sEq x.1 []) (bnd (Zu (x.2.1.1,
 x.2.1.2)) (fun z1=>(cnd z1 (bnd (Zu (x.2.2.1.1,x.2.2.1.2)) (fun z2=>(cnd z2 (cnd (iEq x.2.2.2.1 0) (some (bNot x.2.2.2.2)) (some false)) (some
 false)))) (some false)))) (some false))
def Zea (x:(Int×(((List UInt8)×((Int×(List UInt8))×((Int×(List UInt8))×(Int×Bool))))×((List UInt8)×(Int×(Int×(Int×Int))))))) :
 (Option Bool):=(cnd (iEq x.2.2.2.2.1 0) (cnd (iEq x.2.2.2.2.2.1 0) (cnd (iEq x.2.2.2.2.2.2 0) (some (iNe x.1 4)) (some false)) (some false)) (bnd (Zg (x.2.2.2.2.1,(1,
 9))) (fun z1=>(cnd z1 (bnd (Zca x.2.2.2.2.2.1) (fun z2=>(cnd z2 (bnd (Zg (x.2.2.2.2.2.2,(0,6))) (fun z3=>(some z3))) (some
 false)))) (some false)))))
def Zcc (x:(Int×(((List UInt8)×((Int×(List UInt8))×((Int×(List UInt8))×(Int×Bool))))×((List UInt8)×(Int×(Int×(Int×Int))))))):(Option
 Bool):=(bnd (Zcz (x.2.1.1,((x.2.1.2.1.1,x.2.1.2.1.2),((x.2.1.2.2.1.1,x.2.1.2.2.1.2),(x.2.1.2.2.2.1,x.2.1.2.2.2.2))))) (fun z1=>(joinX (cnd (iEq x.1 1)
 (bnd (Zbb (x.2.1.1,((x.2.1.2.1.1,x.2.1.2.1.2),((x.2.1.2.2.1.1,x.2.1.2.2.1.2),(x.2.1.2.2.2.1,x.2.1.2.2.2.2))))) (fun z2=>(some (.inl (z2,((sEq x.2.2.1 []),
 (iEq x.2.2.2.1 0))))))) (cnd (iEq x.1 2) (bnd (Zbl x.2.2.1) (fun z2=>(some (.inl (z1,(z2,(iEq x.2.2.2.1 0))))))) (cnd (iEq x.1 3) (bnd (Zg (x.2.2.2.1,
 (0,7))) (fun z2=>(some (.inl (z1,((sEq x.2.2.1 []),z2)))))) (some (.inl (z1,((sEq x.2.2.1 []),(iEq x.2.2.2.1 0)))))))) (fun (z2:(Bool×(Bool×Bool)))=>(bnd
 (Zg (x.1,(1,4))) (fun z3=>(cnd z3 (cnd z2.1 (cnd z2.2.1 (cnd z2.2.2 (bnd (Zea (x.1,((x.2.1.1,((x.2.1.2.1.1,x.2.1.2.1.2),((x.2.1.2.2.1.1,
 x.2.1.2.2.1.2),(x.2.1.2.2.2.1,x.2.1.2.2.2.2)))),(x.2.2.1,(x.2.2.2.1,(x.2.2.2.2.1,(x.2.2.2.2.2.1,x.2.2.2.2.2.2))))))) (fun z4=>(some z4))) (some false)) (some
 false)) (some false)) (some false))))))))
def Zeb (x:((List ((List UInt8)×((Int×(Option (List UInt8)))×((Int×(Option (List UInt8)))×(Int×Bool)))))×((List UInt8)×((Int×(List
 UInt8))×((Int×(List UInt8))×(Int×Bool)))))):((List ((List UInt8)×((Int×(Option (List UInt8)))×((Int×(Option (List UInt8)))×(Int×Bool)))))×((List ((List
 UInt8)×((Int×(List UInt8))×((Int×(List UInt8))×(Int×Bool)))))×(Bool×Int)))->Option (((List ((List UInt8)×((Int×(Option (List UInt8)))×((Int×(Option (List
 UInt8)))×(Int×Bool)))))×((List ((List UInt8)×((Int×(List UInt8))×((Int×(List UInt8))×(Int×Bool)))))×(Bool×Int))) ⊕ (((List ((List UInt8)×((Int×(List
 UInt8))×((Int×(List UInt8))×(Int×Bool)))))×Bool) ⊕ (List ((List UInt8)×((Int×(List UInt8))×((Int×(List UInt8))×(Int×Bool))))))):=fun (z1:((List ((List
 UInt8)×((Int×(Option (List UInt8)))×((Int×(Option (List UInt8)))×(Int×Bool)))))×((List ((List UInt8)×((Int×(List UInt8))×((Int×(List UInt8))×(Int ×
 Bool)))))×(Bool×Int))))=>(cnd (iLt z1.2.2.2 (lLen z1.1)) (joinX (joinX (cnd (bNot z1.2.2.1) (bnd (idx z1.1 z1.2.2.2) (fun z2=>(cnd (bNot (sLt z2.1 x.2.1)) (bnd (Zl (x.2.1,((x.2.2.1.1,x.2.2.1.2),((x.2.2.2.1.1,x.2.2.2.1.2),
 (x.2.2.2.2.1,x.2.2.2.2.2))))) (fun z3=>(chk (room (z1.2.1.length+1) 96) (some (.inl
 ((lApp z1.2.1 [(z3.1,((z3.2.1.1,z3.2.1.2),((z3.2.2.1.1,z3.2.2.1.2),(z3.2.2.2.1,z3.2.2.2.2))))]),true)))))) (some (.inl (z1.2.1,z1.2.2.1)))))) (some (.inl (z1.2.1,
 z1.2.2.1)))) (fun (z2:((List ((List UInt8)×((Int×(List UInt8))×((Int×(List UInt8))×(Int×Bool)))))×Bool))=>(bnd (idx z1.1 z1.2.2.2) (fun z3=>(cnd (bNot (sEq z3.1 x.2.1)) (bnd (idx z1.1 z1.2.2.2) (fun z4=>(chk (hSome z4.2.1.2) (chk (hSome z4.2.2.1.2) (bnd (idx z1.1 (Int.ofNat (nOf z1.2.2.2))) (fun z5=>(bnd (idx (lSet z1.1 (nOf z1.2.2.2) (z5.1,((z5.2.1.1,none),z5.2.2)))
 (Int.ofNat (nOf z1.2.2.2))) (fun z6=>(chk (room (z2.1.length+1) 96)
 (some (.inl ((lSet (lSet z1.1 (nOf z1.2.2.2) (z5.1,((z5.2.1.1,none),z5.2.2))) (nOf z1.2.2.2) (z6.1,(z6.2.1,((z6.2.2.1.1,none),z6.2.2.2)))),((lApp z2.1 [(z4.1,((z4.2.1.1,
 (hGet z4.2.1.2)),((z4.2.2.1.1,(hGet z4.2.2.1.2)),(z4.2.2.2.1,z4.2.2.2.2))))]),z2.2))))))))))))) (some (.inl (z1.1,(z2.1,z2.2))))))))) (fun (z2:((List ((List UInt8) ×
 ((Int×(Option (List UInt8)))×((Int×(Option (List UInt8)))×(Int×Bool)))))×((List ((List UInt8)×((Int×(List UInt8))×((Int×(List UInt8))×(Int×Bool))))) ×
 Bool)))=>(some (.inl (z2.1,(z2.2.1,(z2.2.2,(iAdd .i64 z1.2.2.2 1)))))))) (some (.inr (.inl (z1.2.1,z1.2.2.1)))))
def Zbo (x:((List ((List UInt8)×((Int×(Option (List UInt8)))×((Int×(Option (List UInt8)))×(Int×Bool)))))×((List UInt8)×((Int×(List UInt8))
 × ((Int×(List UInt8))×(Int×Bool)))))):(Option (List ((List UInt8)×((Int×(List UInt8))×((Int×(List UInt8))×(Int×Bool)))))):=(joinX (loopX (Zeb x)
 (x.1,([],(false,0)))) (fun (z1:((List ((List UInt8)×((Int×(List UInt8))×((Int×(List UInt8))×(Int×Bool)))))×Bool))=>(joinX (cnd (bNot z1.2) (bnd (Zl
 (x.2.1,((x.2.2.1.1,x.2.2.1.2),((x.2.2.2.1.1,x.2.2.2.1.2),(x.2.2.2.2.1,x.2.2.2.2.2))))) (fun z2=>(chk (room (z1.1.length+1) 96) (some (.inl (lApp z1.1 [(z2.1,((z2.2.1.1,z2.2.1.2),((z2.2.2.1.1,z2.2.2.1.2),(z2.2.2.2.1,z2.2.2.2.2))))])))))) (some (.inl
 z1.1))) (fun (z2:(List ((List UInt8)×((Int×(List UInt8))×((Int×(List UInt8))×(Int×Bool))))))=>(some z2)))))
def Zet (x:(((List ((List UInt8)×((Int×(List UInt8))×((Int×(List UInt8))×(Int×Bool)))))×(Int×(List (Int×(Int×Int)))))×(List UInt8))) :
 (Int)->Option ((Int) ⊕ Int):=fun (z1:Int)=>(cnd (iLt z1 (lLen x.1.1)) (bnd (idx x.1.1 z1) (fun z2=>(cnd (sEq z2.1 x.2) (some (.inr z1)) (some (.inl (iAdd .i64 z1 1)))))) (some (.inr (-1))))
def Zbp (x:(((List ((List UInt8)×((Int×(List UInt8))×((Int×(List UInt8))×(Int×Bool)))))×(Int×(List (Int×(Int×Int)))))×(List UInt8))) :
 (Option Int):=(loopX (Zet x) 0)
def Zeu (x:((List (Int×(Int×Int)))×(Int×(Int×Int)))):((List (Int×(Int×Int)))×(Bool×Int))->Option (((List (Int×(Int×Int)))×(Bool
 × Int)) ⊕ (((List (Int×(Int×Int)))×Bool) ⊕ (List (Int×(Int×Int))))):=fun (z1:((List (Int×(Int×Int)))×(Bool×Int)))=>(cnd (iLt z1.2.2 (lLen x.1)) (joinX
 (joinX (cnd (bNot z1.2.1) (bnd (idx x.1 z1.2.2) (fun z2=>(cnd (iGe z2.1 x.2.1) (chk (room (z1.1.length+1) 24) (some (.inl ((lApp z1.1 [(x.2.1,
 (x.2.2.1,x.2.2.2))]),true)))) (some (.inl (z1.1,z1.2.1)))))) (some (.inl (z1.1,z1.2.1)))) (fun (z2:((List (Int×(Int×Int)))×Bool))=>(bnd (idx x.1 z1.2.2) (fun z3=>(cnd (iNe z3.1 x.2.1) (bnd (idx x.1 z1.2.2) (fun z4=>(chk (room (z2.1.length+1) 24) (some (.inl ((lApp z2.1 [(z4.1,(z4.2.1,
 z4.2.2))]),z2.2)))))) (some (.inl (z2.1,z2.2)))))))) (fun (z2:((List (Int×(Int×Int)))×Bool))=>(some (.inl (z2.1,(z2.2,(iAdd .i64 z1.2.2 1))))))) (some (.inr (.inl
 (z1.1,z1.2.1)))))
def Zbq (x:((List (Int×(Int×Int)))×(Int×(Int×Int)))):(Option (List (Int×(Int×Int)))):=(joinX (loopX (Zeu x) ([],(false,0))) (fun
 (z1:((List (Int×(Int×Int)))×Bool))=>(joinX (cnd (bNot z1.2) (chk (room (z1.1.length+1) 24) (some (.inl (lApp z1.1 [(x.2.1,(x.2.2.1,x.2.2.2))])))) (some (.inl
 z1.1))) (fun (z2:(List (Int×(Int×Int))))=>(some z2)))))
def Zo (x:(((List ((List UInt8)×((Int×(List UInt8))×((Int×(List UInt8))×(Int×Bool)))))×(Int×(List (Int×(Int×Int)))))×(Int×(((List
 UInt8)×((Int×(List UInt8))×((Int×(List UInt8))×(Int×Bool))))×((List UInt8)×(Int×(Int×(Int×Int)))))))):(Option (((List ((List UInt8)×((Int×(List
 UInt8))×((Int×(List UInt8))×(Int×Bool)))))×(Int×(List (Int×(Int×Int)))))×Bool)):=(bnd (Zz (x.1.1,(x.1.2.1,x.1.2.2))) (fun z1=>(bnd (Zw (x.1.1,(x.1.2.1,x.1.2.2))) (fun z2
 => (cnd (bNot z2) (some ((z1.1,(z1.2.1,z1.2.2)),false)) (bnd (Zcc (x.2.1,((x.2.2.1.1,((x.2.2.1.2.1.1,x.2.2.1.2.1.2),((x.2.2.1.2.2.1.1,x.2.2.1.2.2.1.2),
 (x.2.2.1.2.2.2.1,x.2.2.1.2.2.2.2)))),(x.2.2.2.1,(x.2.2.2.2.1,(x.2.2.2.2.2.1,(x.2.2.2.2.2.2.1,x.2.2.2.2.2.2.2))))))) (fun z3=>(cnd (bNot z3) (some ((z1.1,
 (z1.2.1,z1.2.2)),false)) (joinX (cnd (iEq x.2.1 1) (bnd (cvL (.P .S (.P (.P (.I .i64) (.L .Y)) (.P (.P (.I .i64) (.L .Y)) (.P (.I .i64) .B)))) (.P .S (.P (.P (.I .i64) (.H .Y))
 (.P (.P (.I .i64) (.H .Y)) (.P (.I .i64) .B)))) z1.1) (fun z4=>(bnd
 (Zbo (z4,(x.2.2.1.1,((x.2.2.1.2.1.1,x.2.2.1.2.1.2),((x.2.2.1.2.2.1.1,x.2.2.1.2.2.1.2),(x.2.2.1.2.2.2.1,x.2.2.1.2.2.2.2)))))) (fun z5=>(some (.inl (z5,z1.2.1))))))) (cnd (iEq x.2.1 2) (bnd (Zbp ((z1.1,(z1.2.1,z1.2.2)),x.2.2.2.1)) (fun z4=>(cnd (iGe z4 0) (chk (within 0 z4 (lLen z1.1)) (chk (fits 0 ((nOf z4)-0) z1.1.length) (chk (room (0+(lTake ((nOf z4)-0) z1.1).length) 96) (chk (within (iAdd .i64 z4
 1) (lLen (mvW (.P .S (.P (.P (.I .i64) (.L .Y)) (.P (.P (.I .i64) (.L .Y)) (.P (.I .i64) .B)))) 0 ((nOf z4)-0) z1.1)) (lLen (mvW (.P .S (.P (.P (.I .i64) (.L .Y)) (.P (.P (.I
 .i64) (.L .Y)) (.P (.I .i64) .B)))) 0 ((nOf z4)-0) z1.1))) (chk (fits (nOf (iAdd .i64 z4 1)) ((nOf (lLen (mvW (.P .S (.P (.P (.I .i64) (.L .Y)) (.P (.P (.I .i64) (.L .Y)) (.P
 (.I .i64) .B)))) 0 ((nOf z4)-0) z1.1)))-(nOf (iAdd .i64 z4 1))) (mvW (.P .S (.P (.P (.I .i64) (.L .Y)) (.P (.P (.I .i64) (.L .Y)) (.P (.I .i64) .B)))) 0 ((nOf z4)-0)
 z1.1).length) (bnd (cvL (.P .S (.P (.P (.I .i64) (.H .Y)) (.P (.P (.I .i64) (.H .Y)) (.P (.I .i64) .B)))) (.P .S (.P (.P (.I .i64) (.L .Y)) (.P (.P (.I .i64) (.L .Y)) (.P (.I
 .i64) .B)))) (lTake ((nOf (lLen (mvW (.P .S (.P (.P (.I .i64) (.L .Y)) (.P (.P (.I .i64) (.L .Y)) (.P (.I .i64) .B)))) 0 ((nOf z4)-0) z1.1)))-(nOf (iAdd .i64 z4 1))) (lDrop
 (nOf (iAdd .i64 z4 1)) (mvW (.P .S (.P (.P (.I .i64) (.L .Y)) (.P (.P (.I .i64) (.L .Y)) (.P (.I .i64) .B)))) 0 ((nOf z4)-0) z1.1)))) (fun z5=>(chk (room ((lApp [] (lTake ((nOf z4)-0) z1.1)).length+z5.length) 96) (some (.inl ((lApp (lApp [] (lTake ((nOf
 z4)-0) z1.1)) z5),z1.2.1))))))))))) (some (.inl (z1.1,z1.2.1)))))) (cnd (iEq x.2.1 3) (some (.inl (z1.1,x.2.2.2.2.1))) (some (.inl (z1.1,z1.2.1)))))) (fun (z4:((List
 ((List UInt8)×((Int×(List UInt8))×((Int×(List UInt8))×(Int×Bool)))))×Int))=>(joinX (cnd (iNe x.2.2.2.2.2.1 0) (bnd (Zbq (z1.2.2,(x.2.2.2.2.2.1,
 (x.2.2.2.2.2.2.1,x.2.2.2.2.2.2.2)))) (fun z5=>(some (.inl z5)))) (some (.inl z1.2.2))) (fun (z5:(List (Int×(Int×Int))))=>(bnd (Zw
 (z4.1,(z4.2,z5))) (fun z6=>(cnd (bNot z6) (bnd (Zz (x.1.1,(x.1.2.1,x.1.2.2))) (fun z7=>(some ((z7.1,(z7.2.1,z7.2.2)),false)))) (some ((z4.1,(z4.2,z5)),true)))))))))))))))))
def Zda (x:(List (List UInt8))):((List UInt8)×Int)->Option (((List UInt8)×Int) ⊕ ((List UInt8) ⊕ (List UInt8))):=fun (z1:((List UInt8)×Int))
 => (cnd (iLt z1.2 (lLen x)) (bnd (idx x z1.2) (fun z2=>(chk (room (z1.1.length+z2.length) 1) (some (.inl ((lApp z1.1 z2),(iAdd .i64 z1.2 1))))))) (some
 (.inr (.inl z1.1))))
def Zcd (x:(List (List UInt8))):(Option (List UInt8)):=(joinX (loopX (Zda x) ([],0)) (fun (z1:(List UInt8))=>(some z1)))
def Zce (x:(Int×(List UInt8))):(Option (Int×(List UInt8))):=(bnd (Zcd [x.2]) (fun z1=>(some (x.1,z1))))
def Zn (x:((List UInt8)×((Int×(List UInt8))×((Int×(List UInt8))×(Int×Bool))))):(Option ((List UInt8)×((Int×(List UInt8))×((Int×(List
 UInt8))×(Int×Bool))))):=(bnd (Zce (x.2.1.1,x.2.1.2)) (fun z1=>(bnd (Zce (x.2.2.1.1,x.2.2.1.2)) (fun z2=>(some (x.1,((z1.1,z1.2),((z2.1,z2.2),(x.2.2.2.1,x.2.2.2.2)))))))))
def Zfg (x:((List ((List UInt8)×((Int×(List UInt8))×((Int×(List UInt8))×(Int×Bool)))))×(Int×(List (Int×(Int×Int)))))):((List ((List
 UInt8)×((Int×(List UInt8))×((Int×(List UInt8))×(Int×Bool)))))×Int)->Option (((List ((List UInt8)×((Int×(List UInt8))×((Int×(List UInt8))×(Int×Bool)))))
 × Int) ⊕ ((List ((List UInt8)×((Int×(List UInt8))×((Int×(List UInt8))×(Int×Bool))))) ⊕ ((List ((List UInt8)×((Int×(List UInt8))×((Int×(List UInt8))×(Int ×
 Bool)))))×(Int×(List (Int×(Int×Int))))))):=fun (z1:((List ((List UInt8)×((Int×(List UInt8))×((Int×(List UInt8))×(Int×Bool)))))×Int))=>(cnd (iLt z1.2
 (lLen x.1)) (bnd (idx x.1 z1.2) (fun z2=>(bnd (Zn (z2.1,((z2.2.1.1,z2.2.1.2),
 ((z2.2.2.1.1,z2.2.2.1.2),(z2.2.2.2.1,z2.2.2.2.2))))) (fun z3=>(chk (room (z1.1.length +
 1) 96) (some (.inl ((lApp z1.1 [(z3.1,((z3.2.1.1,z3.2.1.2),((z3.2.2.1.1,z3.2.2.1.2),(z3.2.2.2.1,z3.2.2.2.2))))]),(iAdd .i64 z1.2 1))))))))) (some (.inr (.inl z1.1))))
def Zfh (x:((List ((List UInt8)×((Int×(List UInt8))×((Int×(List UInt8))×(Int×Bool)))))×(Int×(List (Int×(Int×Int)))))):((List ((List
 UInt8)×((Int×(List UInt8))×((Int×(List UInt8))×(Int×Bool)))))×Int)->Option (((List ((List UInt8)×((Int×(List UInt8))×((Int×(List UInt8))×(Int×Bool)))))
 × Int) ⊕ ((List ((List UInt8)×((Int×(List UInt8))×((Int×(List UInt8))×(Int×Bool))))) ⊕ ((List ((List UInt8)×((Int×(List UInt8))×((Int×(List UInt8))×(Int ×
 Bool)))))×(Int×(List (Int×(Int×Int))))))):=fun (z1:((List ((List UInt8)×((Int×(List UInt8))×((Int×(List UInt8))×(Int×Bool)))))×Int))=>(cnd (iLt z1.2
 (lLen x.1)) (bnd (idx x.1 z1.2) (fun z2=>(bnd (Zn (z2.1,((z2.2.1.1,z2.2.1.2),
 ((z2.2.2.1.1,z2.2.2.1.2),(z2.2.2.2.1,z2.2.2.2.2))))) (fun z3=>(chk (room (z1.1.length +
 1) 96) (some (.inl ((lApp z1.1 [(z3.1,((z3.2.1.1,z3.2.1.2),((z3.2.2.1.1,z3.2.2.1.2),(z3.2.2.2.1,z3.2.2.2.2))))]),(iAdd .i64 z1.2 1))))))))) (some (.inr (.inl z1.1))))
def Zfi (x:((List ((List UInt8)×((Int×(List UInt8))×((Int×(List UInt8))×(Int×Bool)))))×(Int×(List (Int×(Int×Int)))))):((List ((List
 UInt8)×((Int×(List UInt8))×((Int×(List UInt8))×(Int×Bool)))))×Int)->Option (((List ((List UInt8)×((Int×(List UInt8))×((Int×(List UInt8))×(Int×Bool)))))
 × Int) ⊕ ((List ((List UInt8)×((Int×(List UInt8))×((Int×(List UInt8))×(Int×Bool))))) ⊕ ((List ((List UInt8)×((Int×(List UInt8))×((Int×(List UInt8))×(Int ×
 Bool)))))×(Int×(List (Int×(Int×Int))))))):=fun (z1:((List ((List UInt8)×((Int×(List UInt8))×((Int×(List UInt8))×(Int×Bool)))))×Int))=>(cnd (iLt z1.2
 (lLen x.1)) (bnd (idx x.1 z1.2) (fun z2=>(bnd (Zn (z2.1,((z2.2.1.1,z2.2.1.2),
 ((z2.2.2.1.1,z2.2.2.1.2),(z2.2.2.2.1,z2.2.2.2.2))))) (fun z3=>(chk (room (z1.1.length +
 1) 96) (some (.inl ((lApp z1.1 [(z3.1,((z3.2.1.1,z3.2.1.2),((z3.2.2.1.1,z3.2.2.1.2),(z3.2.2.2.1,z3.2.2.2.2))))]),(iAdd .i64 z1.2 1))))))))) (some (.inr (.inl z1.1))))
def Zbc (x:((List ((List UInt8)×((Int×(List UInt8))×((Int×(List UInt8))×(Int×Bool)))))×(Int×(List (Int×(Int×Int)))))):(Option ((List
 ((List UInt8)×((Int×(List UInt8))×((Int×(List UInt8))×(Int×Bool)))))×(Int×(List (Int×(Int×Int)))))):=(alt2 (chk (room (0+x.2.2.length) 24) (joinX (loopX
 (Zfg x) ([],0)) (fun (z1:(List ((List UInt8)×((Int×(List UInt8))×((Int×(List UInt8))×(Int×Bool))))))=>(some (z1,(x.2.1,(lApp [] x.2.2))))))) (alt2
 (chk (room (0+x.2.2.length) 24) (joinX (loopX (Zfh x) ([],0)) (fun (z1:(List ((List UInt8)×((Int×(List UInt8))×((Int×(List UInt8))×(Int×Bool)))))) =>
 (some (z1,(x.2.1,(lApp [] x.2.2))))))) (chk (room (0+x.2.2.length) 24) (joinX (loopX (Zfi x) ([],0)) (fun (z1:(List ((List UInt8)×((Int×(List UInt8))×((Int
 × (List UInt8))×(Int×Bool))))))=>(some (z1,(x.2.1,(lApp [] x.2.2)))))))))
def Zp (x:((Int×(List UInt8))×(Int×(List UInt8)))):(Option Bool):=(cnd (iEq x.1.1 x.2.1) (some (sEq x.1.2 x.2.2)) (some false))
def Zdb (x:(((List UInt8)×((Int×(List UInt8))×((Int×(List UInt8))×(Int×Bool))))×((List UInt8)×((Int×(List UInt8))×((Int×(List UInt8))
 × (Int×Bool)))))):(Option Bool):=(cnd (sEq x.1.1 x.2.1) (bnd (Zp ((x.1.2.1.1,x.1.2.1.2),(x.2.2.1.1,x.2.2.1.2))) (fun z1=>(cnd z1 (bnd (Zp
 ((x.1.2.2.1.1,x.1.2.2.1.2),(x.2.2.2.1.1,x.2.2.2.1.2))) (fun z2=>(cnd z2 (cnd (iEq x.1.2.2.2.1 x.2.2.2.2.1) (some (bEq x.1.2.2.2.2 x.2.2.2.2.2)) (some false)) (some
 false)))) (some false)))) (some false))
def Zj (x:(Int×(Int×Int))):(Option Bool):=(cnd (iGe x.1 x.2.1) (some (iLe x.1 x.2.2)) (some false))
def Zfu (x:(List UInt8)):(Int)->Option ((Int) ⊕ (Unit ⊕ Bool)):=fun (z1:Int)=>(cnd (iLt z1 (lLen x)) (bnd (idx x z1) (fun z2=>(bnd
 (Zj ((iConv .i64 (y2i z2)),(97,122))) (fun z3=>(cnd (bNot z3) (bnd (idx x z1) (fun z4=>(bnd (Zj ((iConv .i64 (y2i z4)),(48,57))) (fun
 z5=>(cnd (bNot z5) (some (.inr (.inr false))) (some (.inl (iAdd .i64 z1 1)))))))) (some (.inl (iAdd .i64 z1 1)))))))) (some (.inr (.inl ()))))
def Zcf (x:(List UInt8)):(Option Bool):=(joinX (loopX (Zfu x) 0) (fun (z1:Unit)=>(bnd (Zj ((lLen x),(1,6))) (fun z2 =>
 (some z2)))))
def Zdc (x:Int):(Option Bool):=(bnd (Zj (x,(0,5))) (fun z1=>(some z1)))
def Zcg (x:(Int×(List UInt8))):(Option Bool):=(bnd (Zdc x.1) (fun z1=>(cnd z1 (some (iLe (lLen x.2) 20)) (some false))))
def Zt (x:(List UInt8)):(Option (Int×Int)):=(cnd (iLt (lLen x) 1) (some (65533,0)) (bnd (idx x 0) (fun z1=>(chk (iLe 0 (y2i
 z1)) (chk (iLt (y2i z1) 256) (bnd (idx gFirst (Int.ofNat (0+((nOf (y2i z1))*1)))) (fun z2=>(cnd (iGe (y2i z2) (y2i (u8 240))) (bnd (idx x 0) (fun z3 =>
 (some ((iOr .i32 (iAndNot .i32 (iConv .i32 (y2i z3)) (iShr .i32 (iShl .i32 (iConv .i32 (y2i z2)) 31) 31)) (iAnd .i32 65533 (iShr .i32 (iShl .i32 (iConv .i32 (y2i z2)) 31) 31))),
 1)))) (chk (iLe 0 (y2i (u8 (iShr .u8 (y2i z2) 4)))) (chk (iLt (y2i (u8 (iShr .u8 (y2i z2) 4))) 16) (bnd (idx gAcc (Int.ofNat (0+((nOf (y2i (u8 (iShr .u8 (y2i z2) 4))))*2))))
 (fun z3=>(bnd (idx gAcc (Int.ofNat ((0+((nOf (y2i (u8 (iShr .u8 (y2i z2) 4))))*2))+1))) (fun z4=>(cnd (iLt (lLen x) (iConv .i64 (y2i (u8 (iAnd .u8
 (y2i z2) (y2i (u8 7))))))) (some (65533,1)) (bnd (idx x 1) (fun z5=>(cnd (iLt (y2i z5) (y2i z3)) (some (65533,1)) (cnd (iLt (y2i z4) (y2i z5)) (some (65533,1))
 (cnd (iLe (iConv .i64 (y2i (u8 (iAnd .u8 (y2i z2) (y2i (u8 7)))))) 2) (some ((iOr .i32 (iShl .i32 (iConv .i32 (y2i (u8 (iAnd .u8 (y2i z1) (y2i (u8 31)))))) 6) (iConv .i32 (y2i
 (u8 (iAnd .u8 (y2i z5) (y2i (u8 63))))))),2)) (bnd (idx x 2) (fun z6=>(cnd (iLt (y2i z6) (y2i (u8 128))) (some (65533,1)) (cnd (iLt (y2i (u8 191)) (y2i z6)) (some
 (65533,1)) (cnd (iLe (iConv .i64 (y2i (u8 (iAnd .u8 (y2i z2) (y2i (u8 7)))))) 3) (some ((iOr .i32 (iOr .i32 (iShl .i32 (iConv .i32 (y2i (u8 (iAnd .u8 (y2i z1) (y2i (u8 15))))))
 12) (iShl .i32 (iConv .i32 (y2i (u8 (iAnd .u8 (y2i z5) (y2i (u8 63)))))) 6)) (iConv .i32 (y2i (u8 (iAnd .u8 (y2i z6) (y2i (u8 63))))))),3)) (bnd (idx x 3) (fun z7 =>
 (cnd (iLt (y2i z7) (y2i (u8 128))) (some (65533,1)) (cnd (iLt (y2i (u8 191)) (y2i z7)) (some (65533,1)) (some ((iOr .i32 (iOr .i32 (iOr .i32 (iShl .i32 (iConv .i32 (y2i (u8
 (iAnd .u8 (y2i z1) (y2i (u8 7)))))) 18) (iShl .i32 (iConv .i32 (y2i (u8 (iAnd .u8 (y2i z5) (y2i (u8 63)))))) 12)) (iShl .i32 (iConv .i32 (y2i (u8 (iAnd .u8 (y2i z6) (y2i (u8
 63)))))) 6)) (iConv .i32 (y2i (u8 (iAnd .u8 (y2i z7) (y2i (u8 63))))))),4)))))))))))))))))))))))))))))))
def Zdd (x:(List UInt8)):(Int)->Option ((Int) ⊕ (Unit ⊕ (Int×Int))):=fun (z1:Int)=>(cnd (iLt z1 (lLen x)) (bnd (idx x z1) (fun z2=>(cnd (iLt (y2i z2) (y2i (u8 128))) (some (.inr (.inr ((iConv .i32 (y2i z2)),1)))) (some (.inr (.inl ())))))) (some (.inr (.inl ()))))
def Zde (x:(List UInt8)):(Option (Int×Int)):=(joinX (loopX (Zdd x) 0) (fun (z1:Unit)=>(bnd (Zt x) (fun
 z2=>(some (z2.1,z2.2))))))
def Zdf (x:((List UInt8)×Int)):(Option (Int×(Int×Bool))):=(cnd (iLt x.2 0) (some (0,(0,false))) (cnd (iGe x.2 (lLen x.1)) (some (0,(0,false)))
 (chk (within x.2 (lLen x.1) (lLen x.1)) (chk (posW (nOf x.2) (lTake ((nOf (lLen x.1))-(nOf x.2)) (lDrop (nOf x.2) x.1)).length) (bnd (Zde (lTake ((nOf (lLen x.1))
 - (nOf x.2)) (lDrop (nOf x.2) x.1))) (fun z1=>(cnd (iEq z1.1 65533) (cnd (iLt z1.2 2) (some (0,(0,false))) (some ((iConv .i64 z1.1),((iAdd .i64 x.2 z1.2),
 true)))) (some ((iConv .i64 z1.1),((iAdd .i64 x.2 z1.2),true))))))))))
def Zec (x:(Int×Int)):(Option (Int×Bool)):=(cnd (iEq x.1 164) (bnd (Zj (x.2,(161,243))) (fun z1=>(cnd z1 (some ((iSub .i64
 (iAdd .i64 12353 x.2) 161),true)) (cnd (iEq x.1 165) (bnd (Zj (x.2,(161,246))) (fun z2=>(cnd z2 (some ((iSub .i64 (iAdd .i64 12449 x.2) 161),true)) (some
 (0,false))))) (some (0,false)))))) (cnd (iEq x.1 165) (bnd (Zj (x.2,(161,246))) (fun z1=>(cnd z1 (some ((iSub .i64 (iAdd .i64 12449 x.2) 161),true)) (some
 (0,false))))) (some (0,false))))
def Zdg (x:((List UInt8)×Int)):(Option (Int×(Int×Bool))):=(cnd (iLt x.2 0) (some (0,(0,false))) (cnd (iGe x.2 (lLen x.1)) (some (0,(0,false)))
 (bnd (idx x.1 x.2) (fun z1=>(cnd (iLe (y2i z1) (y2i (u8 127))) (bnd (idx x.1 x.2) (fun z2=>(some ((iConv .i64 (y2i z2)),((iAdd .i64 x.2 1),true)))))
 (cnd (iEq (iAdd .i64 x.2 1) (lLen x.1)) (some (0,(0,false))) (bnd (idx x.1 x.2) (fun z2=>(bnd (idx x.1 (iAdd .i64 x.2 1)) (fun z3=>(bnd (Zec
 ((iConv .i64 (y2i z2)),(iConv .i64 (y2i z3)))) (fun z4=>(cnd (bNot z4.2) (some (0,(0,false))) (some (z4.1,((iAdd .i64 x.2 2),true))))))))))))))))
def Zev (x:Int):(Option Int):=(cnd (iEq x 164) (some 8364) (cnd (iEq x 166) (some 352) (cnd (iEq x 168) (some 353) (cnd (iEq x 180) (some 381) (cnd
 (iEq x 184) (some 382) (cnd (iEq x 188) (some 338) (cnd (iEq x 189) (some 339) (cnd (iEq x 190) (some 376) (some x)))))))))
def Zew (x:Int):(Option Int):=(cnd (iGe x 224) (chk (iLe 0 (iSub .i64 x 224)) (chk (iLt (iSub .i64 x 224) 32) (bnd (idx [1102,1072,1073,1094,1076,
 1077,1092,1075,1093,1080,1081,1082,1083,1084,1085,1086,1087,1103,1088,1089,1090,1091,1078,1074,1100,1099,1079,1096,1101,1097,1095,1098] (Int.ofNat (0 +
 ((nOf (iSub .i64 x 224))*1)))) (fun z1=>(some (iSub .i64 z1 32)))))) (cnd (iGe x 192) (chk (iLe 0 (iSub .i64 x 192)) (chk (iLt (iSub .i64 x 192) 32) (bnd (idx [1102,
 1072,1073,1094,1076,1077,1092,1075,1093,1080,1081,1082,1083,1084,1085,1086,1087,1103,1088,1089,1090,1091,1078,1074,1100,1099,1079,1096,1101,1097,
 1095,1098] (Int.ofNat (0+((nOf (iSub .i64 x 192))*1)))) (fun z1=>(some z1))))) (cnd (iEq x 163) (some 1105) (cnd (iEq x 179) (some 1025) (some 0)))))
def Zex (x:Int):(Option Int):=(cnd (iGe x 160) (some x) (chk (iLe 0 (iSub .i64 x 128)) (chk (iLt (iSub .i64 x 128) 32) (bnd (idx [8364,0,8218,402,
 8222,8230,8224,8225,710,8240,352,8249,338,0,381,0,0,8216,8217,8220,8221,8226,8211,8212,732,8482,353,8250,339,0,382,376] (Int.ofNat (0+((nOf (iSub
 .i64 x 128))*1)))) (fun z1=>(some z1))))))
def Zbd (x:(Int×Int)):(Option (Int×Bool)):=(bnd (Zj (x.1,(1,4))) (fun z1=>(cnd (bNot z1) (some (0,false)) (bnd (Zj
 (x.2,(0,255))) (fun z2=>(cnd (bNot z2) (some (0,false)) (cnd (iLe x.2 127) (some (x.2,true)) (joinX (cnd (iEq x.1 2) (bnd (Zev x.2) (fun z3 =>
 (some (.inl z3)))) (cnd (iEq x.1 3) (bnd (Zew x.2) (fun z3=>(some (.inl z3)))) (cnd (iEq x.1 4) (bnd (Zex x.2) (fun z3=>(some (.inl z3))))
 (some (.inl x.2))))) (fun (z3:Int)=>(some (z3,(iNe z3 0))))))))))))
def Zdh (x:(Int×((List UInt8)×Int))):(Option (Int×(Int×Bool))):=(cnd (iEq x.1 0) (bnd (Zdf (x.2.1,x.2.2)) (fun z1=>(some (z1.1,(z1.2.1,z1.2.2))))) (cnd (iEq x.1 5) (bnd (Zdg (x.2.1,x.2.2)) (fun z1=>(some (z1.1,(z1.2.1,z1.2.2))))) (bnd (idx
 x.2.1 x.2.2) (fun z1=>(bnd (Zbd (x.1,(iConv .i64 (y2i z1)))) (fun z2=>(some (z2.1,((iAdd .i64 x.2.2 1),z2.2)))))))))
def Zed (x:Int):(Option Bool):=(bnd (Zj (x,(0,1114111))) (fun z1=>(cnd z1 (bnd (Zj (x,(55296,57343))) (fun z2 =>
 (some (bNot z2)))) (some false))))
def Zee (x:((List UInt8)×Int)):(Option (List UInt8)):=(cnd (iLe (iConv .u32 x.2) 2047) (chk (room (x.1.length+2) 1) (some (lApp x.1
 [(u8 (iOr .u8 (y2i (u8 192)) (y2i (u8 (iConv .u8 (iShr .i32 x.2 6)))))),(u8 (iOr .u8 (y2i (u8 128)) (y2i (u8 (iAnd .u8 (y2i (u8 (iConv .u8 x.2))) (y2i (u8 63)))))))]))) (joinX
 (cnd (iLt (iConv .u32 x.2) 55296) (some (.inl true)) (cnd (iLt 57343 (iConv .u32 x.2)) (some (.inl (iLe (iConv .u32 x.2) 65535))) (some (.inl false)))) (fun (z1:Bool)=>(cnd
 z1 (chk (room (x.1.length+3) 1) (some (lApp x.1 [(u8 (iOr .u8 (y2i (u8 224)) (y2i (u8 (iConv .u8 (iShr .i32 x.2 12)))))),(u8 (iOr .u8 (y2i (u8 128)) (y2i (u8 (iAnd .u8 (y2i
 (u8 (iConv .u8 (iShr .i32 x.2 6)))) (y2i (u8 63))))))),(u8 (iOr .u8 (y2i (u8 128)) (y2i (u8 (iAnd .u8 (y2i (u8 (iConv .u8 x.2))) (y2i (u8 63)))))))]))) (cnd (iGt (iConv .u32
 x.2) 65535) (cnd (iLe (iConv .u32 x.2) 1114111) (chk (room (x.1.length+4) 1) (some (lApp x.1 [(u8 (iOr .u8 (y2i (u8 240)) (y2i (u8 (iConv .u8 (iShr .i32 x.2 18)))))),(u8 (iOr
 .u8 (y2i (u8 128)) (y2i (u8 (iAnd .u8 (y2i (u8 (iConv .u8 (iShr .i32 x.2 12)))) (y2i (u8 63))))))),(u8 (iOr .u8 (y2i (u8 128)) (y2i (u8 (iAnd .u8 (y2i (u8 (iConv .u8 (iShr .i32
 x.2 6)))) (y2i (u8 63))))))),(u8 (iOr .u8 (y2i (u8 128)) (y2i (u8 (iAnd .u8 (y2i (u8 (iConv .u8 x.2))) (y2i (u8 63)))))))]))) (chk (room (x.1.length+3) 1) (some (lApp x.1 [(u8
 239),(u8 191),(u8 189)])))) (chk (room (x.1.length+3) 1) (some (lApp x.1 [(u8 239),(u8 191),(u8 189)]))))))))
def Zef (x:((List UInt8)×Int)):(Option (List UInt8)):=(cnd (iLe (iConv .u32 x.2) 127) (chk (room (x.1.length+1) 1) (some (lApp x.1 [(u8 (iConv
 .u8 x.2))]))) (bnd (Zee (x.1,x.2)) (fun z1=>(some z1))))
def Zdi (x:((List UInt8)×Int)):(Option (List UInt8)):=(bnd (Zcd [x.1]) (fun z1=>(bnd (Zed x.2) (fun z2 =>
 (cnd (bNot z2) (some z1) (bnd (Zef (z1,(iConv .i32 x.2))) (fun z3=>(some z3))))))))
def Zey (x:(Int×(List UInt8))):((List UInt8)×Int)->Option (((List UInt8)×Int) ⊕ ((List UInt8) ⊕ ((List UInt8)×Bool))):=fun (z2:((List UInt8)
 × Int))=>(cnd (iLt z2.2 (lLen x.2)) (bnd (Zdh (x.1,(x.2,z2.2))) (fun z3=>(cnd (bNot z3.2.2) (some (.inr (.inr ([],false)))) (bnd
 (Zdi (z2.1,z3.1)) (fun z4=>(some (.inl (z4,z3.2.1)))))))) (some (.inr (.inl z2.1))))
def Zdj (x:(Int×(List UInt8))):(Option ((List UInt8)×Bool)):=(bnd (Zdc x.1) (fun z1=>(cnd (bNot z1) (some ([],false)) (joinX (loopX
 (Zey x) ([],0)) (fun (z2:(List UInt8))=>(some (z2,true)))))))
def Zbe (x:(Int×(List UInt8))):(Option ((List UInt8)×Bool)):=(bnd (Zcg (x.1,x.2)) (fun z1=>(cnd (bNot z1) (some ([],false))
 (bnd (Zdj (x.1,x.2)) (fun z2=>(some (z2.1,z2.2)))))))
def Zeg (x:((Int×(List UInt8))×(Int×(List UInt8)))):(Option Bool):=(bnd (Zbe (x.1.1,x.1.2)) (fun z1=>(bnd
 (Zbe (x.2.1,x.2.2)) (fun z2=>(cnd z1.2 (cnd z2.2 (some (sEq z1.1 z2.1)) (some false)) (some false))))))
def Zbf (x:((List UInt8)×((Int×(List UInt8))×((Int×(List UInt8))×(Int×Bool))))):(Option Bool):=(bnd (Zcf x.1) (fun z1=>(cnd
 (bNot z1) (some false) (bnd (Zj (x.2.2.2.1,(1,3))) (fun z2=>(cnd (bNot z2) (some false) (bnd (Zbe (x.2.1.1,x.2.1.2)) (fun z3=>(bnd (Zbe (x.2.2.1.1,x.2.2.1.2)) (fun z4=>(bnd (Zp ((x.2.1.1,x.2.1.2),(0,[]))) (fun z5=>(joinX (cnd (iNe
 x.2.2.2.1 2) (bnd (Zcg (x.2.1.1,x.2.1.2)) (fun z6=>(cnd z6 (cnd (iNe x.2.1.1 0) (cnd z3.2 (some (.inl true)) (cnd x.2.2.2.2 (some (.inl (iEq x.2.2.2.1 1)))
 (some (.inl false)))) (some (.inl false))) (some (.inl false))))) (some (.inl z5))) (fun (z6:Bool)=>(bnd (Zp ((x.2.2.1.1,x.2.2.1.2),(0,[]))) (fun z7 =>
 (joinX (cnd (iNe x.2.2.2.1 1) (cnd (iEq x.2.2.1.1 0) (some (.inl z4.2)) (some (.inl false))) (some (.inl z7))) (fun (z8:Bool)=>(cnd z6 (cnd z8 (cnd (iNe x.2.2.2.1 3) (some
 true) (bnd (Zeg ((x.2.1.1,x.2.1.2),(x.2.2.1.1,x.2.2.1.2))) (fun z9=>(some z9)))) (some false)) (some false))))))))))))))))))))
def Zch (x:Int):(Option Bool):=(bnd (Zj (x,(0,65535))) (fun z1=>(some z1)))
def Zci (x:(Int×(((List UInt8)×((Int×(List UInt8))×((Int×(List UInt8))×(Int×Bool))))×((List UInt8)×(Int×(Int×(Int×Int))))))):(Option
 Bool):=(bnd (Zdb ((x.2.1.1,((x.2.1.2.1.1,x.2.1.2.1.2),((x.2.1.2.2.1.1,x.2.1.2.2.1.2),(x.2.1.2.2.2.1,x.2.1.2.2.2.2)))),([],((0,[]),((0,[]),(0,false))))))
 (fun z1=>(joinX (cnd (iEq x.1 1) (bnd (Zbf (x.2.1.1,((x.2.1.2.1.1,x.2.1.2.1.2),((x.2.1.2.2.1.1,x.2.1.2.2.1.2),(x.2.1.2.2.2.1,x.2.1.2.2.2.2))))) (fun z2=>(cnd z2 (cnd (sEq x.2.2.1 []) (some (.inl (iEq x.2.2.2.1 0))) (some (.inl false))) (some (.inl false))))) (cnd (iEq x.1 2) (cnd z1 (bnd (Zcf x.2.2.1) (fun z2=>(cnd z2 (some (.inl (iEq x.2.2.2.1 0))) (some (.inl false))))) (some (.inl false))) (cnd (iEq x.1 3) (cnd z1 (cnd (sEq x.2.2.1 []) (bnd (Zj (x.2.2.2.1,(0,7)))
 (fun z2=>(some (.inl z2)))) (some (.inl false))) (some (.inl false))) (cnd (iEq x.1 4) (cnd z1 (cnd (sEq x.2.2.1 []) (cnd (iEq x.2.2.2.1 0) (some (.inl (iNe
 x.2.2.2.2.1 0))) (some (.inl false))) (some (.inl false))) (some (.inl false))) (some (.inl false)))))) (fun (z2:Bool)=>(cnd (iEq x.2.2.2.2.1 0) (cnd z2 (cnd (iEq
 x.2.2.2.2.2.1 0) (some (iEq x.2.2.2.2.2.2 0)) (some false)) (some false)) (cnd z2 (bnd (Zj (x.2.2.2.2.1,(1,9))) (fun z3=>(cnd z3 (bnd (Zch
 x.2.2.2.2.2.1) (fun z4=>(cnd z4 (bnd (Zj (x.2.2.2.2.2.2,(0,6))) (fun z5=>(some z5))) (some false)))) (some false)))) (some false)))))))
def Zeh (x:((List ((List UInt8)×((Int×(List UInt8))×((Int×(List UInt8))×(Int×Bool)))))×(Int×(List (Int×(Int×Int)))))):(Int)->Option
 ((Int) ⊕ (Unit ⊕ Bool)):=fun (z1:Int)=>(cnd (iLt z1 (lLen x.1)) (bnd (idx x.1 z1) (fun z2=>(bnd (Zbf (z2.1,((z2.2.1.1,z2.2.1.2),((z2.2.2.1.1,z2.2.2.1.2),(z2.2.2.2.1,z2.2.2.2.2))))) (fun z3=>(cnd (bNot z3) (some (.inr (.inr false)))
 (cnd (iGt z1 0) (bnd (idx x.1 (iSub .i64 z1 1)) (fun z4=>(cnd (bNot (sLt z4.1 z2.1)) (some
 (.inr (.inr false))) (some (.inl (iAdd .i64 z1 1)))))) (some (.inl (iAdd .i64 z1 1))))))))) (some (.inr (.inl ()))))
def Zei (x:((List ((List UInt8)×((Int×(List UInt8))×((Int×(List UInt8))×(Int×Bool)))))×(Int×(List (Int×(Int×Int)))))):(Int)->Option
 ((Int) ⊕ (Unit ⊕ Bool)):=fun (z2:Int)=>(cnd (iLt z2 (lLen x.2.2)) (bnd (idx x.2.2 z2) (fun z3=>(bnd (Zj (z3.1,(1,9))) (fun z4
 => (cnd (bNot z4) (some (.inr (.inr false))) (bnd (Zch z3.2.1) (fun z5=>(cnd (bNot z5) (some (.inr (.inr false))) (bnd (Zj (z3.2.2,(0,6))) (fun z6=>(cnd (bNot z6) (some (.inr (.inr false))) (cnd (iGt z2 0) (bnd (idx x.2.2 (iSub .i64 z2 1)) (fun z7=>(cnd (iGe z7.1 z3.1) (some (.inr (.inr
 false))) (some (.inl (iAdd .i64 z2 1)))))) (some (.inl (iAdd .i64 z2 1))))))))))))))) (some (.inr (.inl ()))))
def Zx (x:((List ((List UInt8)×((Int×(List UInt8))×((Int×(List UInt8))×(Int×Bool)))))×(Int×(List (Int×(Int×Int)))))):(Option Bool) :=
 (joinX (loopX (Zeh x) 0) (fun (z1:Unit)=>(joinX (loopX (Zei x) 0) (fun (z2:Unit)=>(cnd (iLe (lLen x.1) 8) (bnd (Zj (x.2.1,(0,7))) (fun z3=>(some z3))) (some false))))))
def Zej (x:((List ((List UInt8)×((Int×(Option (List UInt8)))×((Int×(Option (List UInt8)))×(Int×Bool)))))×((List UInt8)×((Int×(List
 UInt8))×((Int×(List UInt8))×(Int×Bool)))))):((List ((List UInt8)×((Int×(List UInt8))×((Int×(List UInt8))×(Int×Bool)))))×(Bool×((List ((List UInt8) ×
 ((Int×(Option (List UInt8)))×((Int×(Option (List UInt8)))×(Int×Bool)))))×Int)))->Option (((List ((List UInt8)×((Int×(List UInt8))×((Int×(List UInt8))×(Int
 × Bool)))))×(Bool×((List ((List UInt8)×((Int×(Option (List UInt8)))×((Int×(Option (List UInt8)))×(Int×Bool)))))×Int))) ⊕ (((List ((List UInt8)×((Int×(List
 UInt8))×((Int×(List UInt8))×(Int×Bool)))))×Bool) ⊕ (List ((List UInt8)×((Int×(List UInt8))×((Int×(List UInt8))×(Int×Bool))))))):=fun (z1:((List ((List
 UInt8)×((Int×(List UInt8))×((Int×(List UInt8))×(Int×Bool)))))×(Bool×((List ((List UInt8)×((Int×(Option (List UInt8)))×((Int×(Option (List UInt8)))×(Int
 × Bool)))))×Int))))=>(cnd (iLt z1.2.2.2 (lLen x.1)) (joinX (bnd (idx z1.2.2.1 z1.2.2.2) (fun z2=>(chk (hSome z2.2.1.2) (chk (hSome z2.2.2.1.2) (joinX (cnd (bNot z1.2.1) (cnd (bNot (sLt z2.1 x.2.1)) (bnd (Zn (x.2.1,((x.2.2.1.1,
 x.2.2.1.2),((x.2.2.2.1.1,x.2.2.2.1.2),(x.2.2.2.2.1,x.2.2.2.2.2))))) (fun z3=>(chk (room
 (z1.1.length+1) 96) (some (.inl ((lApp z1.1 [(z3.1,((z3.2.1.1,z3.2.1.2),((z3.2.2.1.1,z3.2.2.1.2),(z3.2.2.2.1,z3.2.2.2.2))))]),true)))))) (some (.inl (z1.1,z1.2.1))))
 (some (.inl (z1.1,z1.2.1)))) (fun (z3:((List ((List UInt8)×((Int×(List UInt8))×((Int×(List UInt8))×(Int×Bool)))))×Bool))=>(cnd (bNot (sEq z2.1 x.2.1)) (bnd
 (idx z1.2.2.1 (Int.ofNat (nOf z1.2.2.2))) (fun z4=>(bnd (idx (lSet
 z1.2.2.1 (nOf z1.2.2.2) (z4.1,((z4.2.1.1,none),z4.2.2))) (Int.ofNat (nOf z1.2.2.2))) (fun z5=>(chk (room (z3.1.length+1) 96) (some (.inl ((lApp z3.1 [(z2.1,((z2.2.1.1,(hGet z2.2.1.2)),((z2.2.2.1.1,(hGet z2.2.2.1.2)),(z2.2.2.2.1,
 z2.2.2.2.2))))]),(z3.2,(lSet (lSet z1.2.2.1 (nOf z1.2.2.2) (z4.1,((z4.2.1.1,none),z4.2.2))) (nOf z1.2.2.2) (z5.1,(z5.2.1,((z5.2.2.1.1,none),z5.2.2.2))))))))))))) (some
 (.inl (z3.1,(z3.2,z1.2.2.1))))))))))) (fun (z2:((List ((List UInt8)×((Int×(List UInt8))×((Int×(List UInt8))×(Int×Bool)))))×(Bool×(List ((List UInt8)×((Int ×
 (Option (List UInt8)))×((Int×(Option (List UInt8)))×(Int×Bool))))))))=>(some (.inl (z2.1,(z2.2.1,(z2.2.2,(iAdd .i64 z1.2.2.2 1)))))))) (some (.inr (.inl (z1.1,
 z1.2.1)))))
def Zbr (x:((List ((List UInt8)×((Int×(Option (List UInt8)))×((Int×(Option (List UInt8)))×(Int×Bool)))))×((List UInt8)×((Int×(List UInt8))
 × ((Int×(List UInt8))×(Int×Bool)))))):(Option (List ((List UInt8)×((Int×(List UInt8))×((Int×(List UInt8))×(Int×Bool)))))):=(joinX (loopX (Zej x)
 ([],(false,(x.1,0)))) (fun (z1:((List ((List UInt8)×((Int×(List UInt8))×((Int×(List UInt8))×(Int×Bool)))))×Bool))=>(joinX (cnd (bNot z1.2) (bnd (Zn
 (x.2.1,((x.2.2.1.1,x.2.2.1.2),((x.2.2.2.1.1,x.2.2.2.1.2),(x.2.2.2.2.1,x.2.2.2.2.2))))) (fun z2=>(chk (room (z1.1.length+1) 96) (some (.inl (lApp z1.1 [(z2.1,((z2.2.1.1,z2.2.1.2),((z2.2.2.1.1,z2.2.2.1.2),(z2.2.2.2.1,z2.2.2.2.2))))])))))) (some (.inl
 z1.1))) (fun (z2:(List ((List UInt8)×((Int×(List UInt8))×((Int×(List UInt8))×(Int×Bool))))))=>(some z2)))))
def Zbs (x:(((List UInt8)×((Int×(List UInt8))×((Int×(List UInt8))×(Int×Bool))))×(Int×(((List UInt8)×((Int×(List UInt8))×((Int×(List
 UInt8))×(Int×Bool))))×((List UInt8)×(Int×(Int×(Int×Int)))))))):(Option (Bool×(Int×((List UInt8)×(Int×(Int×(Int×(Bool×((List UInt8)×(Int×(Int ×
 (Int×Int)))))))))))):=(some ((sEq x.1.1 x.2.2.2.1),(x.2.1,(x.2.2.1.1,(x.2.2.1.2.1.1,(x.2.2.1.2.2.1.1,(x.2.2.1.2.2.2.1,(x.2.2.1.2.2.2.2,(x.2.2.2.1,(x.2.2.2.2.1,
 (x.2.2.2.2.2.1,(x.2.2.2.2.2.2.1,x.2.2.2.2.2.2.2))))))))))))
def Zez (x:((List ((List UInt8)×((Int×(List UInt8))×((Int×(List UInt8))×(Int×Bool)))))×(Int×(((List UInt8)×((Int ×
 (List UInt8))×((Int×(List UInt8))×(Int×Bool))))×((List UInt8)×(Int×(Int×(Int×Int)))))))):(Int×((List UInt8)×(Int×(Int×(Int×(Bool×((List UInt8) ×
 (Int×(Int×(Int×(Int×Int)))))))))))->Option ((Int×((List UInt8)×(Int×(Int×(Int×(Bool×((List UInt8)×(Int×(Int×(Int×(Int×Int))))))))))) ⊕ (Int×(Int
 × ((List UInt8)×(Int×(Int×(Int×(Bool×((List UInt8)×(Int×(Int×(Int×Int)))))))))))):=fun (z1:(Int×((List UInt8)×(Int×(Int×(Int×(Bool×((List UInt8)
 × (Int×(Int×(Int×(Int×Int))))))))))))=>(cnd (iLt z1.2.2.2.2.2.2.2.2.2.2.2 (lLen x.1)) (bnd (idx x.1 z1.2.2.2.2.2.2.2.2.2.2.2) (fun z2=>(bnd (Zbs ((z2.1,((z2.2.1.1,z2.2.1.2),((z2.2.2.1.1,z2.2.2.1.2),(z2.2.2.2.1,z2.2.2.2.2)))),(z1.1,((z1.2.1,
 ((z1.2.2.1,x.2.2.1.2.1.2),((z1.2.2.2.1,x.2.2.1.2.2.1.2),(z1.2.2.2.2.1,z1.2.2.2.2.2.1)))),(z1.2.2.2.2.2.2.1,(z1.2.2.2.2.2.2.2.1,(z1.2.2.2.2.2.2.2.2.1,
 (z1.2.2.2.2.2.2.2.2.2.1,z1.2.2.2.2.2.2.2.2.2.2.1)))))))) (fun z3=>(cnd z3.1 (some (.inr (z1.2.2.2.2.2.2.2.2.2.2.2,(z3.2.1,(z3.2.2.1,(z3.2.2.2.1,(z3.2.2.2.2.1,(z3.2.2.2.2.2.1,(z3.2.2.2.2.2.2.1,(z3.2.2.2.2.2.2.2.1,
 (z3.2.2.2.2.2.2.2.2.1,(z3.2.2.2.2.2.2.2.2.2.1,(z3.2.2.2.2.2.2.2.2.2.2.1,z3.2.2.2.2.2.2.2.2.2.2.2))))))))))))) (some (.inl (z3.2.1,(z3.2.2.1,(z3.2.2.2.1,(z3.2.2.2.2.1,
 (z3.2.2.2.2.2.1,(z3.2.2.2.2.2.2.1,(z3.2.2.2.2.2.2.2.1,(z3.2.2.2.2.2.2.2.2.1,(z3.2.2.2.2.2.2.2.2.2.1,(z3.2.2.2.2.2.2.2.2.2.2.1,(z3.2.2.2.2.2.2.2.2.2.2.2,(iAdd .i64
 z1.2.2.2.2.2.2.2.2.2.2.2 1))))))))))))))))))) (some (.inr ((-1),(z1.1,(z1.2.1,(z1.2.2.1,(z1.2.2.2.1,(z1.2.2.2.2.1,(z1.2.2.2.2.2.1,(z1.2.2.2.2.2.2.1,(z1.2.2.2.2.2.2.2.1,
 (z1.2.2.2.2.2.2.2.2.1,(z1.2.2.2.2.2.2.2.2.2.1,z1.2.2.2.2.2.2.2.2.2.2.1))))))))))))))
def Zcj (x:((List ((List UInt8)×((Int×(List UInt8))×((Int×(List UInt8))×(Int×Bool)))))×(Int×(((List UInt8)×((Int×(List
 UInt8))×((Int×(List UInt8))×(Int×Bool))))×((List UInt8)×(Int×(Int×(Int×Int)))))))):(Option (Int×(Int×((List UInt8)×(Int×(Int×(Int×(Bool×((List
 UInt8)×(Int×(Int×(Int×Int)))))))))))):=(loopX (Zez x) (x.2.1,(x.2.2.1.1,(x.2.2.1.2.1.1,(x.2.2.1.2.2.1.1,(x.2.2.1.2.2.2.1,
 (x.2.2.1.2.2.2.2,(x.2.2.2.1,(x.2.2.2.2.1,(x.2.2.2.2.2.1,(x.2.2.2.2.2.2.1,(x.2.2.2.2.2.2.2,0))))))))))))
def Zdk (x:((List ((List UInt8)×((Int×(Option (List UInt8)))×((Int×(Option (List UInt8)))×(Int×Bool)))))×(Int×(((List
 UInt8)×((Int×(List UInt8))×((Int×(List UInt8))×(Int×Bool))))×((List UInt8)×(Int×(Int×(Int×Int)))))))):((List ((List UInt8)×((Int×(Option (List
 UInt8)))×((Int×(Option (List UInt8)))×(Int×Bool)))))×(Int×((List UInt8)×(Int×(Int×(Int×(Bool×((List UInt8)×(Int×(Int×(Int×(Int×(Int ×
 Int)))))))))))))->Option (((List ((List UInt8)×((Int×(Option (List UInt8)))×((Int×(Option (List UInt8)))×(Int×Bool)))))×(Int×((List UInt8)×(Int×(Int×(Int ×
 (Bool×((List UInt8)×(Int×(Int×(Int×(Int×(Int×Int))))))))))))) ⊕ (((List ((List UInt8)×((Int×(Option (List UInt8)))×((Int×(Option (List UInt8)))×(Int ×
 Bool)))))×(Int×((List UInt8)×(Int×(Int×(Int×(Bool×((List UInt8)×(Int×(Int×(Int×(Int×Int)))))))))))) ⊕ ((List ((List UInt8)×((Int×(List UInt8))×((Int
 × (List UInt8))×(Int×Bool)))))×(Int×((List UInt8)×(Int×(Int×(Int×(Bool×((List UInt8)×(Int×(Int×(Int×Int))))))))))))):=fun (z3:((List ((List UInt8) ×
 ((Int×(Option (List UInt8)))×((Int×(Option (List UInt8)))×(Int×Bool)))))×(Int×((List UInt8)×(Int×(Int×(Int×(Bool×((List UInt8)×(Int×(Int×(Int×(Int
 × (Int×Int))))))))))))))=>(cnd (iLt z3.2.2.2.2.2.2.2.2.2.2.2.2.2 (lLen z3.1)) (joinX (bnd (idx z3.1 z3.2.2.2.2.2.2.2.2.2.2.2.2.2) (fun z4=>(chk (hSome z4.2.1.2) (chk (hSome z4.2.2.1.2) (bnd (Zbs ((z4.1,((z4.2.1.1,(hGet z4.2.1.2)),
 ((z4.2.2.1.1,(hGet z4.2.2.1.2)),(z4.2.2.2.1,z4.2.2.2.2)))),(z3.2.1,((z3.2.2.1,((z3.2.2.2.1,x.2.2.1.2.1.2),((z3.2.2.2.2.1,x.2.2.1.2.2.1.2),(z3.2.2.2.2.2.1,
 z3.2.2.2.2.2.2.1)))),(z3.2.2.2.2.2.2.2.1,(z3.2.2.2.2.2.2.2.2.1,(z3.2.2.2.2.2.2.2.2.2.1,(z3.2.2.2.2.2.2.2.2.2.2.1,z3.2.2.2.2.2.2.2.2.2.2.2.1)))))))) (fun z5=>(cnd (bNot z5.1) (bnd (idx z3.1 z3.2.2.2.2.2.2.2.2.2.2.2.2.1) (fun z6=>(chk (nNe (nOf z3.2.2.2.2.2.2.2.2.2.2.2.2.1) (nOf
 z3.2.2.2.2.2.2.2.2.2.2.2.2.2)) (bnd (idx z3.1 (Int.ofNat (nOf z3.2.2.2.2.2.2.2.2.2.2.2.2.2))) (fun z7=>(chk (nEq (nOf z3.2.2.2.2.2.2.2.2.2.2.2.2.2) (nOf z3.2.2.2.2.2.2.2.2.2.2.2.2.2)) (chk (nEq (nOf z3.2.2.2.2.2.2.2.2.2.2.2.2.2) (nOf
 z3.2.2.2.2.2.2.2.2.2.2.2.2.2)) (some (.inl ((lSet (lSet z3.1 (nOf z3.2.2.2.2.2.2.2.2.2.2.2.2.1) (z4.1,((z4.2.1.1,(some (hGet z4.2.1.2))),((z4.2.2.1.1,(some (hGet
 z4.2.2.1.2))),(z4.2.2.2.1,z4.2.2.2.2))))) (nOf z3.2.2.2.2.2.2.2.2.2.2.2.2.2) (z7.1,((z7.2.1.1,none),((z7.2.2.1.1,none),(z7.2.2.2.1,z7.2.2.2.2))))),(z5.2.1,(z5.2.2.1,
 (z5.2.2.2.1,(z5.2.2.2.2.1,(z5.2.2.2.2.2.1,(z5.2.2.2.2.2.2.1,(z5.2.2.2.2.2.2.2.1,(z5.2.2.2.2.2.2.2.2.1,(z5.2.2.2.2.2.2.2.2.2.1,(z5.2.2.2.2.2.2.2.2.2.2.1,
 (z5.2.2.2.2.2.2.2.2.2.2.2,(iAdd .i64 z3.2.2.2.2.2.2.2.2.2.2.2.2.1 1)))))))))))))))))))))) (some (.inl (z3.1,(z5.2.1,(z5.2.2.1,(z5.2.2.2.1,(z5.2.2.2.2.1,(z5.2.2.2.2.2.1,
 (z5.2.2.2.2.2.2.1,(z5.2.2.2.2.2.2.2.1,(z5.2.2.2.2.2.2.2.2.1,(z5.2.2.2.2.2.2.2.2.2.1,(z5.2.2.2.2.2.2.2.2.2.2.1,(z5.2.2.2.2.2.2.2.2.2.2.2,
 z3.2.2.2.2.2.2.2.2.2.2.2.2.1))))))))))))))))))))) (fun (z4:((List ((List UInt8)×((Int×(Option (List UInt8)))×((Int×(Option (List UInt8)))×(Int×Bool)))))×(Int ×
 ((List UInt8)×(Int×(Int×(Int×(Bool×((List UInt8)×(Int×(Int×(Int×(Int×Int)))))))))))))=>(some (.inl (z4.1,(z4.2.1,(z4.2.2.1,(z4.2.2.2.1,(z4.2.2.2.2.1,
 (z4.2.2.2.2.2.1,(z4.2.2.2.2.2.2.1,(z4.2.2.2.2.2.2.2.1,(z4.2.2.2.2.2.2.2.2.1,(z4.2.2.2.2.2.2.2.2.2.1,(z4.2.2.2.2.2.2.2.2.2.2.1,(z4.2.2.2.2.2.2.2.2.2.2.2.1,
 (z4.2.2.2.2.2.2.2.2.2.2.2.2,(iAdd .i64 z3.2.2.2.2.2.2.2.2.2.2.2.2.2 1)))))))))))))))))) (some (.inr (.inl (z3.1,(z3.2.1,(z3.2.2.1,(z3.2.2.2.1,(z3.2.2.2.2.1,(z3.2.2.2.2.2.1,
 (z3.2.2.2.2.2.2.1,(z3.2.2.2.2.2.2.2.1,(z3.2.2.2.2.2.2.2.2.1,(z3.2.2.2.2.2.2.2.2.2.1,(z3.2.2.2.2.2.2.2.2.2.2.1,(z3.2.2.2.2.2.2.2.2.2.2.2.1,
 z3.2.2.2.2.2.2.2.2.2.2.2.2.1))))))))))))))))
def Zbt (x:((List ((List UInt8)×((Int×(Option (List UInt8)))×((Int×(Option (List UInt8)))×(Int×Bool)))))×(Int×(((List
 UInt8)×((Int×(List UInt8))×((Int×(List UInt8))×(Int×Bool))))×((List UInt8)×(Int×(Int×(Int×Int)))))))):(Option ((List ((List UInt8)×((Int×(List UInt8))
 × ((Int×(List UInt8))×(Int×Bool)))))×(Int×((List UInt8)×(Int×(Int×(Int×(Bool×((List UInt8)×(Int×(Int×(Int×Int)))))))))))):=(bnd (cvL (.P .S (.P (.P
 (.I .i64) (.H .Y)) (.P (.P (.I .i64) (.H .Y)) (.P (.I .i64) .B)))) (.P .S (.P (.P (.I .i64) (.L .Y)) (.P (.P (.I .i64) (.L .Y)) (.P (.I .i64) .B)))) x.1) (fun z1=>(bnd (Zcj (z1,(x.2.1,((x.2.2.1.1,((x.2.2.1.2.1.1,x.2.2.1.2.1.2),
 ((x.2.2.1.2.2.1.1,x.2.2.1.2.2.1.2),(x.2.2.1.2.2.2.1,x.2.2.1.2.2.2.2)))),(x.2.2.2.1,(x.2.2.2.2.1,(x.2.2.2.2.2.1,(x.2.2.2.2.2.2.1,x.2.2.2.2.2.2.2)))))))) (fun z2=>(cnd (iEq z2.1 (-1)) (bnd (cvL (.P .S (.P (.P (.I .i64) (.H .Y)) (.P
 (.P (.I .i64) (.H .Y)) (.P (.I .i64) .B)))) (.P .S (.P (.P (.I .i64) (.L .Y)) (.P (.P (.I .i64) (.L .Y)) (.P (.I .i64) .B)))) x.1) (fun z3=>(some (z3,(z2.2.1,(z2.2.2.1,(z2.2.2.2.1,(z2.2.2.2.2.1,(z2.2.2.2.2.2.1,(z2.2.2.2.2.2.2.1,(z2.2.2.2.2.2.2.2.1,
 (z2.2.2.2.2.2.2.2.2.1,(z2.2.2.2.2.2.2.2.2.2.1,(z2.2.2.2.2.2.2.2.2.2.2.1,z2.2.2.2.2.2.2.2.2.2.2.2)))))))))))))) (joinX (loopX (Zdk x) (x.1,(z2.2.1,
 (z2.2.2.1,(z2.2.2.2.1,(z2.2.2.2.2.1,(z2.2.2.2.2.2.1,(z2.2.2.2.2.2.2.1,(z2.2.2.2.2.2.2.2.1,(z2.2.2.2.2.2.2.2.2.1,(z2.2.2.2.2.2.2.2.2.2.1,(z2.2.2.2.2.2.2.2.2.2.2.1,
 (z2.2.2.2.2.2.2.2.2.2.2.2,(z2.1,(iAdd .i64 z2.1 1))))))))))))))) (fun (z3:((List ((List UInt8)×((Int×(Option (List UInt8)))×((Int×(Option (List UInt8)))×(Int ×
 Bool)))))×(Int×((List UInt8)×(Int×(Int×(Int×(Bool×((List UInt8)×(Int×(Int×(Int×(Int×Int)))))))))))))=>(chk (within z3.2.2.2.2.2.2.2.2.2.2.2.2 (lLen
 z3.1) (lLen z3.1)) (chk (nEq ((nOf z3.2.2.2.2.2.2.2.2.2.2.2.2)+((nOf (lLen z3.1))-(nOf z3.2.2.2.2.2.2.2.2.2.2.2.2))) z3.1.length) (chk (within 0 z3.2.2.2.2.2.2.2.2.2.2.2.2
 (lLen (lApp (lTake (nOf z3.2.2.2.2.2.2.2.2.2.2.2.2) z3.1) (lRep ((nOf (lLen z3.1))-(nOf z3.2.2.2.2.2.2.2.2.2.2.2.2)) ([],((0,none),((0,none),(0,false)))))))) (chk (fits 0
 ((nOf z3.2.2.2.2.2.2.2.2.2.2.2.2)-0) (lApp (lTake (nOf z3.2.2.2.2.2.2.2.2.2.2.2.2) z3.1) (lRep ((nOf (lLen z3.1))-(nOf z3.2.2.2.2.2.2.2.2.2.2.2.2)) ([],((0,none),((0,
 none),(0,false)))))).length) (bnd (cvL (.P .S (.P (.P (.I .i64) (.H .Y)) (.P (.P (.I .i64) (.H .Y)) (.P (.I .i64) .B)))) (.P .S (.P (.P (.I .i64) (.L .Y)) (.P (.P (.I .i64) (.L
 .Y)) (.P (.I .i64) .B)))) (lTake ((nOf z3.2.2.2.2.2.2.2.2.2.2.2.2)-0) (lApp (lTake (nOf z3.2.2.2.2.2.2.2.2.2.2.2.2) z3.1) (lRep ((nOf (lLen z3.1))-(nOf
 z3.2.2.2.2.2.2.2.2.2.2.2.2)) ([],((0,none),((0,none),(0,false)))))))) (fun z4 =>
 (some (z4,(z3.2.1,(z3.2.2.1,(z3.2.2.2.1,(z3.2.2.2.2.1,(z3.2.2.2.2.2.1,(z3.2.2.2.2.2.2.1,(z3.2.2.2.2.2.2.2.1,(z3.2.2.2.2.2.2.2.2.1,(z3.2.2.2.2.2.2.2.2.2.1,
 (z3.2.2.2.2.2.2.2.2.2.2.1,z3.2.2.2.2.2.2.2.2.2.2.2.1)))))))))))))))))))))))))
def Zfa (x:((List (Int×(Int×Int)))×(Int×(Int×Int)))):((List (Int×(Int×Int)))×(Bool×Int))->Option (((List (Int×(Int×Int))) ×
 (Bool×Int)) ⊕ (((List (Int×(Int×Int)))×Bool) ⊕ (List (Int×(Int×Int))))):=fun (z1:((List (Int×(Int×Int)))×(Bool×Int)))=>(cnd (iLt z1.2.2 (lLen x.1))
 (joinX (bnd (idx x.1 z1.2.2) (fun z2=>(joinX (cnd (bNot z1.2.1) (cnd (iGe z2.1 x.2.1) (chk (room (z1.1.length+1) 24) (some (.inl ((lApp z1.1 [(x.2.1,
 (x.2.2.1,x.2.2.2))]),true)))) (some (.inl (z1.1,z1.2.1)))) (some (.inl (z1.1,z1.2.1)))) (fun (z3:((List (Int×(Int×Int)))×Bool))=>(cnd (iNe z2.1 x.2.1) (chk (room
 (z3.1.length+1) 24) (some (.inl ((lApp z3.1 [(z2.1,(z2.2.1,z2.2.2))]),z3.2)))) (some (.inl (z3.1,z3.2)))))))) (fun (z2:((List (Int×(Int×Int)))×Bool))=>(some (.inl
 (z2.1,(z2.2,(iAdd .i64 z1.2.2 1))))))) (some (.inr (.inl (z1.1,z1.2.1)))))
def Zbg (x:((List (Int×(Int×Int)))×(Int×(Int×Int)))):(Option (List (Int×(Int×Int)))):=(joinX (loopX (Zfa x) ([],(false,0)))
 (fun (z1:((List (Int×(Int×Int)))×Bool))=>(joinX (cnd (bNot z1.2) (chk (room (z1.1.length+1) 24) (some (.inl (lApp z1.1 [(x.2.1,(x.2.2.1,x.2.2.2))])))) (some (.inl
 z1.1))) (fun (z2:(List (Int×(Int×Int))))=>(some z2)))))
def Ze (x:(((List ((List UInt8)×((Int×(List UInt8))×((Int×(List UInt8))×(Int×Bool)))))×(Int×(List (Int×(Int×Int)))))×(Int×(((List
 UInt8)×((Int×(List UInt8))×((Int×(List UInt8))×(Int×Bool))))×((List UInt8)×(Int×(Int×(Int×Int)))))))):(Option (((List ((List UInt8)×((Int×(List
 UInt8))×((Int×(List UInt8))×(Int×Bool)))))×(Int×(List (Int×(Int×Int)))))×Bool)):=(bnd (Zbc (x.1.1,(x.1.2.1,x.1.2.2))) (fun z1=>(bnd (Zci (x.2.1,((x.2.2.1.1,((x.2.2.1.2.1.1,
 x.2.2.1.2.1.2),((x.2.2.1.2.2.1.1,x.2.2.1.2.2.1.2),(x.2.2.1.2.2.2.1,x.2.2.1.2.2.2.2)))),(x.2.2.2.1,(x.2.2.2.2.1,(x.2.2.2.2.2.1,(x.2.2.2.2.2.2.1,x.2.2.2.2.2.2.2)))))))
 (fun z2=>(cnd (bNot z2) (some ((z1.1,(z1.2.1,z1.2.2)),false)) (bnd (Zx (x.1.1,(x.1.2.1,x.1.2.2))) (fun z3=>(cnd (bNot z3) (some ((z1.1,(z1.2.1,
 z1.2.2)),false)) (joinX (cnd (iEq x.2.1 1) (bnd (cvL (.P .S (.P (.P (.I .i64) (.L .Y)) (.P (.P (.I .i64) (.L .Y)) (.P (.I .i64) .B)))) (.P .S (.P (.P (.I .i64) (.H .Y)) (.P (.P
 (.I .i64) (.H .Y)) (.P (.I .i64) .B)))) z1.1) (fun z4=>(bnd
 (Zbr (z4,(x.2.2.1.1,((x.2.2.1.2.1.1,x.2.2.1.2.1.2),((x.2.2.1.2.2.1.1,x.2.2.1.2.2.1.2),(x.2.2.1.2.2.2.1,x.2.2.1.2.2.2.2)))))) (fun z5=>(some (.inl (x.2.1,(x.2.2.1.1,(x.2.2.1.2.1.1,(x.2.2.1.2.2.1.1,(x.2.2.1.2.2.2.1,(x.2.2.1.2.2.2.2,(x.2.2.2.1,
 (x.2.2.2.2.1,(x.2.2.2.2.2.1,(x.2.2.2.2.2.2.1,(x.2.2.2.2.2.2.2,(z5,z1.2.1)))))))))))))))))) (cnd (iEq x.2.1 2) (bnd (cvL (.P .S (.P (.P (.I .i64) (.L .Y)) (.P (.P (.I .i64)
 (.L .Y)) (.P (.I .i64) .B)))) (.P .S (.P (.P (.I .i64) (.H .Y)) (.P (.P (.I .i64) (.H .Y)) (.P (.I .i64) .B)))) z1.1) (fun z4=>(bnd (Zbt (z4,(x.2.1,((x.2.2.1.1,((x.2.2.1.2.1.1,x.2.2.1.2.1.2),((x.2.2.1.2.2.1.1,
 x.2.2.1.2.2.1.2),(x.2.2.1.2.2.2.1,x.2.2.1.2.2.2.2)))),(x.2.2.2.1,(x.2.2.2.2.1,(x.2.2.2.2.2.1,(x.2.2.2.2.2.2.1,x.2.2.2.2.2.2.2)))))))) (fun z5 =>
 (some (.inl (z5.2.1,(z5.2.2.1,(z5.2.2.2.1,(z5.2.2.2.2.1,(z5.2.2.2.2.2.1,(z5.2.2.2.2.2.2.1,(z5.2.2.2.2.2.2.2.1,(z5.2.2.2.2.2.2.2.2.1,(z5.2.2.2.2.2.2.2.2.2.1,
 (z5.2.2.2.2.2.2.2.2.2.2.1,(z5.2.2.2.2.2.2.2.2.2.2.2,(z5.1,z1.2.1)))))))))))))))))) (cnd (iEq x.2.1 3) (some (.inl (x.2.1,(x.2.2.1.1,(x.2.2.1.2.1.1,(x.2.2.1.2.2.1.1,
 (x.2.2.1.2.2.2.1,(x.2.2.1.2.2.2.2,(x.2.2.2.1,(x.2.2.2.2.1,(x.2.2.2.2.2.1,(x.2.2.2.2.2.2.1,(x.2.2.2.2.2.2.2,(z1.1,x.2.2.2.2.1)))))))))))))) (some (.inl (x.2.1,(x.2.2.1.1,
 (x.2.2.1.2.1.1,(x.2.2.1.2.2.1.1,(x.2.2.1.2.2.2.1,(x.2.2.1.2.2.2.2,(x.2.2.2.1,(x.2.2.2.2.1,(x.2.2.2.2.2.1,(x.2.2.2.2.2.2.1,(x.2.2.2.2.2.2.2,(z1.1,z1.2.1)))))))))))))))))
 (fun (z4:(Int×((List UInt8)×(Int×(Int×(Int×(Bool×((List UInt8)×(Int×(Int×(Int×(Int×((List ((List UInt8)×((Int×(List UInt8))×((Int×(List UInt8)) ×
 (Int×Bool)))))×Int)))))))))))))=>(joinX (cnd (iGt z4.2.2.2.2.2.2.2.2.1 0) (bnd (Zbg (z1.2.2,(z4.2.2.2.2.2.2.2.2.1,(z4.2.2.2.2.2.2.2.2.2.1,
 z4.2.2.2.2.2.2.2.2.2.2.1)))) (fun z5=>(some (.inl z5)))) (some (.inl z1.2.2))) (fun (z5:(List (Int×(Int×Int))))=>(bnd (Zx
 (z4.2.2.2.2.2.2.2.2.2.2.2.1,(z4.2.2.2.2.2.2.2.2.2.2.2.2,z5))) (fun z6=>(cnd (bNot z6) (bnd (Zbc (x.1.1,(x.1.2.1,x.1.2.2))) (fun z7=>(some ((z7.1,(z7.2.1,z7.2.2)),false)))) (some
 ((z4.2.2.2.2.2.2.2.2.2.2.2.1,(z4.2.2.2.2.2.2.2.2.2.2.2.2,z5)),true)))))))))))))))))
def Zfb (x:((List UInt8)×(List UInt8))):(Int)->Option ((Int) ⊕ Bool):=fun (z1:Int)=>(cnd (iLt z1 (lLen x.1)) (bnd (idx x.1 z1) (fun z2=>(bnd (idx x.2 z1) (fun z3=>(cnd (iNe (y2i z2) (y2i z3)) (some (.inr false)) (some (.inl (iAdd .i64 z1 1)))))))) (some (.inr true)))
def Zdl (x:((List UInt8)×(List UInt8))):(Option Bool):=(cnd (iNe (lLen x.1) (lLen x.2)) (some false) (loopX (Zfb x) 0))
def Zck (x:((Int×(List UInt8))×(Int×(List UInt8)))):(Option Bool):=(cnd (iNe x.1.1 x.2.1) (some false) (bnd (Zdl (x.1.2,x.2.2)) (fun z1=>(cnd (bNot z1) (some false) (some true)))))
def Zbh (x:(((List UInt8)×((Int×(List UInt8))×((Int×(List UInt8))×(Int×Bool))))×((List UInt8)×((Int×(List UInt8))×((Int×(List UInt8)) ×
 (Int×Bool)))))):(Option Bool):=(cnd (bNot (sEq x.1.1 x.2.1)) (some false) (bnd (Zck ((x.1.2.1.1,x.1.2.1.2),(x.2.2.1.1,x.2.2.1.2))) (fun z1=>(cnd (bNot
 z1) (some false) (bnd (Zck ((x.1.2.2.1.1,x.1.2.2.1.2),(x.2.2.2.1.1,x.2.2.2.1.2))) (fun z2=>(cnd (bNot z2) (some false) (cnd (iNe x.1.2.2.2.1 x.2.2.2.2.1)
 (some false) (cnd (bNe x.1.2.2.2.2 x.2.2.2.2.2) (some false) (some true))))))))))
def Zfv (x:((List ((List UInt8)×((Int×(List UInt8))×((Int×(List UInt8))×(Int×Bool)))))×(List ((List UInt8)×((Int×(List UInt8))×((Int ×
 (List UInt8))×(Int×Bool))))))):(Int)->Option ((Int) ⊕ Bool):=fun (z1:Int)=>(cnd (iLt z1 (lLen x.1)) (bnd (idx x.1 z1) (fun z2=>(bnd (idx x.2 z1) (fun z3=>(bnd
 (Zbh ((z2.1,((z2.2.1.1,z2.2.1.2),((z2.2.2.1.1,z2.2.2.1.2),(z2.2.2.2.1,z2.2.2.2.2)))),(z3.1,((z3.2.1.1,z3.2.1.2),((z3.2.2.1.1,z3.2.2.1.2),(z3.2.2.2.1,
 z3.2.2.2.2)))))) (fun z4=>(cnd (bNot z4) (some (.inr false)) (some (.inl (iAdd .i64 z1 1)))))))))) (some (.inr true)))
def Zdm (x:((List ((List UInt8)×((Int×(List UInt8))×((Int×(List UInt8))×(Int×Bool)))))×(List ((List UInt8)×((Int×(List UInt8))×((Int ×
 (List UInt8))×(Int×Bool))))))):(Option Bool):=(cnd (iNe (lLen x.1) (lLen x.2)) (some false) (loopX (Zfv x) 0))
def Zdn (x:((Int×(Int×Int))×(Int×(Int×Int)))):(Option Bool):=(cnd (iNe x.1.1 x.2.1) (some false) (cnd (iNe x.1.2.1 x.2.2.1) (some false) (cnd
 (iNe x.1.2.2 x.2.2.2) (some false) (some true))))
def Zfw (x:((List (Int×(Int×Int)))×(List (Int×(Int×Int))))):(Int)->Option ((Int) ⊕ Bool):=fun (z1:Int)=>(cnd (iLt z1 (lLen x.1)) (bnd
 (idx x.1 z1) (fun z2=>(bnd (idx x.2 z1) (fun z3=>(bnd (Zdn ((z2.1,(z2.2.1,z2.2.2)),(z3.1,(z3.2.1,z3.2.2)))) (fun
 z4=>(cnd (bNot z4) (some (.inr false)) (some (.inl (iAdd .i64 z1 1)))))))))) (some (.inr true)))
def Zdo (x:((List (Int×(Int×Int)))×(List (Int×(Int×Int))))):(Option Bool):=(cnd (iNe (lLen x.1) (lLen x.2)) (some false) (loopX (Zfw
 x) 0))
def Zc (x:(((List ((List UInt8)×((Int×(List UInt8))×((Int×(List UInt8))×(Int×Bool)))))×(Int×(List (Int×(Int×Int)))))×((List ((List
 UInt8)×((Int×(List UInt8))×((Int×(List UInt8))×(Int×Bool)))))×(Int×(List (Int×(Int×Int))))))):(Option Bool):=(bnd (Zdm (x.1.1,x.2.1)) (fun z1=>(cnd (bNot z1) (some false) (cnd (iNe x.1.2.1 x.2.2.1) (some false) (bnd (Zdo (x.1.2.2,x.2.2.2)) (fun z2=>(cnd (bNot z2) (some false) (some
 true))))))))
def Zq (x:((Int×(((List UInt8)×((Int×(List UInt8))×((Int×(List UInt8))×(Int×Bool))))×((List UInt8)×(Int×(Int×(Int×Int))))))×(Int ×
 (((List UInt8)×((Int×(List UInt8))×((Int×(List UInt8))×(Int×Bool))))×((List UInt8)×(Int×(Int×(Int×Int)))))))):(Option Bool):=(cnd (iNe x.1.1 x.2.1)
 (some false) (bnd (Zbh ((x.1.2.1.1,((x.1.2.1.2.1.1,x.1.2.1.2.1.2),((x.1.2.1.2.2.1.1,x.1.2.1.2.2.1.2),(x.1.2.1.2.2.2.1,x.1.2.1.2.2.2.2)))),(x.2.2.1.1,
 ((x.2.2.1.2.1.1,x.2.2.1.2.1.2),((x.2.2.1.2.2.1.1,x.2.2.1.2.2.1.2),(x.2.2.1.2.2.2.1,x.2.2.1.2.2.2.2)))))) (fun z1=>(cnd (bNot z1) (some false) (cnd (bNot (sEq
 x.1.2.2.1 x.2.2.2.1)) (some false) (cnd (iNe x.1.2.2.2.1 x.2.2.2.2.1) (some false) (cnd (iNe x.1.2.2.2.2.1 x.2.2.2.2.2.1) (some false) (cnd (iNe x.1.2.2.2.2.2.1 x.2.2.2.2.2.2.1)
 (some false) (cnd (iNe x.1.2.2.2.2.2.2 x.2.2.2.2.2.2.2) (some false) (some true))))))))))
def Zek:(Int×(List UInt8))->Option ((Int×(List UInt8)) ⊕ ((List UInt8) ⊕ (List UInt8))):=fun (z1:(Int×(List UInt8)))=>(cnd (iGt z1.1 0) (chk
 (small [(u8 (iConv .u8 (iAdd .i64 48 (iRem z1.1 10))))] z1.2) (some (.inl ((iQuo .i64 z1.1 10),(lApp [(u8 (iConv .u8 (iAdd .i64 48 (iRem z1.1 10))))] z1.2))))) (some (.inr (.inl
 z1.2))))
def Zcl (x:Int):(Option (List UInt8)):=(cnd (iLe x 0) (some [109,48]) (joinX (loopX (Zek) (x,[])) (fun (z1:(List UInt8))=>(chk (small
 [109] z1) (some (lApp [109] z1))))))
def Zel:((List UInt8)×(Int×Int))->Option (((List UInt8)×(Int×Int)) ⊕ (((List UInt8)×Int) ⊕ (Int×(List UInt8)))):=fun (z1:((List UInt8)
 × (Int×Int)))=>(cnd (iLt z1.2.2 (lLen z1.1)) (bnd (idx z1.1 z1.2.2) (fun z2=>(some (.inl ((lSet z1.1 (nOf z1.2.2) (u8 (iConv .u8 z1.2.1))),((iAdd .i64 z1.2.1 1),
 (iAdd .i64 z1.2.2 1))))))) (some (.inr (.inl (z1.1,z1.2.1)))))
def Zbi (x:((List UInt8)×Int)):(Option (Int×(List UInt8))):=(joinX (loopX (Zel) (x.1,(x.2,0))) (fun (z1:((List UInt8)×Int)) =>
 (chk (nEq z1.1.length x.1.length) (some (z1.2,z1.1)))))
def Zdp:((List ((List UInt8)×((Int×(List UInt8))×((Int×(List UInt8))×(Int×Bool)))))×(Int×Int))->Option (((List ((List UInt8)×((Int ×
 (List UInt8))×((Int×(List UInt8))×(Int×Bool)))))×(Int×Int)) ⊕ (((List ((List UInt8)×((Int×(List UInt8))×((Int×(List UInt8))×(Int×Bool)))))×Int) ⊕ (Int ×
 (List ((List UInt8)×((Int×(List UInt8))×((Int×(List UInt8))×(Int×Bool)))))))):=fun (z1:((List ((List UInt8)×((Int×(List UInt8))×((Int×(List UInt8))×(Int
 × Bool)))))×(Int×Int)))=>(cnd (iLt z1.2.2 (lLen z1.1)) (bnd (Zcl z1.2.1) (fun z2=>(bnd (idx z1.1 z1.2.2) (fun z3=>(bnd (idx (lSet z1.1 (nOf z1.2.2) (z2,((z3.2.1.1,z3.2.1.2),((z3.2.2.1.1,z3.2.2.1.2),(z3.2.2.2.1,z3.2.2.2.2)))))
 z1.2.2) (fun z4=>(bnd (idx (lSet (lSet z1.1 (nOf z1.2.2) (z2,((z3.2.1.1,z3.2.1.2),
 ((z3.2.2.1.1,z3.2.2.1.2),(z3.2.2.2.1,z3.2.2.2.2))))) (nOf z1.2.2) (z4.1,(((iAdd .i64 z1.2.1 1),z4.2.1.2),((z4.2.2.1.1,z4.2.2.1.2),(z4.2.2.2.1,z4.2.2.2.2))))) z1.2.2)
 (fun z5=>(bnd (idx (lSet (lSet z1.1 (nOf z1.2.2) (z2,((z3.2.1.1,z3.2.1.2),((z3.2.2.1.1,
 z3.2.2.1.2),(z3.2.2.2.1,z3.2.2.2.2))))) (nOf z1.2.2) (z4.1,(((iAdd .i64 z1.2.1 1),z4.2.1.2),((z4.2.2.1.1,z4.2.2.1.2),(z4.2.2.2.1,z4.2.2.2.2))))) (Int.ofNat (nOf z1.2.2)))
 (fun z6=>(chk (nEq z6.2.1.2.length z5.2.1.2.length) (bnd (Zbi (z5.2.1.2,(iAdd
 .i64 (iAdd .i64 z1.2.1 1) 1))) (fun z7=>(chk (nEq z7.2.length z5.2.1.2.length) (bnd (idx (lSet (lSet z1.1 (nOf z1.2.2) (z2,((z3.2.1.1,z3.2.1.2),
 ((z3.2.2.1.1,z3.2.2.1.2),(z3.2.2.2.1,z3.2.2.2.2))))) (nOf z1.2.2) (z4.1,(((iAdd .i64 z1.2.1 1),z4.2.1.2),((z4.2.2.1.1,z4.2.2.1.2),(z4.2.2.2.1,z4.2.2.2.2))))) (Int.ofNat
 (nOf z1.2.2))) (fun z8=>(bnd (idx (lSet (lSet (lSet z1.1 (nOf z1.2.2) (z2,((z3.2.1.1,
 z3.2.1.2),((z3.2.2.1.1,z3.2.2.1.2),(z3.2.2.2.1,z3.2.2.2.2))))) (nOf z1.2.2) (z4.1,(((iAdd .i64 z1.2.1 1),z4.2.1.2),((z4.2.2.1.1,z4.2.2.1.2),(z4.2.2.2.1,z4.2.2.2.2)))))
 (nOf z1.2.2) (z8.1,((z8.2.1.1,z7.2),z8.2.2))) z1.2.2) (fun z9=>(bnd (idx (lSet (lSet
 (lSet (lSet z1.1 (nOf z1.2.2) (z2,((z3.2.1.1,z3.2.1.2),((z3.2.2.1.1,z3.2.2.1.2),(z3.2.2.2.1,z3.2.2.2.2))))) (nOf z1.2.2) (z4.1,(((iAdd .i64 z1.2.1 1),z4.2.1.2),
 ((z4.2.2.1.1,z4.2.2.1.2),(z4.2.2.2.1,z4.2.2.2.2))))) (nOf z1.2.2) (z8.1,((z8.2.1.1,z7.2),z8.2.2))) (nOf z1.2.2) (z9.1,((z9.2.1.1,z9.2.1.2),((z7.1,z9.2.2.1.2),
 (z9.2.2.2.1,z9.2.2.2.2))))) z1.2.2) (fun z10=>(bnd (idx (lSet (lSet (lSet (lSet z1.1 (nOf
 z1.2.2) (z2,((z3.2.1.1,z3.2.1.2),((z3.2.2.1.1,z3.2.2.1.2),(z3.2.2.2.1,z3.2.2.2.2))))) (nOf z1.2.2) (z4.1,(((iAdd .i64 z1.2.1 1),z4.2.1.2),((z4.2.2.1.1,z4.2.2.1.2),
 (z4.2.2.2.1,z4.2.2.2.2))))) (nOf z1.2.2) (z8.1,((z8.2.1.1,z7.2),z8.2.2))) (nOf z1.2.2) (z9.1,((z9.2.1.1,z9.2.1.2),((z7.1,z9.2.2.1.2),(z9.2.2.2.1,z9.2.2.2.2)))))
 (Int.ofNat (nOf z1.2.2))) (fun z11=>(chk (nEq z11.2.2.1.2.length z10.2.2.1.2.length) (bnd
 (Zbi (z10.2.2.1.2,(iAdd .i64 z7.1 1))) (fun z12=>(chk (nEq z12.2.length z10.2.2.1.2.length) (bnd (idx (lSet (lSet (lSet (lSet z1.1 (nOf
 z1.2.2) (z2,((z3.2.1.1,z3.2.1.2),((z3.2.2.1.1,z3.2.2.1.2),(z3.2.2.2.1,z3.2.2.2.2))))) (nOf z1.2.2) (z4.1,(((iAdd .i64 z1.2.1 1),z4.2.1.2),((z4.2.2.1.1,z4.2.2.1.2),
 (z4.2.2.2.1,z4.2.2.2.2))))) (nOf z1.2.2) (z8.1,((z8.2.1.1,z7.2),z8.2.2))) (nOf z1.2.2) (z9.1,((z9.2.1.1,z9.2.1.2),((z7.1,z9.2.2.1.2),(z9.2.2.2.1,z9.2.2.2.2)))))
 (Int.ofNat (nOf z1.2.2))) (fun z13=>(bnd (idx (lSet (lSet (lSet (lSet (lSet z1.1 (nOf
 z1.2.2) (z2,((z3.2.1.1,z3.2.1.2),((z3.2.2.1.1,z3.2.2.1.2),(z3.2.2.2.1,z3.2.2.2.2))))) (nOf z1.2.2) (z4.1,(((iAdd .i64 z1.2.1 1),z4.2.1.2),((z4.2.2.1.1,z4.2.2.1.2),
 (z4.2.2.2.1,z4.2.2.2.2))))) (nOf z1.2.2) (z8.1,((z8.2.1.1,z7.2),z8.2.2))) (nOf z1.2.2) (z9.1,((z9.2.1.1,z9.2.1.2),((z7.1,z9.2.2.1.2),(z9.2.2.2.1,z9.2.2.2.2))))) (nOf
 z1.2.2) (z13.1,(z13.2.1,((z13.2.2.1.1,z12.2),z13.2.2.2)))) z1.2.2) (fun z14=>(bnd (idx
 (lSet (lSet (lSet (lSet (lSet (lSet z1.1 (nOf z1.2.2) (z2,((z3.2.1.1,z3.2.1.2),((z3.2.2.1.1,z3.2.2.1.2),(z3.2.2.2.1,z3.2.2.2.2))))) (nOf z1.2.2) (z4.1,(((iAdd .i64 z1.2.1
 1),z4.2.1.2),((z4.2.2.1.1,z4.2.2.1.2),(z4.2.2.2.1,z4.2.2.2.2))))) (nOf z1.2.2) (z8.1,((z8.2.1.1,z7.2),z8.2.2))) (nOf z1.2.2) (z9.1,((z9.2.1.1,z9.2.1.2),((z7.1,
 z9.2.2.1.2),(z9.2.2.2.1,z9.2.2.2.2))))) (nOf z1.2.2) (z13.1,(z13.2.1,((z13.2.2.1.1,z12.2),z13.2.2.2)))) (nOf z1.2.2) (z14.1,((z14.2.1.1,z14.2.1.2),((z14.2.2.1.1,
 z14.2.2.1.2),(z12.1,z14.2.2.2.2))))) z1.2.2) (fun z15=>(some (.inl ((lSet (lSet (lSet
 (lSet (lSet (lSet (lSet z1.1 (nOf z1.2.2) (z2,((z3.2.1.1,z3.2.1.2),((z3.2.2.1.1,z3.2.2.1.2),(z3.2.2.2.1,z3.2.2.2.2))))) (nOf z1.2.2) (z4.1,(((iAdd .i64 z1.2.1 1),
 z4.2.1.2),((z4.2.2.1.1,z4.2.2.1.2),(z4.2.2.2.1,z4.2.2.2.2))))) (nOf z1.2.2) (z8.1,((z8.2.1.1,z7.2),z8.2.2))) (nOf z1.2.2) (z9.1,((z9.2.1.1,z9.2.1.2),((z7.1,
 z9.2.2.1.2),(z9.2.2.2.1,z9.2.2.2.2))))) (nOf z1.2.2) (z13.1,(z13.2.1,((z13.2.2.1.1,z12.2),z13.2.2.2)))) (nOf z1.2.2) (z14.1,((z14.2.1.1,z14.2.1.2),((z14.2.2.1.1,
 z14.2.2.1.2),(z12.1,z14.2.2.2.2))))) (nOf z1.2.2) (z15.1,((z15.2.1.1,z15.2.1.2),((z15.2.2.1.1,z15.2.2.1.2),(z15.2.2.2.1,(iEq (iRem (iAdd .i64 z12.1 1) 3) 0)))))),((iAdd
 .i64 (iAdd .i64 z12.1 1) 1),(iAdd .i64 z1.2.2 1))))))))))))))))))))))))))))))))))))) (some (.inr (.inl (z1.1,z1.2.1)))))
def Zdq (x:((List ((List UInt8)×((Int×(List UInt8))×((Int×(List UInt8))×(Int×Bool)))))×Int)):(Option (Int×(List ((List UInt8)×((Int ×
 (List UInt8))×((Int×(List UInt8))×(Int×Bool))))))):=(joinX (loopX (Zdp) (x.1,(x.2,0))) (fun (z1:((List ((List UInt8)×((Int×(List UInt8))×((Int ×
 (List UInt8))×(Int×Bool)))))×Int))=>(chk (nEq z1.1.length x.1.length) (some (z1.2,z1.1)))))
def Zdr:((List (Int×(Int×Int)))×(Int×Int))->Option (((List (Int×(Int×Int)))×(Int×Int)) ⊕ (((List (Int×(Int×Int)))×Int) ⊕ (Int ×
 (List (Int×(Int×Int)))))):=fun (z1:((List (Int×(Int×Int)))×(Int×Int)))=>(cnd (iLt z1.2.2 (lLen z1.1)) (bnd (idx z1.1 z1.2.2) (fun z2 =>
 (bnd (idx (lSet z1.1 (nOf z1.2.2) (z1.2.1,(z2.2.1,z2.2.2))) z1.2.2) (fun z3=>(bnd (idx (lSet (lSet z1.1 (nOf z1.2.2) (z1.2.1,(z2.2.1,z2.2.2))) (nOf
 z1.2.2) (z3.1,((iAdd .i64 z1.2.1 1),z3.2.2))) z1.2.2) (fun z4=>(some (.inl ((lSet (lSet (lSet z1.1 (nOf z1.2.2) (z1.2.1,(z2.2.1,z2.2.2))) (nOf
 z1.2.2) (z3.1,((iAdd .i64 z1.2.1 1),z3.2.2))) (nOf z1.2.2) (z4.1,(z4.2.1,(iAdd .i64 (iAdd .i64 z1.2.1 1) 1)))),((iAdd .i64 (iAdd .i64 (iAdd .i64 z1.2.1 1) 1) 1),(iAdd .i64
 z1.2.2 1))))))))))) (some (.inr (.inl (z1.1,z1.2.1)))))
def Zds (x:((List (Int×(Int×Int)))×Int)):(Option (Int×(List (Int×(Int×Int))))):=(joinX (loopX (Zdr) (x.1,(x.2,0))) (fun (z1
 : ((List (Int×(Int×Int)))×Int))=>(chk (nEq z1.1.length x.1.length) (some (z1.2,z1.1)))))
def Zk (x:(((List ((List UInt8)×((Int×(List UInt8))×((Int×(List UInt8))×(Int×Bool)))))×(Int×(List (Int×(Int×Int)))))×Int)):(Option
 (Int×((List ((List UInt8)×((Int×(List UInt8))×((Int×(List UInt8))×(Int×Bool)))))×(List (Int×(Int×Int)))))):=(bnd (Zdq (x.1.1,x.2)) (fun z1=>(chk (nEq z1.2.length x.1.1.length) (bnd (Zds (x.1.2.2,z1.1)) (fun z2=>(chk (nEq z2.2.length x.1.2.2.length) (chk (nEq z1.2.length x.1.1.length) (chk (nEq z2.2.length x.1.2.2.length) (some (z2.1,(z1.2,
 z2.2)))))))))))
def Zbj (x:((Int×(List UInt8))×Int)):(Option (Int×(List UInt8))):=(bnd (Zbi (x.1.2,x.2)) (fun z1=>(chk (nEq
 z1.2.length x.1.2.length) (chk (nEq z1.2.length x.1.2.length) (some (z1.1,z1.2))))))
def Zcm (x:(((List UInt8)×((Int×(List UInt8))×((Int×(List UInt8))×(Int×Bool))))×Int)):(Option (Int×((List UInt8)×(List UInt8)))):=(bnd
 (Zbj ((x.1.2.1.1,x.1.2.1.2),x.2)) (fun z1=>(chk (nEq z1.2.length x.1.2.1.2.length) (bnd (Zbj ((x.1.2.2.1.1,x.1.2.2.1.2),z1.1))
 (fun z2=>(chk (nEq z2.2.length x.1.2.2.1.2.length) (chk (nEq z1.2.length x.1.2.1.2.length) (chk (nEq z2.2.length x.1.2.2.1.2.length) (some (z2.1,
 (z1.2,z2.2)))))))))))
def Zr (x:((Int×(((List UInt8)×((Int×(List UInt8))×((Int×(List UInt8))×(Int×Bool))))×((List UInt8)×(Int×(Int×(Int×Int))))))×Int))
 : (Option (Int×((List UInt8)×(List UInt8)))):=(bnd (Zcm ((x.1.2.1.1,((x.1.2.1.2.1.1,x.1.2.1.2.1.2),((x.1.2.1.2.2.1.1,x.1.2.1.2.2.1.2),(x.1.2.1.2.2.2.1,
 x.1.2.1.2.2.2.2)))),x.2)) (fun z1=>(chk (nEq z1.2.1.length x.1.2.1.2.1.2.length) (chk (nEq z1.2.2.length x.1.2.1.2.2.1.2.length) (chk
 (nEq z1.2.1.length x.1.2.1.2.1.2.length) (chk (nEq z1.2.2.length x.1.2.1.2.2.1.2.length) (some (z1.1,(z1.2.1,z1.2.2)))))))))
def Zfc (x:((List UInt8)×Int)):(Int×Int)->Option ((Int×Int) ⊕ (Int ⊕ Int)):=fun (z1:(Int×Int))=>(cnd (iLt z1.2 (lLen x.1)) (bnd (idx
 x.1 z1.2) (fun z2=>(cnd (iNe (y2i z2) (y2i (u8 (iConv .u8 z1.1)))) (some (.inr (.inr (-1)))) (some (.inl ((iAdd .i64 z1.1 1),(iAdd .i64 z1.2 1))))))) (some (.inr
 (.inl z1.1))))
def Zbu (x:((List UInt8)×Int)):(Option Int):=(joinX (loopX (Zfc x) (x.2,0)) (fun (z1:Int)=>(some z1)))
def Zem (x:((List ((List UInt8)×((Int×(List UInt8))×((Int×(List UInt8))×(Int×Bool)))))×Int)):(Int×Int)->Option ((Int×Int) ⊕ (Int ⊕
 Int)):=fun (z1:(Int×Int))=>(cnd (iLt z1.2 (lLen x.1)) (bnd (idx x.1 z1.2) (fun z2 =>
 (bnd (Zcl z1.1) (fun z3=>(cnd (bNot (sEq z2.1 z3)) (some (.inr (.inr (-1)))) (bnd (idx x.1 z1.2) (fun z4=>(cnd (iNe z4.2.1.1 (iAdd .i64 z1.1 1)) (some (.inr (.inr (-1)))) (bnd (idx x.1 z1.2) (fun z5=>(bnd (Zbu (z5.2.1.2,(iAdd .i64 (iAdd .i64 z1.1 1) 1))) (fun z6=>(cnd (iLt z6 0) (some (.inr (.inr (-1)))) (bnd
 (idx x.1 z1.2) (fun z7=>(cnd (iNe z7.2.2.1.1 z6) (some (.inr (.inr (-1)))) (bnd (idx x.1
 z1.2) (fun z8=>(bnd (Zbu (z8.2.2.1.2,(iAdd .i64 z6 1))) (fun z9=>(cnd
 (iLt z9 0) (some (.inr (.inr (-1)))) (bnd (idx x.1 z1.2) (fun z10=>(cnd (iNe z10.2.2.2.1 z9)
 (some (.inr (.inr (-1)))) (bnd (idx x.1 z1.2) (fun z11=>(cnd (bNe z11.2.2.2.2 (iEq (iRem
 (iAdd .i64 z9 1) 3) 0)) (some (.inr (.inr (-1)))) (some (.inl ((iAdd .i64 (iAdd .i64 z9 1) 1),(iAdd .i64 z1.2 1))))))))))))))))))))))))))))))) (some (.inr (.inl z1.1))))
def Zdt (x:((List ((List UInt8)×((Int×(List UInt8))×((Int×(List UInt8))×(Int×Bool)))))×Int)):(Option Int):=(joinX (loopX (Zem
 x) (x.2,0)) (fun (z1:Int)=>(some z1)))
def Zen (x:((List (Int×(Int×Int)))×Int)):(Int×Int)->Option ((Int×Int) ⊕ (Int ⊕ Int)):=fun (z1:(Int×Int))=>(cnd (iLt z1.2 (lLen
 x.1)) (bnd (idx x.1 z1.2) (fun z2=>(cnd (iNe z2.1 z1.1) (some (.inr (.inr (-1)))) (bnd (idx x.1 z1.2) (fun z3=>(cnd (iNe
 z3.2.1 (iAdd .i64 z1.1 1)) (some (.inr (.inr (-1)))) (bnd (idx x.1 z1.2) (fun z4=>(cnd (iNe z4.2.2 (iAdd .i64 (iAdd .i64 z1.1 1) 1)) (some (.inr (.inr
 (-1)))) (some (.inl ((iAdd .i64 (iAdd .i64 (iAdd .i64 z1.1 1) 1) 1),(iAdd .i64 z1.2 1))))))))))))) (some (.inr (.inl z1.1))))
def Zdu (x:((List (Int×(Int×Int)))×Int)):(Option Int):=(joinX (loopX (Zen x) (x.2,0)) (fun (z1:Int)=>(some z1)))
def Zf (x:(((List ((List UInt8)×((Int×(List UInt8))×((Int×(List UInt8))×(Int×Bool)))))×(Int×(List (Int×(Int×Int)))))×Int)):(Option
 Int):=(bnd (Zdt (x.1.1,x.2)) (fun z1=>(cnd (iLt z1 0) (some (-1)) (bnd (Zdu (x.1.2.2,z1)) (fun z2=>(cnd (iLt z2 0) (some (-1)) (some
 z2)))))))
def Zeo (x:(((List ((List UInt8)×((Int×(List UInt8))×((Int×(List UInt8))×(Int×Bool)))))×(Int×(List (Int×(Int×Int)))))×(Int ×
 (((List UInt8)×((Int×(List UInt8))×((Int×(List UInt8))×(Int×Bool))))×((List UInt8)×(Int×(Int×(Int×Int)))))))):(Option Bool):=(bnd (Zbv ((x.1.1,
 (x.1.2.1,x.1.2.2)),1048576)) (fun z1=>(cnd (iLt z1 0) (some true) (bnd (Zbw ((x.2.1,((x.2.2.1.1,((x.2.2.1.2.1.1,x.2.2.1.2.1.2),((x.2.2.1.2.2.1.1,
 x.2.2.1.2.2.1.2),(x.2.2.1.2.2.2.1,x.2.2.1.2.2.2.2)))),(x.2.2.2.1,(x.2.2.2.2.1,(x.2.2.2.2.2.1,(x.2.2.2.2.2.2.1,x.2.2.2.2.2.2.2)))))),z1)) (fun z2=>(cnd (iLt z2
 0) (some true) (alt2 (bnd (Za (x.1.1,(x.1.2.1,x.1.2.2))) (fun z3=>(bnd (Zb (x.2.1,((x.2.2.1.1,((x.2.2.1.2.1.1,x.2.2.1.2.1.2),((x.2.2.1.2.2.1.1,x.2.2.1.2.2.1.2),(x.2.2.1.2.2.2.1,x.2.2.1.2.2.2.2)))),
 (x.2.2.2.1,(x.2.2.2.2.1,(x.2.2.2.2.2.1,(x.2.2.2.2.2.2.1,x.2.2.2.2.2.2.2))))))) (fun z4=>(bnd (Zo ((z3.1,(z3.2.1,z3.2.2)),(z4.1,((z4.2.1.1,((z4.2.1.2.1.1,z4.2.1.2.1.2),((z4.2.1.2.2.1.1,
 z4.2.1.2.2.1.2),(z4.2.1.2.2.2.1,z4.2.1.2.2.2.2)))),(z4.2.2.1,(z4.2.2.2.1,(z4.2.2.2.2.1,(z4.2.2.2.2.2.1,z4.2.2.2.2.2.2)))))))) (fun z5=>(bnd (Za (x.1.1,(x.1.2.1,x.1.2.2))) (fun z6=>(bnd (Zb (x.2.1,((x.2.2.1.1,((x.2.2.1.2.1.1,
 x.2.2.1.2.1.2),((x.2.2.1.2.2.1.1,x.2.2.1.2.2.1.2),(x.2.2.1.2.2.2.1,x.2.2.1.2.2.2.2)))),(x.2.2.2.1,(x.2.2.2.2.1,(x.2.2.2.2.2.1,(x.2.2.2.2.2.2.1,x.2.2.2.2.2.2.2)))))))
 (fun z7=>(bnd (Ze ((z6.1,
 (z6.2.1,z6.2.2)),(z7.1,((z7.2.1.1,((z7.2.1.2.1.1,z7.2.1.2.1.2),((z7.2.1.2.2.1.1,z7.2.1.2.2.1.2),(z7.2.1.2.2.2.1,z7.2.1.2.2.2.2)))),(z7.2.2.1,(z7.2.2.2.1,
 (z7.2.2.2.2.1,(z7.2.2.2.2.2.1,z7.2.2.2.2.2.2)))))))) (fun z8=>(bnd (Zc ((z8.1.1,(z8.1.2.1,z8.1.2.2)),(z5.1.1,(z5.1.2.1,z5.1.2.2)))) (fun z9=>(cnd (bNot z9) (some false) (cnd (bNe z8.2 z5.2)
 (some false) (bnd (Za (x.1.1,(x.1.2.1,x.1.2.2))) (fun z10=>(bnd (Zc ((z6.1,(z6.2.1,z6.2.2)),(z10.1,(z10.2.1,z10.2.2)))) (fun z11=>(cnd (bNot z11) (some false) (bnd (Zb (x.2.1,
 ((x.2.2.1.1,((x.2.2.1.2.1.1,x.2.2.1.2.1.2),((x.2.2.1.2.2.1.1,x.2.2.1.2.2.1.2),(x.2.2.1.2.2.2.1,x.2.2.1.2.2.2.2)))),(x.2.2.2.1,(x.2.2.2.2.1,(x.2.2.2.2.2.1,
 (x.2.2.2.2.2.2.1,x.2.2.2.2.2.2.2))))))) (fun z12=>(bnd (Zq ((z7.1,((z7.2.1.1,((z7.2.1.2.1.1,z7.2.1.2.1.2),((z7.2.1.2.2.1.1,z7.2.1.2.2.1.2),(z7.2.1.2.2.2.1,z7.2.1.2.2.2.2)))),(z7.2.2.1,(z7.2.2.2.1,
 (z7.2.2.2.2.1,(z7.2.2.2.2.2.1,z7.2.2.2.2.2.2)))))),(z12.1,((z12.2.1.1,((z12.2.1.2.1.1,z12.2.1.2.1.2),((z12.2.1.2.2.1.1,z12.2.1.2.2.1.2),(z12.2.1.2.2.2.1,
 z12.2.1.2.2.2.2)))),(z12.2.2.1,(z12.2.2.2.1,(z12.2.2.2.2.1,(z12.2.2.2.2.2.1,z12.2.2.2.2.2.2)))))))) (fun z13=>(cnd (bNot z13) (some false) (bnd (Zk
 ((z6.1,(z6.2.1,z6.2.2)),1)) (fun z14=>(chk
 (nEq z14.2.1.length z6.1.length) (chk (nEq z14.2.2.length z6.2.2.length) (bnd (Zr ((z7.1,((z7.2.1.1,((z7.2.1.2.1.1,z7.2.1.2.1.2),((z7.2.1.2.2.1.1,z7.2.1.2.2.1.2),
 (z7.2.1.2.2.2.1,z7.2.1.2.2.2.2)))),(z7.2.2.1,(z7.2.2.2.1,(z7.2.2.2.2.1,(z7.2.2.2.2.2.1,z7.2.2.2.2.2.2)))))),z14.1)) (fun z15 =>
 (chk (nEq z15.2.1.length z7.2.1.2.1.2.length) (chk (nEq z15.2.2.length z7.2.1.2.2.1.2.length) (cnd (iLt z15.1 0) (some false) (bnd (Zc ((z8.1.1,(z8.1.2.1,z8.1.2.2)),
 (z5.1.1,(z5.1.2.1,z5.1.2.2)))) (fun z16=>(cnd (bNot z16) (some false) (cnd (bNe z8.2 z5.2) (some false) (bnd (Zk ((z8.1.1,(z8.1.2.1,z8.1.2.2)),1)) (fun
 z17=>(chk (nEq z17.2.1.length z8.1.1.length)
 (chk (nEq z17.2.2.length z8.1.2.2.length) (bnd (Zf ((z17.2.1,(z8.1.2.1,z17.2.2)),1)) (fun z18=>(cnd (iLt z18 0) (some false) (cnd (iNe z18 z17.1) (some
 false) (alt2 (bnd (Za (x.1.1,(x.1.2.1,x.1.2.2))) (fun z19=>(bnd (Zb (x.2.1,((x.2.2.1.1,((x.2.2.1.2.1.1,x.2.2.1.2.1.2),((x.2.2.1.2.2.1.1,x.2.2.1.2.2.1.2),(x.2.2.1.2.2.2.1,x.2.2.1.2.2.2.2)))),
 (x.2.2.2.1,(x.2.2.2.2.1,(x.2.2.2.2.2.1,(x.2.2.2.2.2.2.1,x.2.2.2.2.2.2.2))))))) (fun z20=>(bnd (Ze ((z19.1,(z19.2.1,z19.2.2)),(z20.1,((z20.2.1.1,((z20.2.1.2.1.1,z20.2.1.2.1.2),
 ((z20.2.1.2.2.1.1,z20.2.1.2.2.1.2),(z20.2.1.2.2.2.1,z20.2.1.2.2.2.2)))),(z20.2.2.1,(z20.2.2.2.1,(z20.2.2.2.2.1,(z20.2.2.2.2.2.1,z20.2.2.2.2.2.2)))))))) (fun z21=>(bnd (Zc ((z21.1.1,(z21.1.2.1,
 z21.1.2.2)),(z5.1.1,(z5.1.2.1,z5.1.2.2)))) (fun z22=>(cnd (bNot z22) (some false) (cnd (bNe z21.2 z5.2) (some false) (bnd (Zf ((z17.2.1,(z8.1.2.1,
 z17.2.2)),1)) (fun z23=>(cnd (iLt z23 0) (some false) (cnd (iNe z23 z17.1) (some false) (some true))))))))))))))) (alt2 (bnd (Za (x.1.1,(x.1.2.1,x.1.2.2)))
 (fun z19=>(bnd (Zb (x.2.1,((x.2.2.1.1,
 ((x.2.2.1.2.1.1,x.2.2.1.2.1.2),((x.2.2.1.2.2.1.1,x.2.2.1.2.2.1.2),(x.2.2.1.2.2.2.1,x.2.2.1.2.2.2.2)))),(x.2.2.2.1,(x.2.2.2.2.1,(x.2.2.2.2.2.1,(x.2.2.2.2.2.2.1,
 x.2.2.2.2.2.2.2))))))) (fun z20 =>
 (bnd (Ze ((z19.1,(z19.2.1,z19.2.2)),(z20.1,((z20.2.1.1,((z20.2.1.2.1.1,z20.2.1.2.1.2),((z20.2.1.2.2.1.1,z20.2.1.2.2.1.2),(z20.2.1.2.2.2.1,z20.2.1.2.2.2.2)))),
 (z20.2.2.1,(z20.2.2.2.1,(z20.2.2.2.2.1,(z20.2.2.2.2.2.1,z20.2.2.2.2.2.2)))))))) (fun z21=>(bnd (Zc ((z21.1.1,(z21.1.2.1,z21.1.2.2)),(z5.1.1,(z5.1.2.1,z5.1.2.2)))) (fun z22=>(cnd (bNot
 z22) (some false) (cnd (bNe z21.2 z5.2) (some false) (bnd (Zf ((z17.2.1,(z8.1.2.1,z17.2.2)),1)) (fun z23=>(cnd (iLt z23 0) (some false) (cnd (iNe z23 z17.1)
 (some false) (some true))))))))))))))) (alt2 (bnd (Za (x.1.1,(x.1.2.1,x.1.2.2))) (fun z19=>(bnd (Zb (x.2.1,((x.2.2.1.1,((x.2.2.1.2.1.1,x.2.2.1.2.1.2),((x.2.2.1.2.2.1.1,x.2.2.1.2.2.1.2),(x.2.2.1.2.2.2.1,
 x.2.2.1.2.2.2.2)))),(x.2.2.2.1,(x.2.2.2.2.1,(x.2.2.2.2.2.1,(x.2.2.2.2.2.2.1,x.2.2.2.2.2.2.2))))))) (fun z20=>(bnd (Ze ((z19.1,(z19.2.1,z19.2.2)),(z20.1,((z20.2.1.1,((z20.2.1.2.1.1,z20.2.1.2.1.2),
 ((z20.2.1.2.2.1.1,z20.2.1.2.2.1.2),(z20.2.1.2.2.2.1,z20.2.1.2.2.2.2)))),(z20.2.2.1,(z20.2.2.2.1,(z20.2.2.2.2.1,(z20.2.2.2.2.2.1,z20.2.2.2.2.2.2)))))))) (fun z21=>(bnd (Zc ((z21.1.1,(z21.1.2.1,
 z21.1.2.2)),(z5.1.1,(z5.1.2.1,z5.1.2.2)))) (fun z22=>(cnd (bNot z22) (some false) (cnd (bNe z21.2 z5.2) (some false) (bnd (Zf ((z17.2.1,(z8.1.2.1,
 z17.2.2)),1)) (fun z23=>(cnd (iLt z23 0) (some false) (cnd (iNe z23 z17.1) (some false) (some true))))))))))))))) (bnd (Za (x.1.1,(x.1.2.1,x.1.2.2))) (fun
 z19=>(bnd (Zb (x.2.1,((x.2.2.1.1,
 ((x.2.2.1.2.1.1,x.2.2.1.2.1.2),((x.2.2.1.2.2.1.1,x.2.2.1.2.2.1.2),(x.2.2.1.2.2.2.1,x.2.2.1.2.2.2.2)))),(x.2.2.2.1,(x.2.2.2.2.1,(x.2.2.2.2.2.1,(x.2.2.2.2.2.2.1,
 x.2.2.2.2.2.2.2))))))) (fun z20 =>
 (bnd (Ze ((z19.1,(z19.2.1,z19.2.2)),(z20.1,((z20.2.1.1,((z20.2.1.2.1.1,z20.2.1.2.1.2),((z20.2.1.2.2.1.1,z20.2.1.2.2.1.2),(z20.2.1.2.2.2.1,z20.2.1.2.2.2.2)))),
 (z20.2.2.1,(z20.2.2.2.1,(z20.2.2.2.2.1,(z20.2.2.2.2.2.1,z20.2.2.2.2.2.2)))))))) (fun z21=>(bnd (Zc ((z21.1.1,(z21.1.2.1,z21.1.2.2)),(z5.1.1,(z5.1.2.1,z5.1.2.2)))) (fun z22=>(cnd (bNot
 z22) (some false) (cnd (bNe z21.2 z5.2) (some false) (bnd (Zf ((z17.2.1,(z8.1.2.1,z17.2.2)),1)) (fun z23=>(cnd (iLt z23 0) (some false) (cnd (iNe z23 z17.1)
 (some false) (some true))))))))))))))))))))))))))))))))))))))))))))))))))))))))))))))))) (alt2 (bnd (Za (x.1.1,(x.1.2.1,x.1.2.2))) (fun z3=>(bnd (Zb (x.2.1,((x.2.2.1.1,((x.2.2.1.2.1.1,x.2.2.1.2.1.2),
 ((x.2.2.1.2.2.1.1,x.2.2.1.2.2.1.2),(x.2.2.1.2.2.2.1,x.2.2.1.2.2.2.2)))),(x.2.2.2.1,(x.2.2.2.2.1,(x.2.2.2.2.2.1,(x.2.2.2.2.2.2.1,x.2.2.2.2.2.2.2))))))) (fun z4=>(bnd (Zo ((z3.1,(z3.2.1,z3.2.2)),
 (z4.1,((z4.2.1.1,((z4.2.1.2.1.1,z4.2.1.2.1.2),((z4.2.1.2.2.1.1,z4.2.1.2.2.1.2),(z4.2.1.2.2.2.1,z4.2.1.2.2.2.2)))),(z4.2.2.1,(z4.2.2.2.1,(z4.2.2.2.2.1,(z4.2.2.2.2.2.1,
 z4.2.2.2.2.2.2)))))))) (fun z5=>(bnd
 (Za (x.1.1,(x.1.2.1,x.1.2.2))) (fun z6
 => (bnd (Zb (x.2.1,((x.2.2.1.1,((x.2.2.1.2.1.1,x.2.2.1.2.1.2),((x.2.2.1.2.2.1.1,x.2.2.1.2.2.1.2),(x.2.2.1.2.2.2.1,x.2.2.1.2.2.2.2)))),(x.2.2.2.1,(x.2.2.2.2.1,
 (x.2.2.2.2.2.1,(x.2.2.2.2.2.2.1,x.2.2.2.2.2.2.2))))))) (fun z7=>(bnd (Ze ((z6.1,(z6.2.1,z6.2.2)),(z7.1,((z7.2.1.1,((z7.2.1.2.1.1,z7.2.1.2.1.2),((z7.2.1.2.2.1.1,z7.2.1.2.2.1.2),(z7.2.1.2.2.2.1,
 z7.2.1.2.2.2.2)))),(z7.2.2.1,(z7.2.2.2.1,(z7.2.2.2.2.1,(z7.2.2.2.2.2.1,z7.2.2.2.2.2.2)))))))) (fun z8=>(bnd (Zc ((z8.1.1,(z8.1.2.1,z8.1.2.2)),(z5.1.1,(z5.1.2.1,z5.1.2.2)))) (fun z9 =>
 (cnd (bNot z9) (some false) (cnd (bNe z8.2 z5.2) (some false) (bnd (Za (x.1.1,(x.1.2.1,x.1.2.2))) (fun z10=>(bnd (Zc ((z6.1,(z6.2.1,z6.2.2)),(z10.1,(z10.2.1,z10.2.2)))) (fun z11=>(cnd
 (bNot z11) (some false) (bnd (Zb (x.2.1,((x.2.2.1.1,((x.2.2.1.2.1.1,x.2.2.1.2.1.2),((x.2.2.1.2.2.1.1,x.2.2.1.2.2.1.2),(x.2.2.1.2.2.2.1,x.2.2.1.2.2.2.2)))),
 (x.2.2.2.1,(x.2.2.2.2.1,(x.2.2.2.2.2.1,(x.2.2.2.2.2.2.1,x.2.2.2.2.2.2.2))))))) (fun z12=>(bnd (Zq ((z7.1,((z7.2.1.1,((z7.2.1.2.1.1,z7.2.1.2.1.2),((z7.2.1.2.2.1.1,z7.2.1.2.2.1.2),
 (z7.2.1.2.2.2.1,z7.2.1.2.2.2.2)))),(z7.2.2.1,(z7.2.2.2.1,(z7.2.2.2.2.1,(z7.2.2.2.2.2.1,z7.2.2.2.2.2.2)))))),(z12.1,((z12.2.1.1,((z12.2.1.2.1.1,z12.2.1.2.1.2),
 ((z12.2.1.2.2.1.1,z12.2.1.2.2.1.2),(z12.2.1.2.2.2.1,z12.2.1.2.2.2.2)))),(z12.2.2.1,(z12.2.2.2.1,(z12.2.2.2.2.1,(z12.2.2.2.2.2.1,z12.2.2.2.2.2.2)))))))) (fun z13
 => (cnd (bNot z13) (some false) (bnd (Zk ((z6.1,(z6.2.1,z6.2.2)),1)) (fun z14=>(chk (nEq z14.2.1.length z6.1.length) (chk (nEq z14.2.2.length z6.2.2.length) (bnd (Zr ((z7.1,((z7.2.1.1,((z7.2.1.2.1.1,
 z7.2.1.2.1.2),((z7.2.1.2.2.1.1,z7.2.1.2.2.1.2),(z7.2.1.2.2.2.1,z7.2.1.2.2.2.2)))),(z7.2.2.1,(z7.2.2.2.1,(z7.2.2.2.2.1,(z7.2.2.2.2.2.1,z7.2.2.2.2.2.2)))))),z14.1)) (fun
 z15=>(chk (nEq z15.2.1.length z7.2.1.2.1.2.length) (chk (nEq z15.2.2.length z7.2.1.2.2.1.2.length) (cnd (iLt z15.1 0) (some false)
 (bnd (Zc ((z8.1.1,(z8.1.2.1,z8.1.2.2)),(z5.1.1,(z5.1.2.1,z5.1.2.2)))) (fun z16=>(cnd (bNot z16) (some false) (cnd (bNe z8.2 z5.2) (some false) (bnd
 (Zk ((z8.1.1,(z8.1.2.1,z8.1.2.2)),1)) (fun z17=>(chk (nEq z17.2.1.length z8.1.1.length) (chk (nEq z17.2.2.length z8.1.2.2.length) (bnd (Zf ((z17.2.1,(z8.1.2.1,z17.2.2)),1)) (fun z18=>(cnd
 (iLt z18 0) (some false) (cnd (iNe z18 z17.1) (some false) (alt2 (bnd (Za (x.1.1,(x.1.2.1,x.1.2.2))) (fun z19=>(bnd (Zb (x.2.1,((x.2.2.1.1,((x.2.2.1.2.1.1,x.2.2.1.2.1.2),((x.2.2.1.2.2.1.1,
 x.2.2.1.2.2.1.2),(x.2.2.1.2.2.2.1,x.2.2.1.2.2.2.2)))),(x.2.2.2.1,(x.2.2.2.2.1,(x.2.2.2.2.2.1,(x.2.2.2.2.2.2.1,x.2.2.2.2.2.2.2))))))) (fun z20=>(bnd (Ze ((z19.1,(z19.2.1,z19.2.2)),(z20.1,
 ((z20.2.1.1,((z20.2.1.2.1.1,z20.2.1.2.1.2),((z20.2.1.2.2.1.1,z20.2.1.2.2.1.2),(z20.2.1.2.2.2.1,z20.2.1.2.2.2.2)))),(z20.2.2.1,(z20.2.2.2.1,(z20.2.2.2.2.1,
 (z20.2.2.2.2.2.1,z20.2.2.2.2.2.2)))))))) (fun z21=>(bnd (Zc ((z21.1.1,(z21.1.2.1,z21.1.2.2)),(z5.1.1,(z5.1.2.1,z5.1.2.2)))) (fun z22=>(cnd (bNot z22) (some false) (cnd (bNe z21.2 z5.2)
 (some false) (bnd (Zf ((z17.2.1,(z8.1.2.1,z17.2.2)),1)) (fun z23=>(cnd (iLt z23 0) (some false) (cnd (iNe z23 z17.1) (some false) (some true)))))))))))))))
 (alt2 (bnd (Za (x.1.1,(x.1.2.1,x.1.2.2))) (fun z19=>(bnd (Zb (x.2.1,((x.2.2.1.1,((x.2.2.1.2.1.1,x.2.2.1.2.1.2),((x.2.2.1.2.2.1.1,x.2.2.1.2.2.1.2),(x.2.2.1.2.2.2.1,x.2.2.1.2.2.2.2)))),(x.2.2.2.1,
 (x.2.2.2.2.1,(x.2.2.2.2.2.1,(x.2.2.2.2.2.2.1,x.2.2.2.2.2.2.2))))))) (fun z20=>(bnd (Ze ((z19.1,(z19.2.1,z19.2.2)),(z20.1,((z20.2.1.1,((z20.2.1.2.1.1,z20.2.1.2.1.2),((z20.2.1.2.2.1.1,
 z20.2.1.2.2.1.2),(z20.2.1.2.2.2.1,z20.2.1.2.2.2.2)))),(z20.2.2.1,(z20.2.2.2.1,(z20.2.2.2.2.1,(z20.2.2.2.2.2.1,z20.2.2.2.2.2.2)))))))) (fun z21=>(bnd (Zc ((z21.1.1,(z21.1.2.1,z21.1.2.2)),(z5.1.1,
 (z5.1.2.1,z5.1.2.2)))) (fun z22=>(cnd (bNot z22) (some false) (cnd (bNe z21.2 z5.2) (some false) (bnd (Zf ((z17.2.1,(z8.1.2.1,z17.2.2)),1)) (fun z23=>(cnd (iLt z23 0) (some false) (cnd (iNe z23 z17.1) (some false) (some true))))))))))))))) (alt2 (bnd (Za (x.1.1,(x.1.2.1,x.1.2.2))) (fun z19=>(bnd (Zb (x.2.1,((x.2.2.1.1,((x.2.2.1.2.1.1,
 x.2.2.1.2.1.2),((x.2.2.1.2.2.1.1,x.2.2.1.2.2.1.2),(x.2.2.1.2.2.2.1,x.2.2.1.2.2.2.2)))),(x.2.2.2.1,(x.2.2.2.2.1,(x.2.2.2.2.2.1,(x.2.2.2.2.2.2.1,x.2.2.2.2.2.2.2)))))))
 (fun z20=>(bnd (Ze ((z19.1,
 (z19.2.1,z19.2.2)),(z20.1,((z20.2.1.1,((z20.2.1.2.1.1,z20.2.1.2.1.2),((z20.2.1.2.2.1.1,z20.2.1.2.2.1.2),(z20.2.1.2.2.2.1,z20.2.1.2.2.2.2)))),(z20.2.2.1,(z20.2.2.2.1,
 (z20.2.2.2.2.1,(z20.2.2.2.2.2.1,z20.2.2.2.2.2.2)))))))) (fun z21=>(bnd (Zc ((z21.1.1,(z21.1.2.1,z21.1.2.2)),(z5.1.1,(z5.1.2.1,z5.1.2.2)))) (fun z22=>(cnd (bNot z22) (some false) (cnd (bNe
 z21.2 z5.2) (some false) (bnd (Zf ((z17.2.1,(z8.1.2.1,z17.2.2)),1)) (fun z23=>(cnd (iLt z23 0) (some false) (cnd (iNe z23 z17.1) (some false) (some
 true))))))))))))))) (bnd (Za (x.1.1,(x.1.2.1,x.1.2.2))) (fun z19=>(bnd (Zb (x.2.1,((x.2.2.1.1,((x.2.2.1.2.1.1,x.2.2.1.2.1.2),((x.2.2.1.2.2.1.1,x.2.2.1.2.2.1.2),(x.2.2.1.2.2.2.1,x.2.2.1.2.2.2.2)))),
 (x.2.2.2.1,(x.2.2.2.2.1,(x.2.2.2.2.2.1,(x.2.2.2.2.2.2.1,x.2.2.2.2.2.2.2))))))) (fun z20=>(bnd (Ze ((z19.1,(z19.2.1,z19.2.2)),(z20.1,((z20.2.1.1,((z20.2.1.2.1.1,z20.2.1.2.1.2),
 ((z20.2.1.2.2.1.1,z20.2.1.2.2.1.2),(z20.2.1.2.2.2.1,z20.2.1.2.2.2.2)))),(z20.2.2.1,(z20.2.2.2.1,(z20.2.2.2.2.1,(z20.2.2.2.2.2.1,z20.2.2.2.2.2.2)))))))) (fun z21=>(bnd (Zc ((z21.1.1,(z21.1.2.1,
 z21.1.2.2)),(z5.1.1,(z5.1.2.1,z5.1.2.2)))) (fun z22=>(cnd (bNot z22) (some false) (cnd (bNe z21.2 z5.2) (some false) (bnd (Zf ((z17.2.1,(z8.1.2.1,
 z17.2.2)),1)) (fun z23=>(cnd (iLt z23 0) (some false) (cnd (iNe z23 z17.1) (some false) (some true)))))))))))))))))))))))))))))))))))))))))))))))))))))))))))))))))
 (alt2 (bnd (Za (x.1.1,(x.1.2.1,x.1.2.2))) (fun z3=>(bnd (Zb (x.2.1,((x.2.2.1.1,((x.2.2.1.2.1.1,x.2.2.1.2.1.2),((x.2.2.1.2.2.1.1,x.2.2.1.2.2.1.2),(x.2.2.1.2.2.2.1,x.2.2.1.2.2.2.2)))),(x.2.2.2.1,
 (x.2.2.2.2.1,(x.2.2.2.2.2.1,(x.2.2.2.2.2.2.1,x.2.2.2.2.2.2.2))))))) (fun z4=>(bnd (Zo ((z3.1,(z3.2.1,z3.2.2)),(z4.1,((z4.2.1.1,((z4.2.1.2.1.1,z4.2.1.2.1.2),((z4.2.1.2.2.1.1,z4.2.1.2.2.1.2),
 (z4.2.1.2.2.2.1,z4.2.1.2.2.2.2)))),(z4.2.2.1,(z4.2.2.2.1,(z4.2.2.2.2.1,(z4.2.2.2.2.2.1,z4.2.2.2.2.2.2)))))))) (fun z5=>(bnd (Za (x.1.1,(x.1.2.1,x.1.2.2))) (fun z6=>(bnd (Zb (x.2.1,((x.2.2.1.1,((x.2.2.1.2.1.1,x.2.2.1.2.1.2),
 ((x.2.2.1.2.2.1.1,x.2.2.1.2.2.1.2),(x.2.2.1.2.2.2.1,x.2.2.1.2.2.2.2)))),(x.2.2.2.1,(x.2.2.2.2.1,(x.2.2.2.2.2.1,(x.2.2.2.2.2.2.1,x.2.2.2.2.2.2.2))))))) (fun z7=>(bnd (Ze ((z6.1,(z6.2.1,z6.2.2)),
 (z7.1,((z7.2.1.1,((z7.2.1.2.1.1,z7.2.1.2.1.2),((z7.2.1.2.2.1.1,z7.2.1.2.2.1.2),(z7.2.1.2.2.2.1,z7.2.1.2.2.2.2)))),(z7.2.2.1,(z7.2.2.2.1,(z7.2.2.2.2.1,(z7.2.2.2.2.2.1,
 z7.2.2.2.2.2.2)))))))) (fun z8=>(bnd
 (Zc ((z8.1.1,(z8.1.2.1,z8.1.2.2)),(z5.1.1,(z5.1.2.1,z5.1.2.2)))) (fun z9=>(cnd (bNot z9) (some false) (cnd (bNe z8.2 z5.2) (some false) (bnd (Za
 (x.1.1,(x.1.2.1,x.1.2.2))) (fun z10=>(bnd
 (Zc ((z6.1,(z6.2.1,z6.2.2)),(z10.1,(z10.2.1,z10.2.2)))) (fun z11=>(cnd (bNot z11) (some false) (bnd (Zb (x.2.1,((x.2.2.1.1,((x.2.2.1.2.1.1,
 x.2.2.1.2.1.2),((x.2.2.1.2.2.1.1,x.2.2.1.2.2.1.2),(x.2.2.1.2.2.2.1,x.2.2.1.2.2.2.2)))),(x.2.2.2.1,(x.2.2.2.2.1,(x.2.2.2.2.2.1,(x.2.2.2.2.2.2.1,x.2.2.2.2.2.2.2)))))))
 (fun z12=>(bnd (Zq ((z7.1,
 ((z7.2.1.1,((z7.2.1.2.1.1,z7.2.1.2.1.2),((z7.2.1.2.2.1.1,z7.2.1.2.2.1.2),(z7.2.1.2.2.2.1,z7.2.1.2.2.2.2)))),(z7.2.2.1,(z7.2.2.2.1,(z7.2.2.2.2.1,(z7.2.2.2.2.2.1,
 z7.2.2.2.2.2.2)))))),(z12.1,((z12.2.1.1,((z12.2.1.2.1.1,z12.2.1.2.1.2),((z12.2.1.2.2.1.1,z12.2.1.2.2.1.2),(z12.2.1.2.2.2.1,z12.2.1.2.2.2.2)))),(z12.2.2.1,(z12.2.2.2.1,
 (z12.2.2.2.2.1,(z12.2.2.2.2.2.1,z12.2.2.2.2.2.2)))))))) (fun z13=>(cnd (bNot z13) (some false) (bnd (Zk ((z6.1,(z6.2.1,z6.2.2)),1)) (fun z14=>(chk (nEq z14.2.1.length z6.1.length) (chk (nEq
 z14.2.2.length z6.2.2.length) (bnd (Zr ((z7.1,((z7.2.1.1,((z7.2.1.2.1.1,z7.2.1.2.1.2),((z7.2.1.2.2.1.1,z7.2.1.2.2.1.2),(z7.2.1.2.2.2.1,z7.2.1.2.2.2.2)))),
 (z7.2.2.1,(z7.2.2.2.1,(z7.2.2.2.2.1,(z7.2.2.2.2.2.1,z7.2.2.2.2.2.2)))))),z14.1)) (fun z15=>(chk (nEq z15.2.1.length
 z7.2.1.2.1.2.length) (chk (nEq z15.2.2.length z7.2.1.2.2.1.2.length) (cnd (iLt z15.1 0) (some false) (bnd (Zc ((z8.1.1,(z8.1.2.1,z8.1.2.2)),(z5.1.1,(z5.1.2.1,
 z5.1.2.2)))) (fun z16=>(cnd (bNot z16) (some false) (cnd (bNe z8.2 z5.2) (some false) (bnd (Zk ((z8.1.1,(z8.1.2.1,z8.1.2.2)),1)) (fun z17=>(chk (nEq z17.2.1.length z8.1.1.length) (chk (nEq
 z17.2.2.length z8.1.2.2.length) (bnd (Zf ((z17.2.1,(z8.1.2.1,z17.2.2)),1)) (fun z18=>(cnd (iLt z18 0) (some false) (cnd (iNe z18 z17.1) (some false) (alt2
 (bnd (Za (x.1.1,(x.1.2.1,x.1.2.2))) (fun z19=>(bnd (Zb (x.2.1,((x.2.2.1.1,((x.2.2.1.2.1.1,x.2.2.1.2.1.2),((x.2.2.1.2.2.1.1,x.2.2.1.2.2.1.2),(x.2.2.1.2.2.2.1,x.2.2.1.2.2.2.2)))),(x.2.2.2.1,
 (x.2.2.2.2.1,(x.2.2.2.2.2.1,(x.2.2.2.2.2.2.1,x.2.2.2.2.2.2.2))))))) (fun z20=>(bnd (Ze ((z19.1,(z19.2.1,z19.2.2)),(z20.1,((z20.2.1.1,((z20.2.1.2.1.1,z20.2.1.2.1.2),((z20.2.1.2.2.1.1,
 z20.2.1.2.2.1.2),(z20.2.1.2.2.2.1,z20.2.1.2.2.2.2)))),(z20.2.2.1,(z20.2.2.2.1,(z20.2.2.2.2.1,(z20.2.2.2.2.2.1,z20.2.2.2.2.2.2)))))))) (fun z21=>(bnd (Zc ((z21.1.1,(z21.1.2.1,z21.1.2.2)),(z5.1.1,
 (z5.1.2.1,z5.1.2.2)))) (fun z22=>(cnd (bNot z22) (some false) (cnd (bNe z21.2 z5.2) (some false) (bnd (Zf ((z17.2.1,(z8.1.2.1,z17.2.2)),1)) (fun z23=>(cnd (iLt z23 0) (some false) (cnd (iNe z23 z17.1) (some false) (some true))))))))))))))) (alt2 (bnd (Za (x.1.1,(x.1.2.1,x.1.2.2))) (fun z19=>(bnd (Zb (x.2.1,((x.2.2.1.1,((x.2.2.1.2.1.1,
 x.2.2.1.2.1.2),((x.2.2.1.2.2.1.1,x.2.2.1.2.2.1.2),(x.2.2.1.2.2.2.1,x.2.2.1.2.2.2.2)))),(x.2.2.2.1,(x.2.2.2.2.1,(x.2.2.2.2.2.1,(x.2.2.2.2.2.2.1,x.2.2.2.2.2.2.2)))))))
 (fun z20=>(bnd (Ze ((z19.1,
 (z19.2.1,z19.2.2)),(z20.1,((z20.2.1.1,((z20.2.1.2.1.1,z20.2.1.2.1.2),((z20.2.1.2.2.1.1,z20.2.1.2.2.1.2),(z20.2.1.2.2.2.1,z20.2.1.2.2.2.2)))),(z20.2.2.1,(z20.2.2.2.1,
 (z20.2.2.2.2.1,(z20.2.2.2.2.2.1,z20.2.2.2.2.2.2)))))))) (fun z21=>(bnd (Zc ((z21.1.1,(z21.1.2.1,z21.1.2.2)),(z5.1.1,(z5.1.2.1,z5.1.2.2)))) (fun z22=>(cnd (bNot z22) (some false) (cnd (bNe
 z21.2 z5.2) (some false) (bnd (Zf ((z17.2.1,(z8.1.2.1,z17.2.2)),1)) (fun z23=>(cnd (iLt z23 0) (some false) (cnd (iNe z23 z17.1) (some false) (some
 true))))))))))))))) (alt2 (bnd (Za (x.1.1,(x.1.2.1,x.1.2.2))) (fun z19=>(bnd (Zb (x.2.1,((x.2.2.1.1,((x.2.2.1.2.1.1,x.2.2.1.2.1.2),((x.2.2.1.2.2.1.1,x.2.2.1.2.2.1.2),(x.2.2.1.2.2.2.1,
 x.2.2.1.2.2.2.2)))),(x.2.2.2.1,(x.2.2.2.2.1,(x.2.2.2.2.2.1,(x.2.2.2.2.2.2.1,x.2.2.2.2.2.2.2))))))) (fun z20=>(bnd (Ze ((z19.1,(z19.2.1,z19.2.2)),(z20.1,((z20.2.1.1,((z20.2.1.2.1.1,z20.2.1.2.1.2),
 ((z20.2.1.2.2.1.1,z20.2.1.2.2.1.2),(z20.2.1.2.2.2.1,z20.2.1.2.2.2.2)))),(z20.2.2.1,(z20.2.2.2.1,(z20.2.2.2.2.1,(z20.2.2.2.2.2.1,z20.2.2.2.2.2.2)))))))) (fun z21=>(bnd (Zc ((z21.1.1,(z21.1.2.1,
 z21.1.2.2)),(z5.1.1,(z5.1.2.1,z5.1.2.2)))) (fun z22=>(cnd (bNot z22) (some false) (cnd (bNe z21.2 z5.2) (some false) (bnd (Zf ((z17.2.1,(z8.1.2.1,
 z17.2.2)),1)) (fun z23=>(cnd (iLt z23 0) (some false) (cnd (iNe z23 z17.1) (some false) (some true))))))))))))))) (bnd (Za (x.1.1,(x.1.2.1,x.1.2.2))) (fun
 z19=>(bnd (Zb (x.2.1,((x.2.2.1.1,
 ((x.2.2.1.2.1.1,x.2.2.1.2.1.2),((x.2.2.1.2.2.1.1,x.2.2.1.2.2.1.2),(x.2.2.1.2.2.2.1,x.2.2.1.2.2.2.2)))),(x.2.2.2.1,(x.2.2.2.2.1,(x.2.2.2.2.2.1,(x.2.2.2.2.2.2.1,
 x.2.2.2.2.2.2.2))))))) (fun z20 =>
 (bnd (Ze ((z19.1,(z19.2.1,z19.2.2)),(z20.1,((z20.2.1.1,((z20.2.1.2.1.1,z20.2.1.2.1.2),((z20.2.1.2.2.1.1,z20.2.1.2.2.1.2),(z20.2.1.2.2.2.1,z20.2.1.2.2.2.2)))),
 (z20.2.2.1,(z20.2.2.2.1,(z20.2.2.2.2.1,(z20.2.2.2.2.2.1,z20.2.2.2.2.2.2)))))))) (fun z21=>(bnd (Zc ((z21.1.1,(z21.1.2.1,z21.1.2.2)),(z5.1.1,(z5.1.2.1,z5.1.2.2)))) (fun z22=>(cnd (bNot
 z22) (some false) (cnd (bNe z21.2 z5.2) (some false) (bnd (Zf ((z17.2.1,(z8.1.2.1,z17.2.2)),1)) (fun z23=>(cnd (iLt z23 0) (some false) (cnd (iNe z23 z17.1)
 (some false) (some true))))))))))))))))))))))))))))))))))))))))))))))))))))))))))))))))) (bnd (Za (x.1.1,(x.1.2.1,x.1.2.2))) (fun z3=>(bnd (Zb (x.2.1,((x.2.2.1.1,((x.2.2.1.2.1.1,x.2.2.1.2.1.2),
 ((x.2.2.1.2.2.1.1,x.2.2.1.2.2.1.2),(x.2.2.1.2.2.2.1,x.2.2.1.2.2.2.2)))),(x.2.2.2.1,(x.2.2.2.2.1,(x.2.2.2.2.2.1,(x.2.2.2.2.2.2.1,x.2.2.2.2.2.2.2))))))) (fun z4=>(bnd (Zo ((z3.1,(z3.2.1,z3.2.2)),
 (z4.1,((z4.2.1.1,((z4.2.1.2.1.1,z4.2.1.2.1.2),((z4.2.1.2.2.1.1,z4.2.1.2.2.1.2),(z4.2.1.2.2.2.1,z4.2.1.2.2.2.2)))),(z4.2.2.1,(z4.2.2.2.1,(z4.2.2.2.2.1,(z4.2.2.2.2.2.1,
 z4.2.2.2.2.2.2)))))))) (fun z5=>(bnd
 (Za (x.1.1,(x.1.2.1,x.1.2.2))) (fun z6
 => (bnd (Zb (x.2.1,((x.2.2.1.1,((x.2.2.1.2.1.1,x.2.2.1.2.1.2),((x.2.2.1.2.2.1.1,x.2.2.1.2.2.1.2),(x.2.2.1.2.2.2.1,x.2.2.1.2.2.2.2)))),(x.2.2.2.1,(x.2.2.2.2.1,
 (x.2.2.2.2.2.1,(x.2.2.2.2.2.2.1,x.2.2.2.2.2.2.2))))))) (fun z7=>(bnd (Ze ((z6.1,(z6.2.1,z6.2.2)),(z7.1,((z7.2.1.1,((z7.2.1.2.1.1,z7.2.1.2.1.2),((z7.2.1.2.2.1.1,z7.2.1.2.2.1.2),(z7.2.1.2.2.2.1,
 z7.2.1.2.2.2.2)))),(z7.2.2.1,(z7.2.2.2.1,(z7.2.2.2.2.1,(z7.2.2.2.2.2.1,z7.2.2.2.2.2.2)))))))) (fun z8=>(bnd (Zc ((z8.1.1,(z8.1.2.1,z8.1.2.2)),(z5.1.1,(z5.1.2.1,z5.1.2.2)))) (fun z9 =>
 (cnd (bNot z9) (some false) (cnd (bNe z8.2 z5.2) (some false) (bnd (Za (x.1.1,(x.1.2.1,x.1.2.2))) (fun z10=>(bnd (Zc ((z6.1,(z6.2.1,z6.2.2)),(z10.1,(z10.2.1,z10.2.2)))) (fun z11=>(cnd
 (bNot z11) (some false) (bnd (Zb (x.2.1,((x.2.2.1.1,((x.2.2.1.2.1.1,x.2.2.1.2.1.2),((x.2.2.1.2.2.1.1,x.2.2.1.2.2.1.2),(x.2.2.1.2.2.2.1,x.2.2.1.2.2.2.2)))),
 (x.2.2.2.1,(x.2.2.2.2.1,(x.2.2.2.2.2.1,(x.2.2.2.2.2.2.1,x.2.2.2.2.2.2.2))))))) (fun z12=>(bnd (Zq ((z7.1,((z7.2.1.1,((z7.2.1.2.1.1,z7.2.1.2.1.2),((z7.2.1.2.2.1.1,z7.2.1.2.2.1.2),
 (z7.2.1.2.2.2.1,z7.2.1.2.2.2.2)))),(z7.2.2.1,(z7.2.2.2.1,(z7.2.2.2.2.1,(z7.2.2.2.2.2.1,z7.2.2.2.2.2.2)))))),(z12.1,((z12.2.1.1,((z12.2.1.2.1.1,z12.2.1.2.1.2),
 ((z12.2.1.2.2.1.1,z12.2.1.2.2.1.2),(z12.2.1.2.2.2.1,z12.2.1.2.2.2.2)))),(z12.2.2.1,(z12.2.2.2.1,(z12.2.2.2.2.1,(z12.2.2.2.2.2.1,z12.2.2.2.2.2.2)))))))) (fun z13
 => (cnd (bNot z13) (some false) (bnd (Zk ((z6.1,(z6.2.1,z6.2.2)),1)) (fun z14=>(chk (nEq z14.2.1.length z6.1.length) (chk (nEq z14.2.2.length z6.2.2.length) (bnd (Zr ((z7.1,((z7.2.1.1,((z7.2.1.2.1.1,
 z7.2.1.2.1.2),((z7.2.1.2.2.1.1,z7.2.1.2.2.1.2),(z7.2.1.2.2.2.1,z7.2.1.2.2.2.2)))),(z7.2.2.1,(z7.2.2.2.1,(z7.2.2.2.2.1,(z7.2.2.2.2.2.1,z7.2.2.2.2.2.2)))))),z14.1)) (fun
 z15=>(chk (nEq z15.2.1.length z7.2.1.2.1.2.length) (chk (nEq z15.2.2.length z7.2.1.2.2.1.2.length) (cnd (iLt z15.1 0) (some false)
 (bnd (Zc ((z8.1.1,(z8.1.2.1,z8.1.2.2)),(z5.1.1,(z5.1.2.1,z5.1.2.2)))) (fun z16=>(cnd (bNot z16) (some false) (cnd (bNe z8.2 z5.2) (some false) (bnd
 (Zk ((z8.1.1,(z8.1.2.1,z8.1.2.2)),1)) (fun z17=>(chk (nEq z17.2.1.length z8.1.1.length) (chk (nEq z17.2.2.length z8.1.2.2.length) (bnd (Zf ((z17.2.1,(z8.1.2.1,z17.2.2)),1)) (fun z18=>(cnd
 (iLt z18 0) (some false) (cnd (iNe z18 z17.1) (some false) (alt2 (bnd (Za (x.1.1,(x.1.2.1,x.1.2.2))) (fun z19=>(bnd (Zb (x.2.1,((x.2.2.1.1,((x.2.2.1.2.1.1,x.2.2.1.2.1.2),((x.2.2.1.2.2.1.1,
 x.2.2.1.2.2.1.2),(x.2.2.1.2.2.2.1,x.2.2.1.2.2.2.2)))),(x.2.2.2.1,(x.2.2.2.2.1,(x.2.2.2.2.2.1,(x.2.2.2.2.2.2.1,x.2.2.2.2.2.2.2))))))) (fun z20=>(bnd (Ze ((z19.1,(z19.2.1,z19.2.2)),(z20.1,
 ((z20.2.1.1,((z20.2.1.2.1.1,z20.2.1.2.1.2),((z20.2.1.2.2.1.1,z20.2.1.2.2.1.2),(z20.2.1.2.2.2.1,z20.2.1.2.2.2.2)))),(z20.2.2.1,(z20.2.2.2.1,(z20.2.2.2.2.1,
 (z20.2.2.2.2.2.1,z20.2.2.2.2.2.2)))))))) (fun z21=>(bnd (Zc ((z21.1.1,(z21.1.2.1,z21.1.2.2)),(z5.1.1,(z5.1.2.1,z5.1.2.2)))) (fun z22=>(cnd (bNot z22) (some false) (cnd (bNe z21.2 z5.2)
 (some false) (bnd (Zf ((z17.2.1,(z8.1.2.1,z17.2.2)),1)) (fun z23=>(cnd (iLt z23 0) (some false) (cnd (iNe z23 z17.1) (some false) (some true)))))))))))))))
 (alt2 (bnd (Za (x.1.1,(x.1.2.1,x.1.2.2))) (fun z19=>(bnd (Zb (x.2.1,((x.2.2.1.1,((x.2.2.1.2.1.1,x.2.2.1.2.1.2),((x.2.2.1.2.2.1.1,x.2.2.1.2.2.1.2),(x.2.2.1.2.2.2.1,x.2.2.1.2.2.2.2)))),(x.2.2.2.1,
 (x.2.2.2.2.1,(x.2.2.2.2.2.1,(x.2.2.2.2.2.2.1,x.2.2.2.2.2.2.2))))))) (fun z20=>(bnd (Ze ((z19.1,(z19.2.1,z19.2.2)),(z20.1,((z20.2.1.1,((z20.2.1.2.1.1,z20.2.1.2.1.2),((z20.2.1.2.2.1.1,
 z20.2.1.2.2.1.2),(z20.2.1.2.2.2.1,z20.2.1.2.2.2.2)))),(z20.2.2.1,(z20.2.2.2.1,(z20.2.2.2.2.1,(z20.2.2.2.2.2.1,z20.2.2.2.2.2.2)))))))) (fun z21=>(bnd (Zc ((z21.1.1,(z21.1.2.1,z21.1.2.2)),(z5.1.1,
 (z5.1.2.1,z5.1.2.2)))) (fun z22=>(cnd (bNot z22) (some false) (cnd (bNe z21.2 z5.2) (some false) (bnd (Zf ((z17.2.1,(z8.1.2.1,z17.2.2)),1)) (fun z23=>(cnd (iLt z23 0) (some false) (cnd (iNe z23 z17.1) (some false) (some true))))))))))))))) (alt2 (bnd (Za (x.1.1,(x.1.2.1,x.1.2.2))) (fun z19=>(bnd (Zb (x.2.1,((x.2.2.1.1,((x.2.2.1.2.1.1,
 x.2.2.1.2.1.2),((x.2.2.1.2.2.1.1,x.2.2.1.2.2.1.2),(x.2.2.1.2.2.2.1,x.2.2.1.2.2.2.2)))),(x.2.2.2.1,(x.2.2.2.2.1,(x.2.2.2.2.2.1,(x.2.2.2.2.2.2.1,x.2.2.2.2.2.2.2)))))))
 (fun z20=>(bnd (Ze ((z19.1,
 (z19.2.1,z19.2.2)),(z20.1,((z20.2.1.1,((z20.2.1.2.1.1,z20.2.1.2.1.2),((z20.2.1.2.2.1.1,z20.2.1.2.2.1.2),(z20.2.1.2.2.2.1,z20.2.1.2.2.2.2)))),(z20.2.2.1,(z20.2.2.2.1,
 (z20.2.2.2.2.1,(z20.2.2.2.2.2.1,z20.2.2.2.2.2.2)))))))) (fun z21=>(bnd (Zc ((z21.1.1,(z21.1.2.1,z21.1.2.2)),(z5.1.1,(z5.1.2.1,z5.1.2.2)))) (fun z22=>(cnd (bNot z22) (some false) (cnd (bNe
 z21.2 z5.2) (some false) (bnd (Zf ((z17.2.1,(z8.1.2.1,z17.2.2)),1)) (fun z23=>(cnd (iLt z23 0) (some false) (cnd (iNe z23 z17.1) (some false) (some
 true))))))))))))))) (bnd (Za (x.1.1,(x.1.2.1,x.1.2.2))) (fun z19=>(bnd (Zb (x.2.1,((x.2.2.1.1,((x.2.2.1.2.1.1,x.2.2.1.2.1.2),((x.2.2.1.2.2.1.1,x.2.2.1.2.2.1.2),(x.2.2.1.2.2.2.1,x.2.2.1.2.2.2.2)))),
 (x.2.2.2.1,(x.2.2.2.2.1,(x.2.2.2.2.2.1,(x.2.2.2.2.2.2.1,x.2.2.2.2.2.2.2))))))) (fun z20=>(bnd (Ze ((z19.1,(z19.2.1,z19.2.2)),(z20.1,((z20.2.1.1,((z20.2.1.2.1.1,z20.2.1.2.1.2),
 ((z20.2.1.2.2.1.1,z20.2.1.2.2.1.2),(z20.2.1.2.2.2.1,z20.2.1.2.2.2.2)))),(z20.2.2.1,(z20.2.2.2.1,(z20.2.2.2.2.1,(z20.2.2.2.2.2.1,z20.2.2.2.2.2.2)))))))) (fun z21=>(bnd (Zc ((z21.1.1,(z21.1.2.1,
 z21.1.2.2)),(z5.1.1,(z5.1.2.1,z5.1.2.2)))) (fun z22=>(cnd (bNot z22) (some false) (cnd (bNe z21.2 z5.2) (some false) (bnd (Zf ((z17.2.1,(z8.1.2.1,
 z17.2.2)),1)) (fun z23=>(cnd (iLt z23 0) (some false) (cnd (iNe z23 z17.1) (some false) (some
 true))))))))))))))))))))))))))))))))))))))))))))))))))))))))))))))))))))))))))
end
end Go.Vs
