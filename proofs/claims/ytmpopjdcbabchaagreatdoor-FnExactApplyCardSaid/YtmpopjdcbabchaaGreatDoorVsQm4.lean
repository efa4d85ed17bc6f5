import Derived.Test.YtmpopjdcbabchaaGreatDoorVsW5
import Derived.Test.YtmpopjdcbabchaaGreatDoorVsQm3
set_option linter.all false
namespace Go.Vs
noncomputable section
theorem Zfx (x:(((List ((List UInt8)×((Int×(List UInt8))×((Int×(List UInt8))×(Int×Bool)))))×(Int×(List (Int×(Int×Int)))))×(Int×(((List UInt8)×((Int×(List UInt8))×((Int×(List UInt8))×(Int×Bool))))×((List UInt8)×(Int×(Int×(Int×Int)))))))):Ze x=((bnd (Zbc x.1) (fun z1=>(bnd (Zci x.2) (fun z2=>(cnd (bNot z2) (some (z1,false)) (bnd (Zx x.1) (fun z3=>(cnd (bNot z3) (some (z1,false)) (joinX (cnd (iEq x.2.1 1) (bnd (cvL (.P .S (.P (.P (.I .i64) (.L .Y)) (.P (.P (.I .i64) (.L .Y)) (.P (.I .i64) .B)))) (.P .S (.P (.P (.I .i64) (.H .Y)) (.P (.P (.I .i64) (.H .Y)) (.P (.I .i64) .B)))) z1.1) (fun z4=>(bnd (Zbr (z4,x.2.2.1)) (fun z5=>(some (.inl (x.2.1,(x.2.2.1.1,(x.2.2.1.2.1.1,(x.2.2.1.2.2.1.1,(x.2.2.1.2.2.2.1,(x.2.2.1.2.2.2.2,(x.2.2.2.1,(x.2.2.2.2.1,(x.2.2.2.2.2.1,(x.2.2.2.2.2.2.1,(x.2.2.2.2.2.2.2,(z5,z1.2.1)))))))))))))))))) (cnd (iEq x.2.1 2) (bnd (cvL (.P .S (.P (.P (.I .i64) (.L .Y)) (.P (.P (.I .i64) (.L .Y)) (.P (.I .i64) .B)))) (.P .S (.P (.P (.I .i64) (.H .Y)) (.P (.P (.I .i64) (.H .Y)) (.P (.I .i64) .B)))) z1.1) (fun z4=>(bnd (Zbt (z4,x.2)) (fun z5=>(some (.inl (z5.2.1,(z5.2.2.1,(z5.2.2.2.1,(z5.2.2.2.2.1,(z5.2.2.2.2.2.1,(z5.2.2.2.2.2.2.1,(z5.2.2.2.2.2.2.2.1,(z5.2.2.2.2.2.2.2.2.1,(z5.2.2.2.2.2.2.2.2.2.1,(z5.2.2.2.2.2.2.2.2.2.2.1,(z5.2.2.2.2.2.2.2.2.2.2.2,(z5.1,z1.2.1)))))))))))))))))) (cnd (iEq x.2.1 3) (some (.inl (x.2.1,(x.2.2.1.1,(x.2.2.1.2.1.1,(x.2.2.1.2.2.1.1,(x.2.2.1.2.2.2.1,(x.2.2.1.2.2.2.2,(x.2.2.2.1,(x.2.2.2.2.1,(x.2.2.2.2.2.1,(x.2.2.2.2.2.2.1,(x.2.2.2.2.2.2.2,(z1.1,x.2.2.2.2.1)))))))))))))) (some (.inl (x.2.1,(x.2.2.1.1,(x.2.2.1.2.1.1,(x.2.2.1.2.2.1.1,(x.2.2.1.2.2.2.1,(x.2.2.1.2.2.2.2,(x.2.2.2.1,(x.2.2.2.2.1,(x.2.2.2.2.2.1,(x.2.2.2.2.2.2.1,(x.2.2.2.2.2.2.2,(z1.1,z1.2.1))))))))))))))))) (fun (z4:(Int×((List UInt8)×(Int×(Int×(Int×(Bool×((List UInt8)×(Int×(Int×(Int×(Int×((List ((List UInt8)×((Int×(List UInt8))×((Int×(List UInt8))×(Int×Bool)))))×Int)))))))))))))=>(joinX (cnd (iGt z4.2.2.2.2.2.2.2.2.1 0) (bnd (Zbg (z1.2.2,(z4.2.2.2.2.2.2.2.2.1,(z4.2.2.2.2.2.2.2.2.2.1,z4.2.2.2.2.2.2.2.2.2.2.1)))) (fun z5=>(some (.inl z5)))) (some (.inl z1.2.2))) (fun (z5:(List (Int×(Int×Int))))=>(bnd (Zx (z4.2.2.2.2.2.2.2.2.2.2.2.1,(z4.2.2.2.2.2.2.2.2.2.2.2.2,z5))) (fun z6=>(cnd (bNot z6) (bnd (Zbc x.1) (fun z7=>(some (z7,false)))) (some ((z4.2.2.2.2.2.2.2.2.2.2.2.1,(z4.2.2.2.2.2.2.2.2.2.2.2.2,z5)),true)))))))))))))))))):=rfl
theorem Zfy (x:(((List ((List UInt8)×((Int×(List UInt8))×((Int×(List UInt8))×(Int×Bool)))))×(Int×(List (Int×(Int×Int)))))×(Int×(((List UInt8)×((Int×(List UInt8))×((Int×(List UInt8))×(Int×Bool))))×((List UInt8)×(Int×(Int×(Int×Int)))))))):Zo x=((bnd (Zz x.1) (fun z1=>(bnd (Zw x.1) (fun z2=>(cnd (bNot z2) (some (z1,false)) (bnd (Zcc x.2) (fun z3=>(cnd (bNot z3) (some (z1,false)) (joinX (cnd (iEq x.2.1 1) (bnd (cvL (.P .S (.P (.P (.I .i64) (.L .Y)) (.P (.P (.I .i64) (.L .Y)) (.P (.I .i64) .B)))) (.P .S (.P (.P (.I .i64) (.H .Y)) (.P (.P (.I .i64) (.H .Y)) (.P (.I .i64) .B)))) z1.1) (fun z4=>(bnd (Zbo (z4,x.2.2.1)) (fun z5=>(some (.inl (z5,z1.2.1))))))) (cnd (iEq x.2.1 2) (bnd (Zbp (z1,x.2.2.2.1)) (fun z4=>(cnd (iGe z4 0) (chk (within 0 z4 (lLen z1.1)) (chk (fits 0 ((nOf z4)-0) z1.1.length) (chk (room (0+(lTake ((nOf z4)-0) z1.1).length) 96) (chk (within (iAdd .i64 z4 1) (lLen (mvW (.P .S (.P (.P (.I .i64) (.L .Y)) (.P (.P (.I .i64) (.L .Y)) (.P (.I .i64) .B)))) 0 ((nOf z4)-0) z1.1)) (lLen (mvW (.P .S (.P (.P (.I .i64) (.L .Y)) (.P (.P (.I .i64) (.L .Y)) (.P (.I .i64) .B)))) 0 ((nOf z4)-0) z1.1))) (chk (fits (nOf (iAdd .i64 z4 1)) ((nOf (lLen (mvW (.P .S (.P (.P (.I .i64) (.L .Y)) (.P (.P (.I .i64) (.L .Y)) (.P (.I .i64) .B)))) 0 ((nOf z4)-0) z1.1)))-(nOf (iAdd .i64 z4 1))) (mvW (.P .S (.P (.P (.I .i64) (.L .Y)) (.P (.P (.I .i64) (.L .Y)) (.P (.I .i64) .B)))) 0 ((nOf z4)-0) z1.1).length) (bnd (cvL (.P .S (.P (.P (.I .i64) (.H .Y)) (.P (.P (.I .i64) (.H .Y)) (.P (.I .i64) .B)))) (.P .S (.P (.P (.I .i64) (.L .Y)) (.P (.P (.I .i64) (.L .Y)) (.P (.I .i64) .B)))) (lTake ((nOf (lLen (mvW (.P .S (.P (.P (.I .i64) (.L .Y)) (.P (.P (.I .i64) (.L .Y)) (.P (.I .i64) .B)))) 0 ((nOf z4)-0) z1.1)))-(nOf (iAdd .i64 z4 1))) (lDrop (nOf (iAdd .i64 z4 1)) (mvW (.P .S (.P (.P (.I .i64) (.L .Y)) (.P (.P (.I .i64) (.L .Y)) (.P (.I .i64) .B)))) 0 ((nOf z4)-0) z1.1)))) (fun z5=>(chk (room ((lApp [] (lTake ((nOf z4)-0) z1.1)).length+z5.length) 96) (some (.inl ((lApp (lApp [] (lTake ((nOf z4)-0) z1.1)) z5),z1.2.1))))))))))) (some (.inl (z1.1,z1.2.1)))))) (cnd (iEq x.2.1 3) (some (.inl (z1.1,x.2.2.2.2.1))) (some (.inl (z1.1,z1.2.1)))))) (fun (z4:((List ((List UInt8)×((Int×(List UInt8))×((Int×(List UInt8))×(Int×Bool)))))×Int))=>(joinX (cnd (iNe x.2.2.2.2.2.1 0) (bnd (Zbq (z1.2.2,x.2.2.2.2.2)) (fun z5=>(some (.inl z5)))) (some (.inl z1.2.2))) (fun (z5:(List (Int×(Int×Int))))=>(bnd (Zw (z4.1,(z4.2,z5))) (fun z6=>(cnd (bNot z6) (bnd (Zz x.1) (fun z7=>(some (z7,false)))) (some ((z4.1,(z4.2,z5)),true)))))))))))))))))):=rfl
theorem Zfz (x:((List ((List UInt8)×((Int×(Option (List UInt8)))×((Int×(Option (List UInt8)))×(Int×Bool)))))×((List UInt8)×((Int×(List UInt8))×((Int×(List UInt8))×(Int×Bool)))))):Zbr x=((joinX (loopX (Zej x) ([],(false,(x.1,0)))) (fun (z1:((List ((List UInt8)×((Int×(List UInt8))×((Int×(List UInt8))×(Int×Bool)))))×Bool))=>(joinX (cnd (bNot z1.2) (bnd (Zn x.2) (fun z2=>(chk (room (z1.1.length+1) 96) (some (.inl (lApp z1.1 [z2])))))) (some (.inl z1.1))) (fun (z2:(List ((List UInt8)×((Int×(List UInt8))×((Int×(List UInt8))×(Int×Bool))))))=>(some z2)))))):=rfl
theorem Zfj (x:((List ((List UInt8)×((Int×(Option (List UInt8)))×((Int×(Option (List UInt8)))×(Int×Bool)))))×((List UInt8)×((Int×(List UInt8))×((Int×(List UInt8))×(Int×Bool)))))):Zej x=(fun (z1:((List ((List UInt8)×((Int×(List UInt8))×((Int×(List UInt8))×(Int×Bool)))))×(Bool×((List ((List UInt8)×((Int×(Option (List UInt8)))×((Int×(Option (List UInt8)))×(Int×Bool)))))×Int))))=>(cnd (iLt z1.2.2.2 (lLen x.1)) (joinX (bnd (idx z1.2.2.1 z1.2.2.2) (fun z2=>(chk (hSome z2.2.1.2) (chk (hSome z2.2.2.1.2) (joinX (cnd (bNot z1.2.1) (cnd (bNot (sLt z2.1 x.2.1)) (bnd (Zn x.2) (fun z3=>(chk (room (z1.1.length+1) 96) (some (.inl ((lApp z1.1 [z3]),true)))))) (some (.inl (z1.1,z1.2.1)))) (some (.inl (z1.1,z1.2.1)))) (fun (z3:((List ((List UInt8)×((Int×(List UInt8))×((Int×(List UInt8))×(Int×Bool)))))×Bool))=>(cnd (bNot (sEq z2.1 x.2.1)) (bnd (idx z1.2.2.1 (Int.ofNat (nOf z1.2.2.2))) (fun z4=>(bnd (idx (lSet z1.2.2.1 (nOf z1.2.2.2) (z4.1,((z4.2.1.1,none),z4.2.2))) (Int.ofNat (nOf z1.2.2.2))) (fun z5=>(chk (room (z3.1.length+1) 96) (some (.inl ((lApp z3.1 [(z2.1,((z2.2.1.1,(hGet z2.2.1.2)),((z2.2.2.1.1,(hGet z2.2.2.1.2)),z2.2.2.2)))]),(z3.2,(lSet (lSet z1.2.2.1 (nOf z1.2.2.2) (z4.1,((z4.2.1.1,none),z4.2.2))) (nOf z1.2.2.2) (z5.1,(z5.2.1,((z5.2.2.1.1,none),z5.2.2.2))))))))))))) (some (.inl (z3.1,(z3.2,z1.2.2.1))))))))))) (fun (z2:((List ((List UInt8)×((Int×(List UInt8))×((Int×(List UInt8))×(Int×Bool)))))×(Bool×(List ((List UInt8)×((Int×(Option (List UInt8)))×((Int×(Option (List UInt8)))×(Int×Bool))))))))=>(some (.inl (z2.1,(z2.2.1,(z2.2.2,(iAdd .i64 z1.2.2.2 1)))))))) (some (.inr (.inl (z1.1,z1.2.1)))))):=rfl
theorem Zga (x:((List ((List UInt8)×((Int×(Option (List UInt8)))×((Int×(Option (List UInt8)))×(Int×Bool)))))×((List UInt8)×((Int×(List UInt8))×((Int×(List UInt8))×(Int×Bool)))))):Zbo x=((joinX (loopX (Zeb x) (x.1,([],(false,0)))) (fun (z1:((List ((List UInt8)×((Int×(List UInt8))×((Int×(List UInt8))×(Int×Bool)))))×Bool))=>(joinX (cnd (bNot z1.2) (bnd (Zl x.2) (fun z2=>(chk (room (z1.1.length+1) 96) (some (.inl (lApp z1.1 [z2])))))) (some (.inl z1.1))) (fun (z2:(List ((List UInt8)×((Int×(List UInt8))×((Int×(List UInt8))×(Int×Bool))))))=>(some z2)))))):=rfl
theorem Zfk (x:((List ((List UInt8)×((Int×(Option (List UInt8)))×((Int×(Option (List UInt8)))×(Int×Bool)))))×((List UInt8)×((Int×(List UInt8))×((Int×(List UInt8))×(Int×Bool)))))):Zeb x=(fun (z1:((List ((List UInt8)×((Int×(Option (List UInt8)))×((Int×(Option (List UInt8)))×(Int×Bool)))))×((List ((List UInt8)×((Int×(List UInt8))×((Int×(List UInt8))×(Int×Bool)))))×(Bool×Int))))=>(cnd (iLt z1.2.2.2 (lLen z1.1)) (joinX (joinX (cnd (bNot z1.2.2.1) (bnd (idx z1.1 z1.2.2.2) (fun z2=>(cnd (bNot (sLt z2.1 x.2.1)) (bnd (Zl x.2) (fun z3=>(chk (room (z1.2.1.length+1) 96) (some (.inl ((lApp z1.2.1 [z3]),true)))))) (some (.inl (z1.2.1,z1.2.2.1)))))) (some (.inl (z1.2.1,z1.2.2.1)))) (fun (z2:((List ((List UInt8)×((Int×(List UInt8))×((Int×(List UInt8))×(Int×Bool)))))×Bool))=>(bnd (idx z1.1 z1.2.2.2) (fun z3=>(cnd (bNot (sEq z3.1 x.2.1)) (bnd (idx z1.1 z1.2.2.2) (fun z4=>(chk (hSome z4.2.1.2) (chk (hSome z4.2.2.1.2) (bnd (idx z1.1 (Int.ofNat (nOf z1.2.2.2))) (fun z5=>(bnd (idx (lSet z1.1 (nOf z1.2.2.2) (z5.1,((z5.2.1.1,none),z5.2.2))) (Int.ofNat (nOf z1.2.2.2))) (fun z6=>(chk (room (z2.1.length+1) 96) (some (.inl ((lSet (lSet z1.1 (nOf z1.2.2.2) (z5.1,((z5.2.1.1,none),z5.2.2))) (nOf z1.2.2.2) (z6.1,(z6.2.1,((z6.2.2.1.1,none),z6.2.2.2)))),((lApp z2.1 [(z4.1,((z4.2.1.1,(hGet z4.2.1.2)),((z4.2.2.1.1,(hGet z4.2.2.1.2)),z4.2.2.2)))]),z2.2))))))))))))) (some (.inl (z1.1,z2)))))))) (fun (z2:((List ((List UInt8)×((Int×(Option (List UInt8)))×((Int×(Option (List UInt8)))×(Int×Bool)))))×((List ((List UInt8)×((Int×(List UInt8))×((Int×(List UInt8))×(Int×Bool)))))×Bool)))=>(some (.inl (z2.1,(z2.2.1,(z2.2.2,(iAdd .i64 z1.2.2.2 1)))))))) (some (.inr (.inl (z1.2.1,z1.2.2.1)))))):=rfl
theorem Zgb (x:((List ((List UInt8)×((Int×(Option (List UInt8)))×((Int×(Option (List UInt8)))×(Int×Bool)))))×(Int×(((List UInt8)×((Int×(List UInt8))×((Int×(List UInt8))×(Int×Bool))))×((List UInt8)×(Int×(Int×(Int×Int)))))))):Zbt x=((bnd (cvL (.P .S (.P (.P (.I .i64) (.H .Y)) (.P (.P (.I .i64) (.H .Y)) (.P (.I .i64) .B)))) (.P .S (.P (.P (.I .i64) (.L .Y)) (.P (.P (.I .i64) (.L .Y)) (.P (.I .i64) .B)))) x.1) (fun z1=>(bnd (Zcj (z1,x.2)) (fun z2=>(cnd (iEq z2.1 (-1)) (bnd (cvL (.P .S (.P (.P (.I .i64) (.H .Y)) (.P (.P (.I .i64) (.H .Y)) (.P (.I .i64) .B)))) (.P .S (.P (.P (.I .i64) (.L .Y)) (.P (.P (.I .i64) (.L .Y)) (.P (.I .i64) .B)))) x.1) (fun z3=>(some (z3,z2.2)))) (joinX (loopX (Zdk x) (x.1,(z2.2.1,(z2.2.2.1,(z2.2.2.2.1,(z2.2.2.2.2.1,(z2.2.2.2.2.2.1,(z2.2.2.2.2.2.2.1,(z2.2.2.2.2.2.2.2.1,(z2.2.2.2.2.2.2.2.2.1,(z2.2.2.2.2.2.2.2.2.2.1,(z2.2.2.2.2.2.2.2.2.2.2.1,(z2.2.2.2.2.2.2.2.2.2.2.2,(z2.1,(iAdd .i64 z2.1 1))))))))))))))) (fun (z3:((List ((List UInt8)×((Int×(Option (List UInt8)))×((Int×(Option (List UInt8)))×(Int×Bool)))))×(Int×((List UInt8)×(Int×(Int×(Int×(Bool×((List UInt8)×(Int×(Int×(Int×(Int×Int)))))))))))))=>(chk (within z3.2.2.2.2.2.2.2.2.2.2.2.2 (lLen z3.1) (lLen z3.1)) (chk (nEq ((nOf z3.2.2.2.2.2.2.2.2.2.2.2.2)+((nOf (lLen z3.1))-(nOf z3.2.2.2.2.2.2.2.2.2.2.2.2))) z3.1.length) (chk (within 0 z3.2.2.2.2.2.2.2.2.2.2.2.2 (lLen (lApp (lTake (nOf z3.2.2.2.2.2.2.2.2.2.2.2.2) z3.1) (lRep ((nOf (lLen z3.1))-(nOf z3.2.2.2.2.2.2.2.2.2.2.2.2)) ([],((0,none),((0,none),(0,false)))))))) (chk (fits 0 ((nOf z3.2.2.2.2.2.2.2.2.2.2.2.2)-0) (lApp (lTake (nOf z3.2.2.2.2.2.2.2.2.2.2.2.2) z3.1) (lRep ((nOf (lLen z3.1))-(nOf z3.2.2.2.2.2.2.2.2.2.2.2.2)) ([],((0,none),((0,none),(0,false)))))).length) (bnd (cvL (.P .S (.P (.P (.I .i64) (.H .Y)) (.P (.P (.I .i64) (.H .Y)) (.P (.I .i64) .B)))) (.P .S (.P (.P (.I .i64) (.L .Y)) (.P (.P (.I .i64) (.L .Y)) (.P (.I .i64) .B)))) (lTake ((nOf z3.2.2.2.2.2.2.2.2.2.2.2.2)-0) (lApp (lTake (nOf z3.2.2.2.2.2.2.2.2.2.2.2.2) z3.1) (lRep ((nOf (lLen z3.1))-(nOf z3.2.2.2.2.2.2.2.2.2.2.2.2)) ([],((0,none),((0,none),(0,false)))))))) (fun z4=>(some (z4,(z3.2.1,(z3.2.2.1,(z3.2.2.2.1,(z3.2.2.2.2.1,(z3.2.2.2.2.2.1,(z3.2.2.2.2.2.2.1,(z3.2.2.2.2.2.2.2.1,(z3.2.2.2.2.2.2.2.2.1,(z3.2.2.2.2.2.2.2.2.2.1,(z3.2.2.2.2.2.2.2.2.2.2.1,z3.2.2.2.2.2.2.2.2.2.2.2.1)))))))))))))))))))))))))):=rfl
theorem Zfl (x:((List ((List UInt8)×((Int×(Option (List UInt8)))×((Int×(Option (List UInt8)))×(Int×Bool)))))×(Int×(((List UInt8)×((Int×(List UInt8))×((Int×(List UInt8))×(Int×Bool))))×((List UInt8)×(Int×(Int×(Int×Int)))))))):Zdk x=(fun (z3:((List ((List UInt8)×((Int×(Option (List UInt8)))×((Int×(Option (List UInt8)))×(Int×Bool)))))×(Int×((List UInt8)×(Int×(Int×(Int×(Bool×((List UInt8)×(Int×(Int×(Int×(Int×(Int×Int))))))))))))))=>(cnd (iLt z3.2.2.2.2.2.2.2.2.2.2.2.2.2 (lLen z3.1)) (joinX (bnd (idx z3.1 z3.2.2.2.2.2.2.2.2.2.2.2.2.2) (fun z4=>(chk (hSome z4.2.1.2) (chk (hSome z4.2.2.1.2) (bnd (Zbs ((z4.1,((z4.2.1.1,(hGet z4.2.1.2)),((z4.2.2.1.1,(hGet z4.2.2.1.2)),z4.2.2.2))),(z3.2.1,((z3.2.2.1,((z3.2.2.2.1,x.2.2.1.2.1.2),((z3.2.2.2.2.1,x.2.2.1.2.2.1.2),(z3.2.2.2.2.2.1,z3.2.2.2.2.2.2.1)))),(z3.2.2.2.2.2.2.2.1,(z3.2.2.2.2.2.2.2.2.1,(z3.2.2.2.2.2.2.2.2.2.1,(z3.2.2.2.2.2.2.2.2.2.2.1,z3.2.2.2.2.2.2.2.2.2.2.2.1)))))))) (fun z5=>(cnd (bNot z5.1) (bnd (idx z3.1 z3.2.2.2.2.2.2.2.2.2.2.2.2.1) (fun z6=>(chk (nNe (nOf z3.2.2.2.2.2.2.2.2.2.2.2.2.1) (nOf z3.2.2.2.2.2.2.2.2.2.2.2.2.2)) (bnd (idx z3.1 (Int.ofNat (nOf z3.2.2.2.2.2.2.2.2.2.2.2.2.2))) (fun z7=>(chk (nEq (nOf z3.2.2.2.2.2.2.2.2.2.2.2.2.2) (nOf z3.2.2.2.2.2.2.2.2.2.2.2.2.2)) (chk (nEq (nOf z3.2.2.2.2.2.2.2.2.2.2.2.2.2) (nOf z3.2.2.2.2.2.2.2.2.2.2.2.2.2)) (some (.inl ((lSet (lSet z3.1 (nOf z3.2.2.2.2.2.2.2.2.2.2.2.2.1) (z4.1,((z4.2.1.1,(some (hGet z4.2.1.2))),((z4.2.2.1.1,(some (hGet z4.2.2.1.2))),z4.2.2.2)))) (nOf z3.2.2.2.2.2.2.2.2.2.2.2.2.2) (z7.1,((z7.2.1.1,none),((z7.2.2.1.1,none),z7.2.2.2)))),(z5.2.1,(z5.2.2.1,(z5.2.2.2.1,(z5.2.2.2.2.1,(z5.2.2.2.2.2.1,(z5.2.2.2.2.2.2.1,(z5.2.2.2.2.2.2.2.1,(z5.2.2.2.2.2.2.2.2.1,(z5.2.2.2.2.2.2.2.2.2.1,(z5.2.2.2.2.2.2.2.2.2.2.1,(z5.2.2.2.2.2.2.2.2.2.2.2,(iAdd .i64 z3.2.2.2.2.2.2.2.2.2.2.2.2.1 1)))))))))))))))))))))) (some (.inl (z3.1,(z5.2.1,(z5.2.2.1,(z5.2.2.2.1,(z5.2.2.2.2.1,(z5.2.2.2.2.2.1,(z5.2.2.2.2.2.2.1,(z5.2.2.2.2.2.2.2.1,(z5.2.2.2.2.2.2.2.2.1,(z5.2.2.2.2.2.2.2.2.2.1,(z5.2.2.2.2.2.2.2.2.2.2.1,(z5.2.2.2.2.2.2.2.2.2.2.2,z3.2.2.2.2.2.2.2.2.2.2.2.2.1))))))))))))))))))))) (fun (z4:((List ((List UInt8)×((Int×(Option (List UInt8)))×((Int×(Option (List UInt8)))×(Int×Bool)))))×(Int×((List UInt8)×(Int×(Int×(Int×(Bool×((List UInt8)×(Int×(Int×(Int×(Int×Int)))))))))))))=>(some (.inl (z4.1,(z4.2.1,(z4.2.2.1,(z4.2.2.2.1,(z4.2.2.2.2.1,(z4.2.2.2.2.2.1,(z4.2.2.2.2.2.2.1,(z4.2.2.2.2.2.2.2.1,(z4.2.2.2.2.2.2.2.2.1,(z4.2.2.2.2.2.2.2.2.2.1,(z4.2.2.2.2.2.2.2.2.2.2.1,(z4.2.2.2.2.2.2.2.2.2.2.2.1,(z4.2.2.2.2.2.2.2.2.2.2.2.2,(iAdd .i64 z3.2.2.2.2.2.2.2.2.2.2.2.2.2 1)))))))))))))))))) (some (.inr (.inl (z3.1,(z3.2.1,(z3.2.2.1,(z3.2.2.2.1,(z3.2.2.2.2.1,(z3.2.2.2.2.2.1,(z3.2.2.2.2.2.2.1,(z3.2.2.2.2.2.2.2.1,(z3.2.2.2.2.2.2.2.2.1,(z3.2.2.2.2.2.2.2.2.2.1,(z3.2.2.2.2.2.2.2.2.2.2.1,(z3.2.2.2.2.2.2.2.2.2.2.2.1,z3.2.2.2.2.2.2.2.2.2.2.2.2.1))))))))))))))))):=rfl
theorem Zgc (x:((List ((List UInt8)×((Int×(List UInt8))×((Int×(List UInt8))×(Int×Bool)))))×(Int×(((List UInt8)×((Int×(List UInt8))×((Int×(List UInt8))×(Int×Bool))))×((List UInt8)×(Int×(Int×(Int×Int)))))))):Zcj x=((loopX (Zez x) (x.2.1,(x.2.2.1.1,(x.2.2.1.2.1.1,(x.2.2.1.2.2.1.1,(x.2.2.1.2.2.2.1,(x.2.2.1.2.2.2.2,(x.2.2.2.1,(x.2.2.2.2.1,(x.2.2.2.2.2.1,(x.2.2.2.2.2.2.1,(x.2.2.2.2.2.2.2,0))))))))))))):=rfl
theorem Zfm (x:((List ((List UInt8)×((Int×(List UInt8))×((Int×(List UInt8))×(Int×Bool)))))×(Int×(((List UInt8)×((Int×(List UInt8))×((Int×(List UInt8))×(Int×Bool))))×((List UInt8)×(Int×(Int×(Int×Int)))))))):Zez x=(fun (z1:(Int×((List UInt8)×(Int×(Int×(Int×(Bool×((List UInt8)×(Int×(Int×(Int×(Int×Int))))))))))))=>(cnd (iLt z1.2.2.2.2.2.2.2.2.2.2.2 (lLen x.1)) (bnd (idx x.1 z1.2.2.2.2.2.2.2.2.2.2.2) (fun z2=>(bnd (Zbs (z2,(z1.1,((z1.2.1,((z1.2.2.1,x.2.2.1.2.1.2),((z1.2.2.2.1,x.2.2.1.2.2.1.2),(z1.2.2.2.2.1,z1.2.2.2.2.2.1)))),(z1.2.2.2.2.2.2.1,(z1.2.2.2.2.2.2.2.1,(z1.2.2.2.2.2.2.2.2.1,(z1.2.2.2.2.2.2.2.2.2.1,z1.2.2.2.2.2.2.2.2.2.2.1)))))))) (fun z3=>(cnd z3.1 (some (.inr (z1.2.2.2.2.2.2.2.2.2.2.2,z3.2))) (some (.inl (z3.2.1,(z3.2.2.1,(z3.2.2.2.1,(z3.2.2.2.2.1,(z3.2.2.2.2.2.1,(z3.2.2.2.2.2.2.1,(z3.2.2.2.2.2.2.2.1,(z3.2.2.2.2.2.2.2.2.1,(z3.2.2.2.2.2.2.2.2.2.1,(z3.2.2.2.2.2.2.2.2.2.2.1,(z3.2.2.2.2.2.2.2.2.2.2.2,(iAdd .i64 z1.2.2.2.2.2.2.2.2.2.2.2 1))))))))))))))))))) (some (.inr ((-1),(z1.1,(z1.2.1,(z1.2.2.1,(z1.2.2.2.1,(z1.2.2.2.2.1,(z1.2.2.2.2.2.1,(z1.2.2.2.2.2.2.1,(z1.2.2.2.2.2.2.2.1,(z1.2.2.2.2.2.2.2.2.1,(z1.2.2.2.2.2.2.2.2.2.1,z1.2.2.2.2.2.2.2.2.2.2.1))))))))))))))):=rfl
theorem Zfn (x:(((List UInt8)×((Int×(List UInt8))×((Int×(List UInt8))×(Int×Bool))))×(Int×(((List UInt8)×((Int×(List UInt8))×((Int×(List UInt8))×(Int×Bool))))×((List UInt8)×(Int×(Int×(Int×Int)))))))):Zbs x=((some ((sEq x.1.1 x.2.2.2.1),(x.2.1,(x.2.2.1.1,(x.2.2.1.2.1.1,(x.2.2.1.2.2.1.1,(x.2.2.1.2.2.2.1,(x.2.2.1.2.2.2.2,x.2.2.2))))))))):=rfl
theorem Zgd (x:((List (Int×(Int×Int)))×(Int×(Int×Int)))):Zbg x=((joinX (loopX (Zfa x) ([],(false,0))) (fun (z1:((List (Int×(Int×Int)))×Bool))=>(joinX (cnd (bNot z1.2) (chk (room (z1.1.length+1) 24) (some (.inl (lApp z1.1 [x.2])))) (some (.inl z1.1))) (fun (z2:(List (Int×(Int×Int))))=>(some z2)))))):=rfl
theorem Zfo (x:((List (Int×(Int×Int)))×(Int×(Int×Int)))):Zfa x=(fun (z1:((List (Int×(Int×Int)))×(Bool×Int)))=>(cnd (iLt z1.2.2 (lLen x.1)) (joinX (bnd (idx x.1 z1.2.2) (fun z2=>(joinX (cnd (bNot z1.2.1) (cnd (iGe z2.1 x.2.1) (chk (room (z1.1.length+1) 24) (some (.inl ((lApp z1.1 [x.2]),true)))) (some (.inl (z1.1,z1.2.1)))) (some (.inl (z1.1,z1.2.1)))) (fun (z3:((List (Int×(Int×Int)))×Bool))=>(cnd (iNe z2.1 x.2.1) (chk (room (z3.1.length+1) 24) (some (.inl ((lApp z3.1 [z2]),z3.2)))) (some (.inl z3))))))) (fun (z2:((List (Int×(Int×Int)))×Bool))=>(some (.inl (z2.1,(z2.2,(iAdd .i64 z1.2.2 1))))))) (some (.inr (.inl (z1.1,z1.2.1)))))):=rfl
theorem Zge (x:((List (Int×(Int×Int)))×(Int×(Int×Int)))):Zbq x=((joinX (loopX (Zeu x) ([],(false,0))) (fun (z1:((List (Int×(Int×Int)))×Bool))=>(joinX (cnd (bNot z1.2) (chk (room (z1.1.length+1) 24) (some (.inl (lApp z1.1 [x.2])))) (some (.inl z1.1))) (fun (z2:(List (Int×(Int×Int))))=>(some z2)))))):=rfl
theorem Zfp (x:((List (Int×(Int×Int)))×(Int×(Int×Int)))):Zeu x=(fun (z1:((List (Int×(Int×Int)))×(Bool×Int)))=>(cnd (iLt z1.2.2 (lLen x.1)) (joinX (joinX (cnd (bNot z1.2.1) (bnd (idx x.1 z1.2.2) (fun z2=>(cnd (iGe z2.1 x.2.1) (chk (room (z1.1.length+1) 24) (some (.inl ((lApp z1.1 [x.2]),true)))) (some (.inl (z1.1,z1.2.1)))))) (some (.inl (z1.1,z1.2.1)))) (fun (z2:((List (Int×(Int×Int)))×Bool))=>(bnd (idx x.1 z1.2.2) (fun z3=>(cnd (iNe z3.1 x.2.1) (bnd (idx x.1 z1.2.2) (fun z4=>(chk (room (z2.1.length+1) 24) (some (.inl ((lApp z2.1 [z4]),z2.2)))))) (some (.inl z2))))))) (fun (z2:((List (Int×(Int×Int)))×Bool))=>(some (.inl (z2.1,(z2.2,(iAdd .i64 z1.2.2 1))))))) (some (.inr (.inl (z1.1,z1.2.1)))))):=rfl
theorem Zgf (x:((List ((List UInt8)×((Int×(List UInt8))×((Int×(List UInt8))×(Int×Bool)))))×(Int×(List (Int×(Int×Int)))))):Zbc x=((alt2 (chk (room (0+x.2.2.length) 24) (joinX (loopX (Zfg x) ([],0)) (fun (z1:(List ((List UInt8)×((Int×(List UInt8))×((Int×(List UInt8))×(Int×Bool))))))=>(some (z1,(x.2.1,(lApp [] x.2.2))))))) (alt2 (chk (room (0+x.2.2.length) 24) (joinX (loopX (Zfh x) ([],0)) (fun (z1:(List ((List UInt8)×((Int×(List UInt8))×((Int×(List UInt8))×(Int×Bool))))))=>(some (z1,(x.2.1,(lApp [] x.2.2))))))) (chk (room (0+x.2.2.length) 24) (joinX (loopX (Zfi x) ([],0)) (fun (z1:(List ((List UInt8)×((Int×(List UInt8))×((Int×(List UInt8))×(Int×Bool))))))=>(some (z1,(x.2.1,(lApp [] x.2.2)))))))))):=rfl
theorem Zgg (x:((List ((List UInt8)×((Int×(List UInt8))×((Int×(List UInt8))×(Int×Bool)))))×(Int×(List (Int×(Int×Int)))))):Zz x=((alt2 (chk (room (0+x.2.2.length) 24) (joinX (loopX (Zfd x) ([],0)) (fun (z1:(List ((List UInt8)×((Int×(List UInt8))×((Int×(List UInt8))×(Int×Bool))))))=>(some (z1,(x.2.1,(lApp [] x.2.2))))))) (alt2 (chk (room (0+x.2.2.length) 24) (joinX (loopX (Zfe x) ([],0)) (fun (z1:(List ((List UInt8)×((Int×(List UInt8))×((Int×(List UInt8))×(Int×Bool))))))=>(some (z1,(x.2.1,(lApp [] x.2.2))))))) (chk (room (0+x.2.2.length) 24) (joinX (loopX (Zff x) ([],0)) (fun (z1:(List ((List UInt8)×((Int×(List UInt8))×((Int×(List UInt8))×(Int×Bool))))))=>(some (z1,(x.2.1,(lApp [] x.2.2)))))))))):=rfl
theorem Zgh (x:(((List ((List UInt8)×((Int×(List UInt8))×((Int×(List UInt8))×(Int×Bool)))))×(Int×(List (Int×(Int×Int)))))×(Int×(((List UInt8)×((Int×(List UInt8))×((Int×(List UInt8))×(Int×Bool))))×((List UInt8)×(Int×(Int×(Int×Int)))))))):Zeo x=((bnd (Zbv (x.1,1048576)) (fun z1=>(cnd (iLt z1 0) (some true) (bnd (Zbw (x.2,z1)) (fun z2=>(cnd (iLt z2 0) (some true) (alt2 (bnd (Za x.1) (fun z3=>(bnd (Zb x.2) (fun z4=>(bnd (Zo (z3,z4)) (fun z5=>(bnd (Za x.1) (fun z6=>(bnd (Zb x.2) (fun z7=>(bnd (Ze (z6,z7)) (fun z8=>(bnd (Zc (z8.1,z5.1)) (fun z9=>(cnd (bNot z9) (some false) (cnd (bNe z8.2 z5.2) (some false) (bnd (Za x.1) (fun z10=>(bnd (Zc (z6,z10)) (fun z11=>(cnd (bNot z11) (some false) (bnd (Zb x.2) (fun z12=>(bnd (Zq (z7,z12)) (fun z13=>(cnd (bNot z13) (some false) (bnd (Zk (z6,1)) (fun z14=>(chk (nEq z14.2.1.length z6.1.length) (chk (nEq z14.2.2.length z6.2.2.length) (bnd (Zr (z7,z14.1)) (fun z15=>(chk (nEq z15.2.1.length z7.2.1.2.1.2.length) (chk (nEq z15.2.2.length z7.2.1.2.2.1.2.length) (cnd (iLt z15.1 0) (some false) (bnd (Zc (z8.1,z5.1)) (fun z16=>(cnd (bNot z16) (some false) (cnd (bNe z8.2 z5.2) (some false) (bnd (Zk (z8.1,1)) (fun z17=>(chk (nEq z17.2.1.length z8.1.1.length) (chk (nEq z17.2.2.length z8.1.2.2.length) (bnd (Zf ((z17.2.1,(z8.1.2.1,z17.2.2)),1)) (fun z18=>(cnd (iLt z18 0) (some false) (cnd (iNe z18 z17.1) (some false) (alt2 (bnd (Za x.1) (fun z19=>(bnd (Zb x.2) (fun z20=>(bnd (Ze (z19,z20)) (fun z21=>(bnd (Zc (z21.1,z5.1)) (fun z22=>(cnd (bNot z22) (some false) (cnd (bNe z21.2 z5.2) (some false) (bnd (Zf ((z17.2.1,(z8.1.2.1,z17.2.2)),1)) (fun z23=>(cnd (iLt z23 0) (some false) (cnd (iNe z23 z17.1) (some false) (some true))))))))))))))) (alt2 (bnd (Za x.1) (fun z19=>(bnd (Zb x.2) (fun z20=>(bnd (Ze (z19,z20)) (fun z21=>(bnd (Zc (z21.1,z5.1)) (fun z22=>(cnd (bNot z22) (some false) (cnd (bNe z21.2 z5.2) (some false) (bnd (Zf ((z17.2.1,(z8.1.2.1,z17.2.2)),1)) (fun z23=>(cnd (iLt z23 0) (some false) (cnd (iNe z23 z17.1) (some false) (some true))))))))))))))) (alt2 (bnd (Za x.1) (fun z19=>(bnd (Zb x.2) (fun z20=>(bnd (Ze (z19,z20)) (fun z21=>(bnd (Zc (z21.1,z5.1)) (fun z22=>(cnd (bNot z22) (some false) (cnd (bNe z21.2 z5.2) (some false) (bnd (Zf ((z17.2.1,(z8.1.2.1,z17.2.2)),1)) (fun z23=>(cnd (iLt z23 0) (some false) (cnd (iNe z23 z17.1) (some false) (some true))))))))))))))) (bnd (Za x.1) (fun z19=>(bnd (Zb x.2) (fun z20=>(bnd (Ze (z19,z20)) (fun z21=>(bnd (Zc (z21.1,z5.1)) (fun z22=>(cnd (bNot z22) (some false) (cnd (bNe z21.2 z5.2) (some false) (bnd (Zf ((z17.2.1,(z8.1.2.1,z17.2.2)),1)) (fun z23=>(cnd (iLt z23 0) (some false) (cnd (iNe z23 z17.1) (some false) (some true))))))))))))))))))))))))))))))))))))))))))))))))))))))))))))))))) (alt2 (bnd (Za x.1) (fun z3=>(bnd (Zb x.2) (fun z4=>(bnd (Zo (z3,z4)) (fun z5=>(bnd (Za x.1) (fun z6=>(bnd (Zb x.2) (fun z7=>(bnd (Ze (z6,z7)) (fun z8=>(bnd (Zc (z8.1,z5.1)) (fun z9=>(cnd (bNot z9) (some false) (cnd (bNe z8.2 z5.2) (some false) (bnd (Za x.1) (fun z10=>(bnd (Zc (z6,z10)) (fun z11=>(cnd (bNot z11) (some false) (bnd (Zb x.2) (fun z12=>(bnd (Zq (z7,z12)) (fun z13=>(cnd (bNot z13) (some false) (bnd (Zk (z6,1)) (fun z14=>(chk (nEq z14.2.1.length z6.1.length) (chk (nEq z14.2.2.length z6.2.2.length) (bnd (Zr (z7,z14.1)) (fun z15=>(chk (nEq z15.2.1.length z7.2.1.2.1.2.length) (chk (nEq z15.2.2.length z7.2.1.2.2.1.2.length) (cnd (iLt z15.1 0) (some false) (bnd (Zc (z8.1,z5.1)) (fun z16=>(cnd (bNot z16) (some false) (cnd (bNe z8.2 z5.2) (some false) (bnd (Zk (z8.1,1)) (fun z17=>(chk (nEq z17.2.1.length z8.1.1.length) (chk (nEq z17.2.2.length z8.1.2.2.length) (bnd (Zf ((z17.2.1,(z8.1.2.1,z17.2.2)),1)) (fun z18=>(cnd (iLt z18 0) (some false) (cnd (iNe z18 z17.1) (some false) (alt2 (bnd (Za x.1) (fun z19=>(bnd (Zb x.2) (fun z20=>(bnd (Ze (z19,z20)) (fun z21=>(bnd (Zc (z21.1,z5.1)) (fun z22=>(cnd (bNot z22) (some false) (cnd (bNe z21.2 z5.2) (some false) (bnd (Zf ((z17.2.1,(z8.1.2.1,z17.2.2)),1)) (fun z23=>(cnd (iLt z23 0) (some false) (cnd (iNe z23 z17.1) (some false) (some true))))))))))))))) (alt2 (bnd (Za x.1) (fun z19=>(bnd (Zb x.2) (fun z20=>(bnd (Ze (z19,z20)) (fun z21=>(bnd (Zc (z21.1,z5.1)) (fun z22=>(cnd (bNot z22) (some false) (cnd (bNe z21.2 z5.2) (some false) (bnd (Zf ((z17.2.1,(z8.1.2.1,z17.2.2)),1)) (fun z23=>(cnd (iLt z23 0) (some false) (cnd (iNe z23 z17.1) (some false) (some true))))))))))))))) (alt2 (bnd (Za x.1) (fun z19=>(bnd (Zb x.2) (fun z20=>(bnd (Ze (z19,z20)) (fun z21=>(bnd (Zc (z21.1,z5.1)) (fun z22=>(cnd (bNot z22) (some false) (cnd (bNe z21.2 z5.2) (some false) (bnd (Zf ((z17.2.1,(z8.1.2.1,z17.2.2)),1)) (fun z23=>(cnd (iLt z23 0) (some false) (cnd (iNe z23 z17.1) (some false) (some true))))))))))))))) (bnd (Za x.1) (fun z19=>(bnd (Zb x.2) (fun z20=>(bnd (Ze (z19,z20)) (fun z21=>(bnd (Zc (z21.1,z5.1)) (fun z22=>(cnd (bNot z22) (some false) (cnd (bNe z21.2 z5.2) (some false) (bnd (Zf ((z17.2.1,(z8.1.2.1,z17.2.2)),1)) (fun z23=>(cnd (iLt z23 0) (some false) (cnd (iNe z23 z17.1) (some false) (some true))))))))))))))))))))))))))))))))))))))))))))))))))))))))))))))))) (alt2 (bnd (Za x.1) (fun z3=>(bnd (Zb x.2) (fun z4=>(bnd (Zo (z3,z4)) (fun z5=>(bnd (Za x.1) (fun z6=>(bnd (Zb x.2) (fun z7=>(bnd (Ze (z6,z7)) (fun z8=>(bnd (Zc (z8.1,z5.1)) (fun z9=>(cnd (bNot z9) (some false) (cnd (bNe z8.2 z5.2) (some false) (bnd (Za x.1) (fun z10=>(bnd (Zc (z6,z10)) (fun z11=>(cnd (bNot z11) (some false) (bnd (Zb x.2) (fun z12=>(bnd (Zq (z7,z12)) (fun z13=>(cnd (bNot z13) (some false) (bnd (Zk (z6,1)) (fun z14=>(chk (nEq z14.2.1.length z6.1.length) (chk (nEq z14.2.2.length z6.2.2.length) (bnd (Zr (z7,z14.1)) (fun z15=>(chk (nEq z15.2.1.length z7.2.1.2.1.2.length) (chk (nEq z15.2.2.length z7.2.1.2.2.1.2.length) (cnd (iLt z15.1 0) (some false) (bnd (Zc (z8.1,z5.1)) (fun z16=>(cnd (bNot z16) (some false) (cnd (bNe z8.2 z5.2) (some false) (bnd (Zk (z8.1,1)) (fun z17=>(chk (nEq z17.2.1.length z8.1.1.length) (chk (nEq z17.2.2.length z8.1.2.2.length) (bnd (Zf ((z17.2.1,(z8.1.2.1,z17.2.2)),1)) (fun z18=>(cnd (iLt z18 0) (some false) (cnd (iNe z18 z17.1) (some false) (alt2 (bnd (Za x.1) (fun z19=>(bnd (Zb x.2) (fun z20=>(bnd (Ze (z19,z20)) (fun z21=>(bnd (Zc (z21.1,z5.1)) (fun z22=>(cnd (bNot z22) (some false) (cnd (bNe z21.2 z5.2) (some false) (bnd (Zf ((z17.2.1,(z8.1.2.1,z17.2.2)),1)) (fun z23=>(cnd (iLt z23 0) (some false) (cnd (iNe z23 z17.1) (some false) (some true))))))))))))))) (alt2 (bnd (Za x.1) (fun z19=>(bnd (Zb x.2) (fun z20=>(bnd (Ze (z19,z20)) (fun z21=>(bnd (Zc (z21.1,z5.1)) (fun z22=>(cnd (bNot z22) (some false) (cnd (bNe z21.2 z5.2) (some false) (bnd (Zf ((z17.2.1,(z8.1.2.1,z17.2.2)),1)) (fun z23=>(cnd (iLt z23 0) (some false) (cnd (iNe z23 z17.1) (some false) (some true))))))))))))))) (alt2 (bnd (Za x.1) (fun z19=>(bnd (Zb x.2) (fun z20=>(bnd (Ze (z19,z20)) (fun z21=>(bnd (Zc (z21.1,z5.1)) (fun z22=>(cnd (bNot z22) (some false) (cnd (bNe z21.2 z5.2) (some false) (bnd (Zf ((z17.2.1,(z8.1.2.1,z17.2.2)),1)) (fun z23=>(cnd (iLt z23 0) (some false) (cnd (iNe z23 z17.1) (some false) (some true))))))))))))))) (bnd (Za x.1) (fun z19=>(bnd (Zb x.2) (fun z20=>(bnd (Ze (z19,z20)) (fun z21=>(bnd (Zc (z21.1,z5.1)) (fun z22=>(cnd (bNot z22) (some false) (cnd (bNe z21.2 z5.2) (some false) (bnd (Zf ((z17.2.1,(z8.1.2.1,z17.2.2)),1)) (fun z23=>(cnd (iLt z23 0) (some false) (cnd (iNe z23 z17.1) (some false) (some true))))))))))))))))))))))))))))))))))))))))))))))))))))))))))))))))) (bnd (Za x.1) (fun z3=>(bnd (Zb x.2) (fun z4=>(bnd (Zo (z3,z4)) (fun z5=>(bnd (Za x.1) (fun z6=>(bnd (Zb x.2) (fun z7=>(bnd (Ze (z6,z7)) (fun z8=>(bnd (Zc (z8.1,z5.1)) (fun z9=>(cnd (bNot z9) (some false) (cnd (bNe z8.2 z5.2) (some false) (bnd (Za x.1) (fun z10=>(bnd (Zc (z6,z10)) (fun z11=>(cnd (bNot z11) (some false) (bnd (Zb x.2) (fun z12=>(bnd (Zq (z7,z12)) (fun z13=>(cnd (bNot z13) (some false) (bnd (Zk (z6,1)) (fun z14=>(chk (nEq z14.2.1.length z6.1.length) (chk (nEq z14.2.2.length z6.2.2.length) (bnd (Zr (z7,z14.1)) (fun z15=>(chk (nEq z15.2.1.length z7.2.1.2.1.2.length) (chk (nEq z15.2.2.length z7.2.1.2.2.1.2.length) (cnd (iLt z15.1 0) (some false) (bnd (Zc (z8.1,z5.1)) (fun z16=>(cnd (bNot z16) (some false) (cnd (bNe z8.2 z5.2) (some false) (bnd (Zk (z8.1,1)) (fun z17=>(chk (nEq z17.2.1.length z8.1.1.length) (chk (nEq z17.2.2.length z8.1.2.2.length) (bnd (Zf ((z17.2.1,(z8.1.2.1,z17.2.2)),1)) (fun z18=>(cnd (iLt z18 0) (some false) (cnd (iNe z18 z17.1) (some false) (alt2 (bnd (Za x.1) (fun z19=>(bnd (Zb x.2) (fun z20=>(bnd (Ze (z19,z20)) (fun z21=>(bnd (Zc (z21.1,z5.1)) (fun z22=>(cnd (bNot z22) (some false) (cnd (bNe z21.2 z5.2) (some false) (bnd (Zf ((z17.2.1,(z8.1.2.1,z17.2.2)),1)) (fun z23=>(cnd (iLt z23 0) (some false) (cnd (iNe z23 z17.1) (some false) (some true))))))))))))))) (alt2 (bnd (Za x.1) (fun z19=>(bnd (Zb x.2) (fun z20=>(bnd (Ze (z19,z20)) (fun z21=>(bnd (Zc (z21.1,z5.1)) (fun z22=>(cnd (bNot z22) (some false) (cnd (bNe z21.2 z5.2) (some false) (bnd (Zf ((z17.2.1,(z8.1.2.1,z17.2.2)),1)) (fun z23=>(cnd (iLt z23 0) (some false) (cnd (iNe z23 z17.1) (some false) (some true))))))))))))))) (alt2 (bnd (Za x.1) (fun z19=>(bnd (Zb x.2) (fun z20=>(bnd (Ze (z19,z20)) (fun z21=>(bnd (Zc (z21.1,z5.1)) (fun z22=>(cnd (bNot z22) (some false) (cnd (bNe z21.2 z5.2) (some false) (bnd (Zf ((z17.2.1,(z8.1.2.1,z17.2.2)),1)) (fun z23=>(cnd (iLt z23 0) (some false) (cnd (iNe z23 z17.1) (some false) (some true))))))))))))))) (bnd (Za x.1) (fun z19=>(bnd (Zb x.2) (fun z20=>(bnd (Ze (z19,z20)) (fun z21=>(bnd (Zc (z21.1,z5.1)) (fun z22=>(cnd (bNot z22) (some false) (cnd (bNe z21.2 z5.2) (some false) (bnd (Zf ((z17.2.1,(z8.1.2.1,z17.2.2)),1)) (fun z23=>(cnd (iLt z23 0) (some false) (cnd (iNe z23 z17.1) (some false) (some true))))))))))))))))))))))))))))))))))))))))))))))))))))))))))))))))))))))))))):=rfl
abbrev RowH:=List UInt8×(Int×Option (List UInt8))×(Int×Option (List UInt8))×Int×Bool
abbrev tyR:Ty:=.P .S (.P (.P (.I .i64) (.L .Y)) (.P (.P (.I .i64) (.L .Y)) (.P (.I .i64) .B)))
abbrev tyRH:Ty:=.P .S (.P (.P (.I .i64) (.H .Y)) (.P (.P (.I .i64) (.H .Y)) (.P (.I .i64) .B)))
def upR (r:Row):RowH:=(r.1,((r.2.1.1,some r.2.1.2),((r.2.2.1.1,some r.2.2.1.2),r.2.2.2)))
def goneR (r:Row):RowH:=(r.1,((r.2.1.1,none),((r.2.2.1.1,none),r.2.2.2)))
theorem cvL_up:∀l:List Row,cvL tyR tyRH l=some (l.map upR)
 | []=>rfl
 | r::l=>by
  have e:cv tyR tyRH r=some (upR r):=rfl
  simp only[cvL,e,cvL_up l,List.map_cons]
theorem cvL_dn:∀l:List Row,cvL tyRH tyR (l.map upR)=some l
 | []=>rfl
 | r::l=>by
  have e:cv tyRH tyR (upR r)=some r:=rfl
  simp only[List.map_cons,cvL,e,cvL_dn l]
def mvR (l:List Row) (k:Nat):List RowH:=mvW tyR 0 k l
theorem mvR_eq (l:List Row) (k:Nat):mvR l k=(l.take k).map goneR++(l.drop k).map upR:=by
 have e:mvR l k=(l.take k).map goneR++(l.drop (0+k)).map upR:=rfl
 rw[e,Nat.zero_add]
theorem mvR_drop (l:List Row) (k:Nat):(mvR l k).drop (k+1)=(l.drop (k+1)).map upR:=by
 rw[mvR_eq,List.drop_append,List.drop_of_length_le (by simp;omega),List.nil_append,List.length_map,List.length_take,<-List.map_drop,List.drop_drop]
 by_cases h:k<=l.length
 ·rw[Nat.min_eq_left h,show k+(k+1-k)=k+1 by omega]
 ·rw[List.drop_of_length_le (by omega),List.drop_of_length_le (by omega)]
theorem mvW_ln (l:List Row) (k:Nat) (h:k<=l.length):(mvW tyR 0 k l).length=l.length:=mvW_len tyR 0 k l (by omega)
theorem mvW_cv (l:List Row) (k n:Nat):cvL tyRH tyR (lTake n (lDrop (k+1) (mvW tyR 0 k l)))=some ((l.drop (k+1)).take n):=by
 have e:cvL tyRH tyR (((mvR l k).drop (k+1)).take n)=some ((l.drop (k+1)).take n):=by
  rw[mvR_drop,<-List.map_take,cvL_dn]
 exact e
def wrF (r:Row) (s:List Row×Bool) (x:Row):List Row×Bool :=
 let s1:=if (!s.2&&!(sLt x.1 r.1))=true then (s.1++[r],true) else s
 if sEq x.1 r.1=true then s1 else (s1.1++[x],s1.2)
def wrS (l:List Row) (r:Row) (i:Nat):List Row×Bool:=(l.take i).foldl (wrF r) ([],false)
def wrR (l:List Row) (r:Row):List Row:=if (wrS l r l.length).2=true then (wrS l r l.length).1 else (wrS l r l.length).1++[r]
def hsS (l:List Row) (r:Row) (i:Nat):List RowH:=(l.take i).map (fun x=>if sEq x.1 r.1=true then upR x else goneR x)++(l.drop i).map upR
theorem wrS_s {l:List Row}{r:Row}{i:Nat}(h:i<l.length):wrS l r (i+1)=wrF r (wrS l r i) l[i]:=by
 unfold wrS
 rw[List.take_succ_eq_append_getElem h,List.foldl_append];rfl
theorem wrS_len (l:List Row) (r:Row):∀i,i<=l.length->(wrS l r i).1.length+(if (wrS l r i).2=true then 0 else 1)<=i+1
 | 0,_=>by simp [wrS]
 | i+1,h=>by
  have ih:=wrS_len l r i (by omega)
  rw[wrS_s (by omega)]
  generalize wrS l r i=s at ih
  obtain⟨o,p⟩:=s
  unfold wrF
  cases p<;>cases sLt l[i].1 r.1<;>cases sEq l[i].1 r.1<;>simp at ih ⊢<;>omega
theorem wrS_mem (l:List Row) (r:Row):∀i,i<=l.length->∀x∈(wrS l r i).1,x=r\/x∈l
 | 0,_,x,hx=>by simp [wrS]at hx
 | i+1,h,x,hx=>by
  have ih:=wrS_mem l r i (by omega)
  rw[wrS_s (by omega)]at hx
  generalize wrS l r i=s at ih hx
  obtain⟨o,p⟩:=s
  have hm:=List.getElem_mem (show i<l.length by omega)
  have key:x∈o\/x=r\/x=l[i]:=by
   revert hx
   unfold wrF
   cases p<;>cases sLt l[i].1 r.1<;>cases sEq l[i].1 r.1<;>simp<;>intro hx<;>first|exact .inl hx|(rcases hx with h|h|h<;>simp [h])|(rcases hx with h|h<;>simp [h])
  rcases key with h|h|h
  ·exact ih x h
  ·exact .inl h
  ·exact .inr (h ▸ hm)
theorem wrR_len (l:List Row) (r:Row):(wrR l r).length<=l.length+1:=by
 have:=wrS_len l r l.length (Nat.le_refl _)
 unfold wrR
 split
 ·omega
 ·rename_i h;rw[if_neg h]at this;simp;omega
theorem wrR_mem {l:List Row}{r x:Row}(h:x∈wrR l r):x=r\/x∈l:=by
 unfold wrR at h
 split at h
 ·exact wrS_mem l r _ (Nat.le_refl _) x h
 ·rcases List.mem_append.1 h with h|h
  ·exact wrS_mem l r _ (Nat.le_refl _) x h
  ·exact .inl (by simpa using h)
theorem hsS_len {l:List Row}{r:Row}{i:Nat}(h:i<=l.length):(hsS l r i).length=l.length:=by
 simp only[hsS,List.length_append,List.length_map,List.length_take,List.length_drop];omega
theorem hsS_at {l:List Row}{r:Row}{i:Nat}(h:i<l.length):(hsS l r i)[i]? = some (upR l[i]):=by
 unfold hsS
 rw[List.getElem?_append_right (by simp;omega)]
 simp only[List.length_map,List.length_take]
 rw[show i-min i l.length=0 by omega,List.getElem?_map,List.getElem?_drop,Nat.add_zero,List.getElem?_eq_getElem h];rfl
theorem hsS_set {l:List Row}{r:Row}{i:Nat}(h:i<l.length):(hsS l r i).set i (if sEq l[i].1 r.1=true then upR l[i] else goneR l[i])=hsS l r (i+1):=by
 unfold hsS
 rw[List.set_append_right _ _ (by simp;omega),List.drop_eq_getElem_cons h,List.take_succ_eq_append_getElem h]
 simp only[List.length_map,List.length_take,List.map_cons,List.map_append,List.map_nil,List.append_assoc]
 rw[show i-min i l.length=0 by omega]
 rfl
theorem hsS_same {l:List Row}{r:Row}{i:Nat}(h:i<l.length) (he:sEq l[i].1 r.1=true):hsS l r i=hsS l r (i+1):=by
 rw[<-hsS_set h,if_pos he]
 apply List.ext_getElem?
 intro j
 rw[List.getElem?_set]
 split
 ·rename_i e;subst e
  rw[if_pos (by rw[hsS_len (by omega)];exact h)];exact hsS_at h
 ·rfl
theorem hsS_gone {l:List Row}{r:Row}{i:Nat}(h:i<l.length) (he:sEq l[i].1 r.1=false):(hsS l r i).set i (goneR l[i])=hsS l r (i+1):=by
 rw[<-hsS_set h,if_neg (by simp [he])]
theorem s_l12Row {l:List Row}{r:Row}(hl:l.length<=1048576) (hr:smR 1048576 r):Zbo (l.map upR,r)=some (wrR l r):=by
 have hc:=sCopyRow_ok hr
 have lp:loopX (Zeb (l.map upR,r)) (l.map upR,([],(false,0)))=some (.inl (wrS l r l.length)):=by
  refine loop_exact (fun i=>(hsS l r i,((wrS l r i).1,((wrS l r i).2,(i:Int))))) l.length _ (fun i hi=>?_) ?_ _ (by simp [hsS,wrS])
  ·have hln:(hsS l r i).length=l.length:=hsS_len (by omega)
   have hat:=hsS_at (r:=r) hi
   have hw:=wrS_len l r i (by omega)
   have hat2:∀X,((hsS l r i).set i X)[i]? = some X:=fun X=>List.getElem?_set_self (by omega)
   have hg:=hsS_gone (r:=r) hi
   have hsm:=hsS_same (r:=r) hi
   rw[Zfk]
   simp only[wrS_s hi,wrF]
   rw[iLt_y (by rw[lLen_def,hln];omega),cnd_t]
   simp only[idx_n,idx_ofNat,nOf_n,hat,bnd_s,lSet,hat2,List.set_set,lApp]
   generalize wrS l r i=s at hw
   obtain⟨o,p⟩:=s
   simp only at hw
   have r1:room (o.length+1) 96=true:=room_ok (by split at hw<;>omega)
   have r2:room ((o++[r]).length+1) 96=true:=room_ok (by simp;split at hw<;>omega)
   have e1:(upR l[i]).1=l[i].1:=rfl
   have e2:hSome (upR l[i]).2.1.2=true:=rfl
   have e3:hSome (upR l[i]).2.2.1.2=true:=rfl
   have e4:(l[i].1,((upR l[i]).2.1.1,hGet (upR l[i]).2.1.2),((upR l[i]).2.2.1.1,hGet (upR l[i]).2.2.1.2),(upR l[i]).2.2.2)=l[i]:=rfl
   have e5:(l[i].1,((upR l[i]).2.1.1,none),((upR l[i]).2.2.1.1,none),(upR l[i]).2.2.2)=goneR l[i]:=rfl
   simp only[e1,e2,e3,e4,e5,chk_t,hc,bnd_s,iAdd_1 (show i<9223372036854775807 by omega)]
   cases p<;>cases hlt:sLt l[i].1 r.1<;>cases heq:sEq l[i].1 r.1 <;>
    simp only[bNot_t,bNot_f,cnd_t,cnd_f,bnd_s,r1,r2,chk_t,joinX_l,Bool.not_true,Bool.not_false,Bool.and_true,Bool.and_false,Bool.true_and,Bool.false_and,if_true,Bool.false_eq_true,if_false] <;>
    first
     | rw[<-hsm heq]
     | rw[hg heq]
  ·rw[Zfk]
   simp only
   rw[iLt_n (by rw[lLen_def,hsS_len (Nat.le_refl _)];omega),cnd_f]
 rw[Zga]
 simp only
 rw[lp,joinX_l,hc,bnd_s]
 have hw:=wrS_len l r l.length (Nat.le_refl _)
 unfold wrR
 cases hp:(wrS l r l.length).2 with
 | true=>rw[bNot_t,cnd_f,joinX_l,if_pos rfl]
 | false =>
  rw[hp]at hw
  rw[bNot_f,cnd_t,room_ok (by simp at hw;omega),chk_t,joinX_l,if_neg (by simp)];rfl
theorem i_withRow {l:List Row}{r:Row}(hl:l.length<=1048576) (hr:smR 1048576 r):Zbr (l.map upR,r)=some (wrR l r):=by
 have hc:=iCopyRow_ok hr
 have lp:loopX (Zej (l.map upR,r)) ([],(false,(l.map upR,0)))=some (.inl (wrS l r l.length)):=by
  refine loop_exact (fun i=>((wrS l r i).1,((wrS l r i).2,(hsS l r i,(i:Int))))) l.length _ (fun i hi=>?_) ?_ _ (by simp [hsS,wrS])
  ·have hln:(hsS l r i).length=l.length:=hsS_len (by omega)
   have hat:=hsS_at (r:=r) hi
   have hw:=wrS_len l r i (by omega)
   have hat2:∀X,((hsS l r i).set i X)[i]? = some X:=fun X=>List.getElem?_set_self (by omega)
   have hg:=hsS_gone (r:=r) hi
   have hsm:=hsS_same (r:=r) hi
   rw[Zfj]
   simp only[wrS_s hi,wrF]
   rw[iLt_y (by rw[lLen_def,List.length_map];omega),cnd_t]
   simp only[idx_n,idx_ofNat,nOf_n,hat,bnd_s,lSet,hat2,List.set_set,lApp]
   generalize wrS l r i=s at hw
   obtain⟨o,p⟩:=s
   simp only at hw
   have r1:room (o.length+1) 96=true:=room_ok (by split at hw<;>omega)
   have r2:room ((o++[r]).length+1) 96=true:=room_ok (by simp;split at hw<;>omega)
   have e1:(upR l[i]).1=l[i].1:=rfl
   have e2:hSome (upR l[i]).2.1.2=true:=rfl
   have e3:hSome (upR l[i]).2.2.1.2=true:=rfl
   have e4:(l[i].1,((upR l[i]).2.1.1,hGet (upR l[i]).2.1.2),((upR l[i]).2.2.1.1,hGet (upR l[i]).2.2.1.2),(upR l[i]).2.2.2)=l[i]:=rfl
   have e5:(l[i].1,((upR l[i]).2.1.1,none),((upR l[i]).2.2.1.1,none),(upR l[i]).2.2.2)=goneR l[i]:=rfl
   simp only[e1,e2,e3,e4,e5,chk_t,hc,bnd_s,iAdd_1 (show i<9223372036854775807 by omega)]
   cases p<;>cases hlt:sLt l[i].1 r.1<;>cases heq:sEq l[i].1 r.1 <;>
    simp only[bNot_t,bNot_f,cnd_t,cnd_f,bnd_s,r1,r2,chk_t,joinX_l,Bool.not_true,Bool.not_false,Bool.and_true,Bool.and_false,Bool.true_and,Bool.false_and,if_true,Bool.false_eq_true,if_false] <;>
    first
     | rw[<-hsm heq]
     | rw[hg heq]
  ·rw[Zfj]
   simp only
   rw[iLt_n (by rw[lLen_def,List.length_map];omega),cnd_f]
 rw[Zfz]
 simp only
 rw[lp,joinX_l,hc,bnd_s]
 have hw:=wrS_len l r l.length (Nat.le_refl _)
 unfold wrR
 cases hp:(wrS l r l.length).2 with
 | true=>rw[bNot_t,cnd_f,joinX_l,if_pos rfl]
 | false =>
  rw[hp]at hw
  rw[bNot_f,cnd_t,room_ok (by simp at hw;omega),chk_t,joinX_l,if_neg (by simp)];rfl
end
end Go.Vs
