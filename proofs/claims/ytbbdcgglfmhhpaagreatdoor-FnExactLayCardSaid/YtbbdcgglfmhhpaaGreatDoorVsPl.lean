import Derived.Test.YtbbdcgglfmhhpaaGreatDoorVsW5
set_option linter.all false
namespace Go.Vs
noncomputable section
def gFirst:List UInt8:=[240,240,240,240,240,240,240,240,240,240,240,240,240,240,240,240,240,240,240,240,240,240,240,240,240,240,240,240,240,240,
 240,240,240,240,240,240,240,240,240,240,240,240,240,240,240,240,240,240,240,240,240,240,240,240,240,240,240,240,240,240,240,240,240,240,240,
 240,240,240,240,240,240,240,240,240,240,240,240,240,240,240,240,240,240,240,240,240,240,240,240,240,240,240,240,240,240,240,240,240,240,240,
 240,240,240,240,240,240,240,240,240,240,240,240,240,240,240,240,240,240,240,240,240,240,240,240,240,240,240,240,241,241,241,241,241,241,241,
 241,241,241,241,241,241,241,241,241,241,241,241,241,241,241,241,241,241,241,241,241,241,241,241,241,241,241,241,241,241,241,241,241,241,241,
 241,241,241,241,241,241,241,241,241,241,241,241,241,241,241,241,241,241,241,241,241,241,241,241,2,2,2,2,2,2,2,2,2,2,2,2,2,2,2,2,2,2,2,
 2,2,2,2,2,2,2,2,2,2,2,19,3,3,3,3,3,3,3,3,3,3,3,3,35,3,3,52,4,4,4,68,241,241,241,241,241,241,241,241,241,241,241]
def gAcc:List UInt8:=[128,191,160,191,128,159,144,191,128,143,0,0,0,0,0,0,0,0,0,0,0,0,0,0,0,0,0,0,0,0,0,0]
instance glbI:Glb:=⟨[(0,gFirst),(1,gAcc)]⟩
def Zbv (x:((List UInt8)×Int)):(Option Int):=(cnd (iLt (iSub .i64 x.2 (lLen x.1)) 0) (some (-1)) (some (iSub .i64 x.2 (lLen x.1))))
def Zht (x:((List (List UInt8))×Int)):(Int×Int)->Option ((Int×Int) ⊕ (Int ⊕ Int)):=fun (z1:(Int×Int))=>(cnd (iLt z1.2 (lLen x.1)) (bnd
 (idx x.1 z1.2) (fun z2=>(bnd (Zbv (z2,z1.1)) (fun z3=>(cnd (iLt z3 0) (some (.inr (.inr (-1)))) (some (.inl (z3,(iAdd .i64 z1.2 1)))))))))
 (some (.inr (.inl z1.1))))
def Zfl (x:((List (List UInt8))×Int)):(Option Int):=(cnd (iLt (iSub .i64 x.2 (lLen x.1)) 0) (some (-1)) (joinX (loopX (Zht x) ((iSub .i64
 x.2 (lLen x.1)),0)) (fun (z1:Int)=>(some z1))))
def Zdx (x:((Int×(List UInt8))×Int)):(Option Int):=(bnd (Zbv (x.1.2,x.2)) (fun z1=>(cnd (iLt z1 0) (some (-1)) (some z1))))
def Zhu (x:((List (Int×(List UInt8)))×Int)):(Int×Int)->Option ((Int×Int) ⊕ (Int ⊕ Int)):=fun (z1:(Int×Int))=>(cnd (iLt z1.2 (lLen x.1))
 (bnd (idx x.1 z1.2) (fun z2=>(bnd (Zdx ((z2.1,z2.2),z1.1)) (fun z3=>(cnd (iLt z3 0) (some (.inr (.inr (-1)))) (some (.inl (z3,(iAdd
 .i64 z1.2 1))))))))) (some (.inr (.inl z1.1))))
def Zfm (x:((List (Int×(List UInt8)))×Int)):(Option Int):=(cnd (iLt (iSub .i64 x.2 (lLen x.1)) 0) (some (-1)) (joinX (loopX (Zhu x) ((iSub
 .i64 x.2 (lLen x.1)),0)) (fun (z1:Int)=>(some z1))))
def Zdy (x:(((List (List UInt8))×((List (Int×(List UInt8)))×(Int×Bool)))×Int)):(Option Int):=(bnd (Zfl (x.1.1,x.2)) (fun z1 =>
 (cnd (iLt z1 0) (some (-1)) (bnd (Zfm (x.1.2.1,z1)) (fun z2=>(cnd (iLt z2 0) (some (-1)) (some z2)))))))
def Zdz (x:((Int×(List UInt8))×Int)):(Option Int):=(bnd (Zbv (x.1.2,x.2)) (fun z1=>(cnd (iLt z1 0) (some (-1)) (some z1))))
def Zcg (x:(((List UInt8)×((Int×(List UInt8))×((Int×(List UInt8))×(Int×Bool))))×Int)):(Option Int):=(cnd (iLt (iSub .i64 x.2 (lLen x.1.1))
 0) (some (-1)) (bnd (Zdz ((x.1.2.1.1,x.1.2.1.2),(iSub .i64 x.2 (lLen x.1.1)))) (fun z1=>(cnd (iLt z1 0) (some (-1)) (bnd (Zdz ((x.1.2.2.1.1,
 x.1.2.2.1.2),z1)) (fun z2=>(cnd (iLt z2 0) (some (-1)) (some z2))))))))
def Zhv (x:((List ((List UInt8)×((Int×(List UInt8))×((Int×(List UInt8))×(Int×Bool)))))×Int)):(Int×Int)->Option ((Int×Int) ⊕ (Int ⊕
 Int)):=fun (z1:(Int×Int))=>(cnd (iLt z1.2 (lLen x.1)) (bnd (idx x.1 z1.2) (fun z2 =>
 (bnd (Zcg ((z2.1,((z2.2.1.1,z2.2.1.2),((z2.2.2.1.1,z2.2.2.1.2),(z2.2.2.2.1,z2.2.2.2.2)))),z1.1)) (fun z3=>(cnd (iLt z3 0) (some (.inr (.inr (-1)))) (some
 (.inl (z3,(iAdd .i64 z1.2 1))))))))) (some (.inr (.inl z1.1))))
def Zea (x:((List ((List UInt8)×((Int×(List UInt8))×((Int×(List UInt8))×(Int×Bool)))))×Int)):(Option Int):=(cnd (iLt (iSub .i64 x.2 (lLen
 x.1)) 0) (some (-1)) (joinX (loopX (Zhv x) ((iSub .i64 x.2 (lLen x.1)),0)) (fun (z1:Int)=>(some z1))))
def Zfn (x:((List (Int×(Int×Int)))×Int)):(Option Int):=(cnd (iLt (iSub .i64 x.2 (lLen x.1)) 0) (some (-1)) (some (iSub .i64 x.2 (lLen x.1))))
def Zeb (x:(((List ((List UInt8)×((Int×(List UInt8))×((Int×(List UInt8))×(Int×Bool)))))×(Int×(List (Int×(Int×Int)))))×Int)):(Option
 Int):=(bnd (Zea (x.1.1,x.2)) (fun z1=>(cnd (iLt z1 0) (some (-1)) (bnd (Zfn (x.1.2.2,z1)) (fun z2=>(cnd (iLt z2 0) (some (-1)) (some
 z2)))))))
def Zch (x:((((List (List UInt8))×((List (Int×(List UInt8)))×(Int×Bool)))×(((List ((List UInt8)×((Int×(List UInt8))×((Int×(List UInt8)) ×
 (Int×Bool)))))×(Int×(List (Int×(Int×Int)))))×(Int×Int)))×Int)):(Option Int):=(bnd (Zdy ((x.1.1.1,(x.1.1.2.1,(x.1.1.2.2.1,x.1.1.2.2.2))),x.2)) (fun
 z1=>(cnd (iLt z1 0) (some (-1)) (bnd (Zeb ((x.1.2.1.1,(x.1.2.1.2.1,x.1.2.1.2.2)),z1)) (fun z2=>(cnd (iLt z2 0) (some (-1)) (some z2)))))))
def Zhw (x:(List UInt8)):((List UInt8)×Int)->Option (((List UInt8)×Int) ⊕ ((List UInt8) ⊕ (List UInt8))):=fun (z1:((List UInt8)×Int))=>(cnd
 (iLt z1.2 (lLen x)) (bnd (idx x z1.2) (fun z2=>(bnd (idx z1.1 z1.2) (fun z3=>(some (.inl ((lSet z1.1 (nOf z1.2) z2),(iAdd .i64 z1.2 1)))))))) (some (.inr
 (.inl z1.1))))
def Zbi (x:(List UInt8)):(Option (List UInt8)):=(chk (iEq (lLen x) (lLen x)) (chk (mkOk (lLen x) 1) (joinX (loopX (Zhw x) ((lRep (nOf (lLen
 x)) 0),0)) (fun (z1:(List UInt8))=>(some z1)))))
def Zhx (x:(List (List UInt8))):((List (List UInt8))×Int)->Option (((List (List UInt8))×Int) ⊕ ((List (List UInt8)) ⊕ (List (List UInt8)))):=fun
 (z1:((List (List UInt8))×Int))=>(cnd (iLt z1.2 (lLen x)) (bnd (idx x z1.2) (fun z2=>(bnd (Zbi z2) (fun z3=>(bnd (idx z1.1
 z1.2) (fun z4=>(some (.inl ((lSet z1.1 (nOf z1.2) z3),(iAdd .i64 z1.2 1)))))))))) (some (.inr (.inl z1.1))))
def Zec (x:(List (List UInt8))):(Option (List (List UInt8))):=(chk (iEq (lLen x) (lLen x)) (chk (mkOk (lLen x) 24) (joinX (loopX (Zhx x)
 ((lRep (nOf (lLen x)) []),0)) (fun (z1:(List (List UInt8)))=>(some z1)))))
def Zed (x:(Int×(List UInt8))):(Option (Int×(List UInt8))):=(bnd (Zbi x.2) (fun z1=>(some (x.1,z1))))
def Zhy (x:(List (Int×(List UInt8)))):((List (Int×(List UInt8)))×Int)->Option (((List (Int×(List UInt8)))×Int) ⊕ ((List (Int×(List UInt8))) ⊕
 (List (Int×(List UInt8))))):=fun (z1:((List (Int×(List UInt8)))×Int))=>(cnd (iLt z1.2 (lLen x)) (bnd (idx x z1.2) (fun z2=>(bnd (Zed
 (z2.1,z2.2)) (fun z3=>(bnd (idx z1.1 z1.2) (fun z4=>(some (.inl ((lSet z1.1 (nOf z1.2) (z3.1,z3.2)),(iAdd .i64 z1.2
 1)))))))))) (some (.inr (.inl z1.1))))
def Zee (x:(List (Int×(List UInt8)))):(Option (List (Int×(List UInt8)))):=(chk (iEq (lLen x) (lLen x)) (chk (mkOk (lLen x) 32) (joinX (loopX
 (Zhy x) ((lRep (nOf (lLen x)) (0,[])),0)) (fun (z1:(List (Int×(List UInt8))))=>(some z1)))))
def Zci (x:((List (List UInt8))×((List (Int×(List UInt8)))×(Int×Bool)))):(Option ((List (List UInt8))×((List (Int×(List UInt8)))×(Int ×
 Bool)))):=(bnd (Zec x.1) (fun z1=>(bnd (Zee x.2.1) (fun z2=>(some (z1,(z2,(x.2.2.1,x.2.2.2))))))))
def Zcj (x:(Int×(List UInt8))):(Option (Int×(List UInt8))):=(bnd (Zbi x.2) (fun z1=>(some (x.1,z1))))
def Zck (x:((List UInt8)×((Int×(List UInt8))×((Int×(List UInt8))×(Int×Bool))))):(Option ((List UInt8)×((Int×(List UInt8))×((Int×(List
 UInt8))×(Int×Bool))))):=(bnd (Zcj (x.2.1.1,x.2.1.2)) (fun z1=>(bnd (Zcj (x.2.2.1.1,x.2.2.1.2)) (fun z2
 => (some (x.1,((z1.1,z1.2),((z2.1,z2.2),(x.2.2.2.1,x.2.2.2.2)))))))))
def Zhz (x:(List ((List UInt8)×((Int×(List UInt8))×((Int×(List UInt8))×(Int×Bool)))))):((List ((List UInt8)×((Int×(List UInt8))×((Int ×
 (List UInt8))×(Int×Bool)))))×Int)->Option (((List ((List UInt8)×((Int×(List UInt8))×((Int×(List UInt8))×(Int×Bool)))))×Int) ⊕ ((List ((List UInt8)×((Int ×
 (List UInt8))×((Int×(List UInt8))×(Int×Bool))))) ⊕ (List ((List UInt8)×((Int×(List UInt8))×((Int×(List UInt8))×(Int×Bool))))))):=fun (z1:((List ((List
 UInt8)×((Int×(List UInt8))×((Int×(List UInt8))×(Int×Bool)))))×Int))=>(cnd (iLt z1.2 (lLen x)) (bnd (idx x z1.2) (fun z2=>(bnd (Zck (z2.1,((z2.2.1.1,z2.2.1.2),((z2.2.2.1.1,z2.2.2.1.2),(z2.2.2.2.1,z2.2.2.2.2))))) (fun z3=>(bnd (idx z1.1 z1.2) (fun z4 =>
 (some (.inl ((lSet z1.1 (nOf z1.2) (z3.1,((z3.2.1.1,z3.2.1.2),((z3.2.2.1.1,z3.2.2.1.2),(z3.2.2.2.1,z3.2.2.2.2))))),(iAdd .i64 z1.2 1)))))))))) (some (.inr (.inl z1.1))))
def Zef (x:(List ((List UInt8)×((Int×(List UInt8))×((Int×(List UInt8))×(Int×Bool)))))):(Option (List ((List UInt8)×((Int×(List UInt8)) ×
 ((Int×(List UInt8))×(Int×Bool)))))):=(chk (iEq (lLen x) (lLen x)) (chk (mkOk (lLen x) 96) (joinX (loopX (Zhz x) ((lRep (nOf (lLen x)) ([],((0,[]),((0,[]),
 (0,false))))),0)) (fun (z1:(List ((List UInt8)×((Int×(List UInt8))×((Int×(List UInt8))×(Int×Bool))))))=>(some z1)))))
def Zfo (x:(Int×(Int×Int))):(Option (Int×(Int×Int))):=(some (x.1,(x.2.1,x.2.2)))
def Zia (x:(List (Int×(Int×Int)))):((List (Int×(Int×Int)))×Int)->Option (((List (Int×(Int×Int)))×Int) ⊕ ((List (Int×(Int×Int))) ⊕
 (List (Int×(Int×Int))))):=fun (z1:((List (Int×(Int×Int)))×Int))=>(cnd (iLt z1.2 (lLen x)) (bnd (idx x z1.2) (fun z2=>(bnd (Zfo
 (z2.1,(z2.2.1,z2.2.2))) (fun z3=>(bnd (idx z1.1 z1.2) (fun z4=>(some (.inl ((lSet z1.1 (nOf z1.2) (z3.1,(z3.2.1,z3.2.2))),
 (iAdd .i64 z1.2 1)))))))))) (some (.inr (.inl z1.1))))
def Zeg (x:(List (Int×(Int×Int)))):(Option (List (Int×(Int×Int)))):=(chk (iEq (lLen x) (lLen x)) (chk (mkOk (lLen x) 24) (joinX (loopX
 (Zia x) ((lRep (nOf (lLen x)) (0,(0,0))),0)) (fun (z1:(List (Int×(Int×Int))))=>(some z1)))))
def Zcl (x:((List ((List UInt8)×((Int×(List UInt8))×((Int×(List UInt8))×(Int×Bool)))))×(Int×(List (Int×(Int×Int)))))):(Option ((List
 ((List UInt8)×((Int×(List UInt8))×((Int×(List UInt8))×(Int×Bool)))))×(Int×(List (Int×(Int×Int)))))):=(bnd (Zef x.1) (fun z1=>(bnd (Zeg x.2.2) (fun z2=>(some (z1,(x.2.1,z2)))))))
def Zl (x:(((List (List UInt8))×((List (Int×(List UInt8)))×(Int×Bool)))×(((List ((List UInt8)×((Int×(List UInt8))×((Int×(List UInt8)) ×
 (Int×Bool)))))×(Int×(List (Int×(Int×Int)))))×(Int×Int)))):(Option (((List (List UInt8))×((List (Int×(List UInt8)))×(Int×Bool)))×(((List ((List UInt8) ×
 ((Int×(List UInt8))×((Int×(List UInt8))×(Int×Bool)))))×(Int×(List (Int×(Int×Int)))))×(Int×Int)))):=(bnd (Zci (x.1.1,(x.1.2.1,(x.1.2.2.1,
 x.1.2.2.2)))) (fun z1=>(bnd (Zcl (x.2.1.1,(x.2.1.2.1,x.2.1.2.2))) (fun z2=>(some ((z1.1,(z1.2.1,(z1.2.2.1,z1.2.2.2))),((z2.1,
 (z2.2.1,z2.2.2)),(x.2.2.1,x.2.2.2))))))))
def Zfp (x:((List (List UInt8))×((List (Int×(List UInt8)))×(Int×Bool)))):((List (List UInt8))×Int)->Option (((List (List UInt8))×Int) ⊕
 ((List (List UInt8)) ⊕ ((List (List UInt8))×((List (Int×(List UInt8)))×(Int×Bool))))):=fun (z1:((List (List UInt8))×Int))=>(cnd (iLt z1.2 (lLen x.1)) (bnd (idx
 x.1 z1.2) (fun z2=>(chk (room (0+z2.length) 1) (chk (room (z1.1.length+1) 24) (some (.inl ((lApp z1.1 [(lApp [] z2)]),(iAdd .i64 z1.2 1)))))))) (some
 (.inr (.inl z1.1))))
def Zfq (x:((List (List UInt8))×((List (Int×(List UInt8)))×(Int×Bool)))):((List (Int×(List UInt8)))×Int)->Option (((List (Int×(List
 UInt8)))×Int) ⊕ ((List (Int×(List UInt8))) ⊕ ((List (List UInt8))×((List (Int×(List UInt8)))×(Int×Bool))))):=fun (z2:((List (Int×(List UInt8)))×Int))=>(cnd
 (iLt z2.2 (lLen x.2.1)) (bnd (idx x.2.1 z2.2) (fun z3=>(bnd (idx x.2.1 z2.2) (fun z4=>(chk (room (0+z4.2.length) 1) (chk
 (room (z2.1.length+1) 32) (some (.inl ((lApp z2.1 [(z3.1,(lApp [] z4.2))]),(iAdd .i64 z2.2 1)))))))))) (some (.inr (.inl z2.1))))
def Zcm (x:((List (List UInt8))×((List (Int×(List UInt8)))×(Int×Bool)))):(Option ((List (List UInt8))×((List (Int×(List UInt8)))×(Int ×
 Bool)))):=(joinX (loopX (Zfp x) ([],0)) (fun (z1:(List (List UInt8)))=>(joinX (loopX (Zfq x) ([],0)) (fun (z2:(List (Int×(List UInt8))))=>(some
 (z1,(z2,(x.2.2.1,x.2.2.2))))))))
def Zcn (x:(Int×(List UInt8))):(Option (Int×(List UInt8))):=(chk (room (0+x.2.length) 1) (some (x.1,(lApp [] x.2))))
def Zp (x:((List UInt8)×((Int×(List UInt8))×((Int×(List UInt8))×(Int×Bool))))):(Option ((List UInt8)×((Int×(List UInt8))×((Int×(List
 UInt8))×(Int×Bool))))):=(bnd (Zcn (x.2.1.1,x.2.1.2)) (fun z1=>(bnd (Zcn (x.2.2.1.1,x.2.2.1.2)) (fun z2
 => (some (x.1,((z1.1,z1.2),((z2.1,z2.2),(x.2.2.2.1,x.2.2.2.2)))))))))
def Zhl (x:((List ((List UInt8)×((Int×(List UInt8))×((Int×(List UInt8))×(Int×Bool)))))×(Int×(List (Int×(Int×Int)))))):((List ((List
 UInt8)×((Int×(List UInt8))×((Int×(List UInt8))×(Int×Bool)))))×Int)->Option (((List ((List UInt8)×((Int×(List UInt8))×((Int×(List UInt8))×(Int×Bool)))))
 × Int) ⊕ ((List ((List UInt8)×((Int×(List UInt8))×((Int×(List UInt8))×(Int×Bool))))) ⊕ ((List ((List UInt8)×((Int×(List UInt8))×((Int×(List UInt8))×(Int ×
 Bool)))))×(Int×(List (Int×(Int×Int))))))):=fun (z1:((List ((List UInt8)×((Int×(List UInt8))×((Int×(List UInt8))×(Int×Bool)))))×Int))=>(cnd (iLt z1.2
 (lLen x.1)) (bnd (idx x.1 z1.2) (fun z2=>(bnd (Zp (z2.1,((z2.2.1.1,z2.2.1.2),
 ((z2.2.2.1.1,z2.2.2.1.2),(z2.2.2.2.1,z2.2.2.2.2))))) (fun z3=>(chk (room (z1.1.length +
 1) 96) (some (.inl ((lApp z1.1 [(z3.1,((z3.2.1.1,z3.2.1.2),((z3.2.2.1.1,z3.2.2.1.2),(z3.2.2.2.1,z3.2.2.2.2))))]),(iAdd .i64 z1.2 1))))))))) (some (.inr (.inl z1.1))))
def Zhm (x:((List ((List UInt8)×((Int×(List UInt8))×((Int×(List UInt8))×(Int×Bool)))))×(Int×(List (Int×(Int×Int)))))):((List ((List
 UInt8)×((Int×(List UInt8))×((Int×(List UInt8))×(Int×Bool)))))×Int)->Option (((List ((List UInt8)×((Int×(List UInt8))×((Int×(List UInt8))×(Int×Bool)))))
 × Int) ⊕ ((List ((List UInt8)×((Int×(List UInt8))×((Int×(List UInt8))×(Int×Bool))))) ⊕ ((List ((List UInt8)×((Int×(List UInt8))×((Int×(List UInt8))×(Int ×
 Bool)))))×(Int×(List (Int×(Int×Int))))))):=fun (z1:((List ((List UInt8)×((Int×(List UInt8))×((Int×(List UInt8))×(Int×Bool)))))×Int))=>(cnd (iLt z1.2
 (lLen x.1)) (bnd (idx x.1 z1.2) (fun z2=>(bnd (Zp (z2.1,((z2.2.1.1,z2.2.1.2),
 ((z2.2.2.1.1,z2.2.2.1.2),(z2.2.2.2.1,z2.2.2.2.2))))) (fun z3=>(chk (room (z1.1.length +
 1) 96) (some (.inl ((lApp z1.1 [(z3.1,((z3.2.1.1,z3.2.1.2),((z3.2.2.1.1,z3.2.2.1.2),(z3.2.2.2.1,z3.2.2.2.2))))]),(iAdd .i64 z1.2 1))))))))) (some (.inr (.inl z1.1))))
def Zhn (x:((List ((List UInt8)×((Int×(List UInt8))×((Int×(List UInt8))×(Int×Bool)))))×(Int×(List (Int×(Int×Int)))))):((List ((List
 UInt8)×((Int×(List UInt8))×((Int×(List UInt8))×(Int×Bool)))))×Int)->Option (((List ((List UInt8)×((Int×(List UInt8))×((Int×(List UInt8))×(Int×Bool)))))
 × Int) ⊕ ((List ((List UInt8)×((Int×(List UInt8))×((Int×(List UInt8))×(Int×Bool))))) ⊕ ((List ((List UInt8)×((Int×(List UInt8))×((Int×(List UInt8))×(Int ×
 Bool)))))×(Int×(List (Int×(Int×Int))))))):=fun (z1:((List ((List UInt8)×((Int×(List UInt8))×((Int×(List UInt8))×(Int×Bool)))))×Int))=>(cnd (iLt z1.2
 (lLen x.1)) (bnd (idx x.1 z1.2) (fun z2=>(bnd (Zp (z2.1,((z2.2.1.1,z2.2.1.2),
 ((z2.2.2.1.1,z2.2.2.1.2),(z2.2.2.2.1,z2.2.2.2.2))))) (fun z3=>(chk (room (z1.1.length +
 1) 96) (some (.inl ((lApp z1.1 [(z3.1,((z3.2.1.1,z3.2.1.2),((z3.2.2.1.1,z3.2.2.1.2),(z3.2.2.2.1,z3.2.2.2.2))))]),(iAdd .i64 z1.2 1))))))))) (some (.inr (.inl z1.1))))
def Zco (x:((List ((List UInt8)×((Int×(List UInt8))×((Int×(List UInt8))×(Int×Bool)))))×(Int×(List (Int×(Int×Int)))))):(Option ((List
 ((List UInt8)×((Int×(List UInt8))×((Int×(List UInt8))×(Int×Bool)))))×(Int×(List (Int×(Int×Int)))))):=(alt2 (chk (room (0+x.2.2.length) 24) (joinX (loopX
 (Zhl x) ([],0)) (fun (z1:(List ((List UInt8)×((Int×(List UInt8))×((Int×(List UInt8))×(Int×Bool))))))=>(some (z1,(x.2.1,(lApp [] x.2.2))))))) (alt2
 (chk (room (0+x.2.2.length) 24) (joinX (loopX (Zhm x) ([],0)) (fun (z1:(List ((List UInt8)×((Int×(List UInt8))×((Int×(List UInt8))×(Int×Bool)))))) =>
 (some (z1,(x.2.1,(lApp [] x.2.2))))))) (chk (room (0+x.2.2.length) 24) (joinX (loopX (Zhn x) ([],0)) (fun (z1:(List ((List UInt8)×((Int×(List UInt8))×((Int
 × (List UInt8))×(Int×Bool))))))=>(some (z1,(x.2.1,(lApp [] x.2.2)))))))))
def Zeh (x:(((List (List UInt8))×((List (Int×(List UInt8)))×(Int×Bool)))×(((List ((List UInt8)×((Int×(List UInt8))×((Int×(List UInt8)) ×
 (Int×Bool)))))×(Int×(List (Int×(Int×Int)))))×(Int×Int)))):(Option (((List (List UInt8))×((List (Int×(List UInt8)))×(Int×Bool)))×(((List ((List UInt8) ×
 ((Int×(List UInt8))×((Int×(List UInt8))×(Int×Bool)))))×(Int×(List (Int×(Int×Int)))))×(Int×Int)))):=(bnd (Zcm (x.1.1,(x.1.2.1,(x.1.2.2.1,
 x.1.2.2.2)))) (fun z1=>(bnd (Zco (x.2.1.1,(x.2.1.2.1,x.2.1.2.2))) (fun z2=>(some ((z1.1,(z1.2.1,(z1.2.2.1,z1.2.2.2))),((z2.1,
 (z2.2.1,z2.2.2)),(x.2.2.1,x.2.2.2))))))))
def Zb (x:(Int×(Int×Int))):(Option Bool):=(cnd (iGe x.1 x.2.1) (some (iLe x.1 x.2.2)) (some false))
def Zfr (x:((List (List UInt8))×((List (Int×(List UInt8)))×(Int×Bool)))):(Int)->Option ((Int) ⊕ (Unit ⊕ Bool)):=fun (z1:Int)=>(cnd (iLt z1
 (lLen x.1)) (bnd (idx x.1 z1) (fun z2=>(cnd (iGt (lLen z2) 120) (some (.inr (.inr false))) (some (.inl (iAdd .i64 z1 1)))))) (some (.inr (.inl ()))))
def Zfs (x:((List (List UInt8))×((List (Int×(List UInt8)))×(Int×Bool)))):(Int)->Option ((Int) ⊕ (Unit ⊕ Bool)):=fun (z2:Int)=>(cnd (iLt z2
 (lLen x.2.1)) (bnd (idx x.2.1 z2) (fun z3=>(bnd (Zb (z3.1,(0,(iSub .i64 (lLen x.1) 1)))) (fun z4=>(cnd (bNot z4) (some (.inr (.inr
 false))) (bnd (idx x.2.1 z2) (fun z5=>(cnd (iGt (lLen z5.2) 120) (some (.inr (.inr false))) (some (.inl (iAdd .i64 z2 1))))))))))) (some (.inr (.inl
 ()))))
def Zcp (x:((List (List UInt8))×((List (Int×(List UInt8)))×(Int×Bool)))):(Option Bool):=(joinX (loopX (Zfr x) 0) (fun (z1:Unit) =>
 (joinX (loopX (Zfs x) 0) (fun (z2:Unit)=>(bnd (Zb ((lLen x.1),(1,64))) (fun z3=>(cnd z3 (cnd (iLe (lLen x.2.1) 40) (bnd (Zb (x.2.2.1,((-1),
 1000))) (fun z4=>(some z4))) (some false)) (some false))))))))
def Zei (x:(List UInt8)):(Int)->Option ((Int) ⊕ (Unit ⊕ Bool)):=fun (z1:Int)=>(cnd (iLt z1 (lLen x)) (bnd (idx x z1) (fun z2=>(bnd
 (Zb ((iConv .i64 (y2i z2)),(97,122))) (fun z3=>(cnd (bNot z3) (bnd (idx x z1) (fun z4=>(bnd (Zb ((iConv .i64 (y2i z4)),(48,57))) (fun z5=>(cnd (bNot z5) (some (.inr (.inr false))) (some (.inl (iAdd .i64 z1 1)))))))) (some (.inl (iAdd .i64 z1 1)))))))) (some (.inr (.inl ()))))
def Zbw (x:(List UInt8)):(Option Bool):=(joinX (loopX (Zei x) 0) (fun (z1:Unit)=>(bnd (Zb ((lLen x),(1,6))) (fun z2 =>
 (some z2)))))
def Ze (x:((List UInt8)×((Int×(List UInt8))×((Int×(List UInt8))×(Int×Bool))))):(Option Bool):=(some (iEq (iAnd .i64 x.2.2.2.1 1) 1))
def Zbd (x:(Int×(List UInt8))):(Option Bool):=(cnd (iEq x.1 0) (some (iEq (lLen x.2) 0)) (some false))
def Zc (x:((List UInt8)×((Int×(List UInt8))×((Int×(List UInt8))×(Int×Bool))))):(Option Bool):=(some (iEq (iAnd .i64 x.2.2.2.1 2) 2))
def Zcq (x:Int):(Option Bool):=(bnd (Zb (x,(0,5))) (fun z1=>(some z1)))
def Zu (x:(Int×(List UInt8))):(Option Bool):=(bnd (Zcq x.1) (fun z1=>(cnd z1 (some (iLe (lLen x.2) 20)) (some false))))
def Zej (x:UInt8):(Option Int):=(cnd (iLt (y2i x) (y2i (u8 128))) (some 1) (bnd (Zb ((iConv .i64 (y2i x)),(194,223))) (fun z1=>(cnd z1
 (some 2) (bnd (Zb ((iConv .i64 (y2i x)),(224,239))) (fun z2=>(cnd z2 (some 3) (bnd (Zb ((iConv .i64 (y2i x)),(240,244))) (fun z3=>(cnd z3
 (some 4) (some 0)))))))))))
def Zbx (x:Int):(Option Bool):=(bnd (Zb (x,(0,1114111))) (fun z1=>(cnd z1 (bnd (Zb (x,(55296,57343))) (fun z2 =>
 (some (bNot z2)))) (some false))))
def Zby (x:((List UInt8)×Int)):(Option (List UInt8)):=(chk (room (0+x.1.length) 1) (bnd (Zbx x.2) (fun z1=>(cnd (bNot z1) (some
 (lApp [] x.1)) (cnd (iLe x.2 127) (chk (room ((lApp [] x.1).length+1) 1) (some (lApp (lApp [] x.1) [(u8 (iConv .u8 x.2))]))) (cnd (iLe x.2 2047) (chk (room ((lApp []
 x.1).length+2) 1) (some (lApp (lApp [] x.1) [(u8 (iConv .u8 (iOr .i64 192 (iShr .i64 x.2 6)))),(u8 (iConv .u8 (iOr .i64 128 (iAnd .i64 x.2 63))))]))) (cnd (iLe x.2 65535) (chk
 (room ((lApp [] x.1).length+3) 1) (some (lApp (lApp [] x.1) [(u8 (iConv .u8 (iOr .i64 224 (iShr .i64 x.2 12)))),(u8 (iConv .u8 (iOr .i64 128 (iAnd .i64 (iShr .i64 x.2 6)
 63)))),(u8 (iConv .u8 (iOr .i64 128 (iAnd .i64 x.2 63))))]))) (chk (room ((lApp [] x.1).length+4) 1) (some (lApp (lApp [] x.1) [(u8 (iConv .u8 (iOr .i64 240 (iShr .i64 x.2
 18)))),(u8 (iConv .u8 (iOr .i64 128 (iAnd .i64 (iShr .i64 x.2 12) 63)))),(u8 (iConv .u8 (iOr .i64 128 (iAnd .i64 (iShr .i64 x.2 6) 63)))),(u8 (iConv .u8 (iOr .i64 128 (iAnd
 .i64 x.2 63))))]))))))))))
def Zbe (x:((List UInt8)×Int)) (z3:Int):(Int×Int)->Option ((Int×Int) ⊕ (Int ⊕ (Int×(Int×Bool)))):=fun (z6:(Int×Int))=>(cnd (iLt
 z6.2 z3) (bnd (idx x.1 (iAdd .i64 x.2 z6.2)) (fun z7=>(cnd (iNe (y2i (u8 (iAnd .u8 (y2i z7) (y2i (u8 192))))) (y2i (u8 128))) (some (.inr (.inr (0,(0,false)))))
 (bnd (idx x.1 (iAdd .i64 x.2 z6.2)) (fun z8=>(some (.inl ((iOr .i64 (iShl .i64 z6.1 6) (iConv .i64 (y2i (u8 (iAnd .u8 (y2i z8) (y2i (u8 63))))))),(iAdd .i64 z6.2
 1))))))))) (some (.inr (.inl z6.1))))
def Zek (x:((List UInt8)×Int)):(Option (Int×(Int×Bool))):=(bnd (Zb (x.2,(0,(iSub .i64 (lLen x.1) 1)))) (fun z1=>(cnd (bNot z1)
 (some (0,(0,false))) (bnd (idx x.1 x.2) (fun z2=>(bnd (Zej z2) (fun z3=>(cnd (iEq z3 0) (some (0,(0,false))) (cnd (iGt z3 (iSub .i64 (lLen x.1)
 x.2)) (some (0,(0,false))) (bnd (idx x.1 x.2) (fun z4=>(joinX (cnd (iGt z3 1) (chk (iLe 0 (iConv .u64 z3)) (some (.inl (iAnd .i64 (iConv .i64 (y2i z4)) (iShr .i64
 127 (iConv .u64 z3)))))) (some (.inl (iConv .i64 (y2i z4))))) (fun (z5:Int)=>(joinX (loopX (Zbe x z3) (z5,1)) (fun (z6:Int)=>(bnd (Zbx z6) (fun z7=>(cnd (bNot z7) (some (0,(0,false))) (bnd (Zby ([],z6)) (fun z8=>(chk (within x.2 (iAdd .i64 x.2 z3) (lLen x.1)) (cnd (bNot (sEq z8 (lTake
 ((nOf (iAdd .i64 x.2 z3))-(nOf x.2)) (lDrop (nOf x.2) x.1)))) (some (0,(0,false))) (some (z6,((iAdd .i64 x.2 z3),true)))))))))))))))))))))))))
def Zel (x:(Int×Int)):(Option (Int×Bool)):=(cnd (iEq x.1 164) (bnd (Zb (x.2,(161,243))) (fun z1=>(cnd z1 (some ((iSub .i64 (iAdd
 .i64 12353 x.2) 161),true)) (cnd (iEq x.1 165) (bnd (Zb (x.2,(161,246))) (fun z2=>(cnd z2 (some ((iSub .i64 (iAdd .i64 12449 x.2) 161),true)) (some (0,
 false))))) (some (0,false)))))) (cnd (iEq x.1 165) (bnd (Zb (x.2,(161,246))) (fun z1=>(cnd z1 (some ((iSub .i64 (iAdd .i64 12449 x.2) 161),true)) (some (0,
 false))))) (some (0,false))))
def Zem (x:((List UInt8)×Int)):(Option (Int×(Int×Bool))):=(bnd (Zb (x.2,(0,(iSub .i64 (lLen x.1) 1)))) (fun z1=>(cnd (bNot z1)
 (some (0,(0,false))) (bnd (idx x.1 x.2) (fun z2=>(cnd (iLt (y2i z2) (y2i (u8 128))) (bnd (idx x.1 x.2) (fun z3=>(some ((iConv .i64 (y2i z3)),((iAdd
 .i64 x.2 1),true))))) (cnd (iGe (iAdd .i64 x.2 1) (lLen x.1)) (some (0,(0,false))) (bnd (idx x.1 x.2) (fun z3=>(bnd (idx x.1 (iAdd .i64 x.2 1)) (fun z4
 => (bnd (Zel ((iConv .i64 (y2i z3)),(iConv .i64 (y2i z4)))) (fun z5=>(cnd (bNot z5.2) (some (0,(0,false))) (some (z5.1,((iAdd .i64 x.2 2),
 true)))))))))))))))))
def Zgr (x:Int):(Option Int):=(cnd (iEq x 164) (some 8364) (cnd (iEq x 166) (some 352) (cnd (iEq x 168) (some 353) (cnd (iEq x 180) (some 381) (cnd (iEq
 x 184) (some 382) (cnd (iEq x 188) (some 338) (cnd (iEq x 189) (some 339) (cnd (iEq x 190) (some 376) (some x)))))))))
def Zgs (x:Int):(Option Int):=(cnd (iGe x 224) (bnd (idx [1102,1072,1073,1094,1076,1077,1092,1075,1093,1080,1081,1082,1083,1084,1085,1086,
 1087,1103,1088,1089,1090,1091,1078,1074,1100,1099,1079,1096,1101,1097,1095,1098] (iSub .i64 x 224)) (fun z1=>(some (iSub .i64 z1 32)))) (cnd (iGe x 192)
 (bnd (idx [1102,1072,1073,1094,1076,1077,1092,1075,1093,1080,1081,1082,1083,1084,1085,1086,1087,1103,1088,1089,1090,1091,1078,1074,1100,1099,1079,1096,
 1101,1097,1095,1098] (iSub .i64 x 192)) (fun z1=>(some z1))) (cnd (iEq x 163) (some 1105) (cnd (iEq x 179) (some 1025) (some (-1))))))
def Zgt (x:Int):(Option Int):=(cnd (iGe x 160) (some x) (bnd (idx [8364,(-1),8218,402,8222,8230,8224,8225,710,8240,352,8249,338,(-1),381,
 (-1),(-1),8216,8217,8220,8221,8226,8211,8212,732,8482,353,8250,339,(-1),382,376] (iSub .i64 x 128)) (fun z1=>(some z1))))
def Zbj (x:(Int×Int)):(Option (Int×Bool)):=(bnd (Zb (x.1,(1,4))) (fun z1=>(cnd (bNot z1) (some (0,false)) (bnd (Zb (x.2,
 (0,255))) (fun z2=>(cnd (bNot z2) (some (0,false)) (joinX (cnd (iGe x.2 128) (cnd (iEq x.1 2) (bnd (Zgr x.2) (fun z3=>(some (.inl z3)))) (cnd (iEq
 x.1 3) (bnd (Zgs x.2) (fun z3=>(some (.inl z3)))) (cnd (iEq x.1 4) (bnd (Zgt x.2) (fun z3=>(some (.inl z3)))) (some (.inl x.2))))) (some (.inl
 x.2))) (fun (z3:Int)=>(cnd (iLt z3 0) (some (0,false)) (some (z3,true)))))))))))
def Zen (x:(Int×((List UInt8)×Int))):(Option (Int×(Int×Bool))):=(cnd (iEq x.1 0) (bnd (Zek (x.2.1,x.2.2)) (fun z1=>(some (z1.1,(z1.2.1,z1.2.2))))) (cnd (iEq x.1 5) (bnd (Zem (x.2.1,x.2.2)) (fun z1=>(some (z1.1,(z1.2.1,z1.2.2))))) (bnd (idx
 x.2.1 x.2.2) (fun z1=>(bnd (Zbj (x.1,(iConv .i64 (y2i z1)))) (fun z2=>(some (z2.1,((iAdd .i64 x.2.2 1),z2.2)))))))))
def Zgu (x:(Int×(List UInt8))):((List UInt8)×Int)->Option (((List UInt8)×Int) ⊕ ((List UInt8) ⊕ ((List UInt8)×Bool))):=fun (z2:((List UInt8)
 × Int))=>(cnd (iLt z2.2 (lLen x.2)) (bnd (Zen (x.1,(x.2,z2.2))) (fun z3=>(cnd (bNot z3.2.2) (some (.inr (.inr ([],false)))) (bnd
 (Zby (z2.1,z3.1)) (fun z4=>(some (.inl (z4,z3.2.1)))))))) (some (.inr (.inl z2.1))))
def Zeo (x:(Int×(List UInt8))):(Option ((List UInt8)×Bool)):=(bnd (Zcq x.1) (fun z1=>(cnd (bNot z1) (some ([],false)) (joinX (loopX
 (Zgu x) ([],0)) (fun (z2:(List UInt8))=>(some (z2,true)))))))
def Zj (x:(Int×(List UInt8))):(Option ((List UInt8)×Bool)):=(bnd (Zu (x.1,x.2)) (fun z1=>(cnd (bNot z1) (some ([],false))
 (bnd (Zeo (x.1,x.2)) (fun z2=>(some (z2.1,z2.2)))))))
def Za (x:((Int×(List UInt8))×(Int×(List UInt8)))):(Option Bool):=(bnd (Zj (x.1.1,x.1.2)) (fun z1=>(bnd
 (Zj (x.2.1,x.2.2)) (fun z2=>(cnd z1.2 (cnd z2.2 (some (sEq z1.1 z2.1)) (some false)) (some false))))))
def Zv (x:((List UInt8)×((Int×(List UInt8))×((Int×(List UInt8))×(Int×Bool))))):(Option Bool):=(bnd (Zbw x.1) (fun z1=>(cnd
 (bNot z1) (some false) (bnd (Zb (x.2.2.2.1,(1,3))) (fun z2=>(cnd (bNot z2) (some false) (bnd (Ze (x.1,((x.2.1.1,x.2.1.2),((x.2.2.1.1,x.2.2.1.2),
 (x.2.2.2.1,x.2.2.2.2))))) (fun z3=>(cnd (bNot z3) (bnd (Zbd (x.2.1.1,x.2.1.2)) (fun z4=>(cnd (bNot z4) (some false) (bnd (Zc (x.1,
 ((x.2.1.1,x.2.1.2),((x.2.2.1.1,x.2.2.1.2),(x.2.2.2.1,x.2.2.2.2))))) (fun z5=>(cnd (bNot z5) (bnd (Zbd (x.2.2.1.1,x.2.2.1.2)) (fun z6=>(cnd
 (bNot z6) (some false) (bnd (Zj (x.2.1.1,x.2.1.2)) (fun z7=>(bnd (Zj (x.2.2.1.1,x.2.2.1.2)) (fun z8 =>
 (bnd (Ze (x.1,((x.2.1.1,x.2.1.2),((x.2.2.1.1,x.2.2.1.2),(x.2.2.2.1,x.2.2.2.2))))) (fun z9=>(cnd z9 (bnd (Zb (x.2.1.1,(1,5))) (fun z10 =>
 (cnd (bNot z10) (some false) (bnd (Zu (x.2.1.1,x.2.1.2)) (fun z11=>(cnd (bNot z11) (some false) (bnd (Zc (x.1,((x.2.1.1,x.2.1.2),((x.2.2.1.1,
 x.2.2.1.2),(x.2.2.2.1,x.2.2.2.2))))) (fun z12=>(cnd z12 (cnd (iNe x.2.2.1.1 0) (some false) (cnd (bNot z8.2) (some false) (bnd (Ze (x.1,((x.2.1.1,x.2.1.2),
 ((x.2.2.1.1,x.2.2.1.2),(x.2.2.2.1,x.2.2.2.2))))) (fun z13=>(cnd z13 (cnd (bNot z7.2) (cnd (bNot x.2.2.2.2) (some false) (bnd (Zc (x.1,((x.2.1.1,x.2.1.2),
 ((x.2.2.1.1,x.2.2.1.2),(x.2.2.2.1,x.2.2.2.2))))) (fun z14=>(cnd z14 (some false) (cnd (iNe x.2.2.2.1 3) (some true) (bnd (Za ((x.2.1.1,x.2.1.2),
 (x.2.2.1.1,x.2.2.1.2))) (fun z15=>(some z15)))))))) (cnd (iNe x.2.2.2.1 3) (some true) (bnd (Za ((x.2.1.1,x.2.1.2),(x.2.2.1.1,x.2.2.1.2))) (fun z14=>(some z14))))) (cnd (iNe x.2.2.2.1 3) (some true) (bnd (Za ((x.2.1.1,x.2.1.2),(x.2.2.1.1,x.2.2.1.2))) (fun z14=>(some z14))))))))) (bnd
 (Ze (x.1,((x.2.1.1,x.2.1.2),((x.2.2.1.1,x.2.2.1.2),(x.2.2.2.1,x.2.2.2.2))))) (fun z13=>(cnd z13 (cnd (bNot z7.2) (cnd (bNot x.2.2.2.2) (some false) (bnd
 (Zc (x.1,((x.2.1.1,x.2.1.2),((x.2.2.1.1,x.2.2.1.2),(x.2.2.2.1,x.2.2.2.2))))) (fun z14=>(cnd z14 (some false) (cnd (iNe x.2.2.2.1 3) (some true) (bnd
 (Za ((x.2.1.1,x.2.1.2),(x.2.2.1.1,x.2.2.1.2))) (fun z15=>(some z15)))))))) (cnd (iNe x.2.2.2.1 3) (some true) (bnd (Za ((x.2.1.1,x.2.1.2),
 (x.2.2.1.1,x.2.2.1.2))) (fun z14=>(some z14))))) (cnd (iNe x.2.2.2.1 3) (some true) (bnd (Za ((x.2.1.1,x.2.1.2),(x.2.2.1.1,x.2.2.1.2))) (fun z14
 => (some z14)))))))))))))))) (bnd (Zc (x.1,((x.2.1.1,x.2.1.2),((x.2.2.1.1,x.2.2.1.2),(x.2.2.2.1,x.2.2.2.2))))) (fun z10=>(cnd z10 (cnd (iNe x.2.2.1.1 0)
 (some false) (cnd (bNot z8.2) (some false) (bnd (Ze (x.1,((x.2.1.1,x.2.1.2),((x.2.2.1.1,x.2.2.1.2),(x.2.2.2.1,x.2.2.2.2))))) (fun z11=>(cnd z11 (cnd (bNot
 z7.2) (cnd (bNot x.2.2.2.2) (some false) (bnd (Zc (x.1,((x.2.1.1,x.2.1.2),((x.2.2.1.1,x.2.2.1.2),(x.2.2.2.1,x.2.2.2.2))))) (fun z12=>(cnd z12 (some false)
 (cnd (iNe x.2.2.2.1 3) (some true) (bnd (Za ((x.2.1.1,x.2.1.2),(x.2.2.1.1,x.2.2.1.2))) (fun z13=>(some z13)))))))) (cnd (iNe x.2.2.2.1 3) (some true) (bnd
 (Za ((x.2.1.1,x.2.1.2),(x.2.2.1.1,x.2.2.1.2))) (fun z12=>(some z12))))) (cnd (iNe x.2.2.2.1 3) (some true) (bnd (Za ((x.2.1.1,x.2.1.2),
 (x.2.2.1.1,x.2.2.1.2))) (fun z12=>(some z12))))))))) (bnd (Ze (x.1,((x.2.1.1,x.2.1.2),((x.2.2.1.1,x.2.2.1.2),(x.2.2.2.1,x.2.2.2.2))))) (fun z11
 => (cnd z11 (cnd (bNot z7.2) (cnd (bNot x.2.2.2.2) (some false) (bnd (Zc (x.1,((x.2.1.1,x.2.1.2),((x.2.2.1.1,x.2.2.1.2),(x.2.2.2.1,x.2.2.2.2))))) (fun z12
 => (cnd z12 (some false) (cnd (iNe x.2.2.2.1 3) (some true) (bnd (Za ((x.2.1.1,x.2.1.2),(x.2.2.1.1,x.2.2.1.2))) (fun z13=>(some z13)))))))) (cnd (iNe
 x.2.2.2.1 3) (some true) (bnd (Za ((x.2.1.1,x.2.1.2),(x.2.2.1.1,x.2.2.1.2))) (fun z12=>(some z12))))) (cnd (iNe x.2.2.2.1 3) (some true) (bnd
 (Za ((x.2.1.1,x.2.1.2),(x.2.2.1.1,x.2.2.1.2))) (fun z12=>(some z12)))))))))))))))))))) (bnd (Zj (x.2.1.1,x.2.1.2)) (fun z6=>(bnd (Zj (x.2.2.1.1,x.2.2.1.2)) (fun z7=>(bnd (Ze (x.1,((x.2.1.1,x.2.1.2),((x.2.2.1.1,x.2.2.1.2),(x.2.2.2.1,
 x.2.2.2.2))))) (fun z8=>(cnd z8 (bnd (Zb (x.2.1.1,(1,5))) (fun z9=>(cnd (bNot z9) (some false) (bnd (Zu (x.2.1.1,x.2.1.2)) (fun z10=>(cnd (bNot z10) (some false) (bnd (Zc (x.1,((x.2.1.1,x.2.1.2),((x.2.2.1.1,x.2.2.1.2),(x.2.2.2.1,x.2.2.2.2))))) (fun z11=>(cnd z11 (cnd (iNe
 x.2.2.1.1 0) (some false) (cnd (bNot z7.2) (some false) (bnd (Ze (x.1,((x.2.1.1,x.2.1.2),((x.2.2.1.1,x.2.2.1.2),(x.2.2.2.1,x.2.2.2.2))))) (fun z12=>(cnd
 z12 (cnd (bNot z6.2) (cnd (bNot x.2.2.2.2) (some false) (bnd (Zc (x.1,((x.2.1.1,x.2.1.2),((x.2.2.1.1,x.2.2.1.2),(x.2.2.2.1,x.2.2.2.2))))) (fun z13=>(cnd
 z13 (some false) (cnd (iNe x.2.2.2.1 3) (some true) (bnd (Za ((x.2.1.1,x.2.1.2),(x.2.2.1.1,x.2.2.1.2))) (fun z14=>(some z14)))))))) (cnd (iNe x.2.2.2.1 3)
 (some true) (bnd (Za ((x.2.1.1,x.2.1.2),(x.2.2.1.1,x.2.2.1.2))) (fun z13=>(some z13))))) (cnd (iNe x.2.2.2.1 3) (some true) (bnd (Za ((x.2.1.1,
 x.2.1.2),(x.2.2.1.1,x.2.2.1.2))) (fun z13=>(some z13))))))))) (bnd (Ze (x.1,((x.2.1.1,x.2.1.2),((x.2.2.1.1,x.2.2.1.2),(x.2.2.2.1,x.2.2.2.2))))) (fun
 z12=>(cnd z12 (cnd (bNot z6.2) (cnd (bNot x.2.2.2.2) (some false) (bnd (Zc (x.1,((x.2.1.1,x.2.1.2),((x.2.2.1.1,x.2.2.1.2),(x.2.2.2.1,x.2.2.2.2))))) (fun
 z13=>(cnd z13 (some false) (cnd (iNe x.2.2.2.1 3) (some true) (bnd (Za ((x.2.1.1,x.2.1.2),(x.2.2.1.1,x.2.2.1.2))) (fun z14=>(some z14))))))))
 (cnd (iNe x.2.2.2.1 3) (some true) (bnd (Za ((x.2.1.1,x.2.1.2),(x.2.2.1.1,x.2.2.1.2))) (fun z13=>(some z13))))) (cnd (iNe x.2.2.2.1 3) (some true) (bnd
 (Za ((x.2.1.1,x.2.1.2),(x.2.2.1.1,x.2.2.1.2))) (fun z13=>(some z13)))))))))))))))) (bnd (Zc (x.1,((x.2.1.1,x.2.1.2),((x.2.2.1.1,x.2.2.1.2),
 (x.2.2.2.1,x.2.2.2.2))))) (fun z9=>(cnd z9 (cnd (iNe x.2.2.1.1 0) (some false) (cnd (bNot z7.2) (some false) (bnd (Ze (x.1,((x.2.1.1,x.2.1.2),((x.2.2.1.1,
 x.2.2.1.2),(x.2.2.2.1,x.2.2.2.2))))) (fun z10=>(cnd z10 (cnd (bNot z6.2) (cnd (bNot x.2.2.2.2) (some false) (bnd (Zc (x.1,((x.2.1.1,x.2.1.2),((x.2.2.1.1,
 x.2.2.1.2),(x.2.2.2.1,x.2.2.2.2))))) (fun z11=>(cnd z11 (some false) (cnd (iNe x.2.2.2.1 3) (some true) (bnd (Za ((x.2.1.1,x.2.1.2),(x.2.2.1.1,
 x.2.2.1.2))) (fun z12=>(some z12)))))))) (cnd (iNe x.2.2.2.1 3) (some true) (bnd (Za ((x.2.1.1,x.2.1.2),(x.2.2.1.1,x.2.2.1.2))) (fun z11=>(some
 z11))))) (cnd (iNe x.2.2.2.1 3) (some true) (bnd (Za ((x.2.1.1,x.2.1.2),(x.2.2.1.1,x.2.2.1.2))) (fun z11=>(some z11))))))))) (bnd (Ze (x.1,
 ((x.2.1.1,x.2.1.2),((x.2.2.1.1,x.2.2.1.2),(x.2.2.2.1,x.2.2.2.2))))) (fun z10=>(cnd z10 (cnd (bNot z6.2) (cnd (bNot x.2.2.2.2) (some false) (bnd (Zc (x.1,
 ((x.2.1.1,x.2.1.2),((x.2.2.1.1,x.2.2.1.2),(x.2.2.2.1,x.2.2.2.2))))) (fun z11=>(cnd z11 (some false) (cnd (iNe x.2.2.2.1 3) (some true) (bnd (Za
 ((x.2.1.1,x.2.1.2),(x.2.2.1.1,x.2.2.1.2))) (fun z12=>(some z12)))))))) (cnd (iNe x.2.2.2.1 3) (some true) (bnd (Za ((x.2.1.1,x.2.1.2),(x.2.2.1.1,
 x.2.2.1.2))) (fun z11=>(some z11))))) (cnd (iNe x.2.2.2.1 3) (some true) (bnd (Za ((x.2.1.1,x.2.1.2),(x.2.2.1.1,x.2.2.1.2))) (fun z11=>(some
 z11))))))))))))))))))))))) (bnd (Zc (x.1,((x.2.1.1,x.2.1.2),((x.2.2.1.1,x.2.2.1.2),(x.2.2.2.1,x.2.2.2.2))))) (fun z4=>(cnd (bNot z4) (bnd (Zbd
 (x.2.2.1.1,x.2.2.1.2)) (fun z5=>(cnd (bNot z5) (some false) (bnd (Zj (x.2.1.1,x.2.1.2)) (fun z6=>(bnd (Zj (x.2.2.1.1,
 x.2.2.1.2)) (fun z7=>(bnd (Ze (x.1,((x.2.1.1,x.2.1.2),((x.2.2.1.1,x.2.2.1.2),(x.2.2.2.1,x.2.2.2.2))))) (fun z8=>(cnd z8 (bnd
 (Zb (x.2.1.1,(1,5))) (fun z9=>(cnd (bNot z9) (some false) (bnd (Zu (x.2.1.1,x.2.1.2)) (fun z10=>(cnd (bNot z10) (some false) (bnd
 (Zc (x.1,((x.2.1.1,x.2.1.2),((x.2.2.1.1,x.2.2.1.2),(x.2.2.2.1,x.2.2.2.2))))) (fun z11=>(cnd z11 (cnd (iNe x.2.2.1.1 0) (some false) (cnd (bNot z7.2) (some
 false) (bnd (Ze (x.1,((x.2.1.1,x.2.1.2),((x.2.2.1.1,x.2.2.1.2),(x.2.2.2.1,x.2.2.2.2))))) (fun z12=>(cnd z12 (cnd (bNot z6.2) (cnd (bNot x.2.2.2.2) (some
 false) (bnd (Zc (x.1,((x.2.1.1,x.2.1.2),((x.2.2.1.1,x.2.2.1.2),(x.2.2.2.1,x.2.2.2.2))))) (fun z13=>(cnd z13 (some false) (cnd (iNe x.2.2.2.1 3) (some
 true) (bnd (Za ((x.2.1.1,x.2.1.2),(x.2.2.1.1,x.2.2.1.2))) (fun z14=>(some z14)))))))) (cnd (iNe x.2.2.2.1 3) (some true) (bnd (Za ((x.2.1.1,
 x.2.1.2),(x.2.2.1.1,x.2.2.1.2))) (fun z13=>(some z13))))) (cnd (iNe x.2.2.2.1 3) (some true) (bnd (Za ((x.2.1.1,x.2.1.2),(x.2.2.1.1,x.2.2.1.2))) (fun
 z13=>(some z13))))))))) (bnd (Ze (x.1,((x.2.1.1,x.2.1.2),((x.2.2.1.1,x.2.2.1.2),(x.2.2.2.1,x.2.2.2.2))))) (fun z12=>(cnd z12 (cnd (bNot z6.2)
 (cnd (bNot x.2.2.2.2) (some false) (bnd (Zc (x.1,((x.2.1.1,x.2.1.2),((x.2.2.1.1,x.2.2.1.2),(x.2.2.2.1,x.2.2.2.2))))) (fun z13=>(cnd z13 (some false) (cnd
 (iNe x.2.2.2.1 3) (some true) (bnd (Za ((x.2.1.1,x.2.1.2),(x.2.2.1.1,x.2.2.1.2))) (fun z14=>(some z14)))))))) (cnd (iNe x.2.2.2.1 3) (some true) (bnd
 (Za ((x.2.1.1,x.2.1.2),(x.2.2.1.1,x.2.2.1.2))) (fun z13=>(some z13))))) (cnd (iNe x.2.2.2.1 3) (some true) (bnd (Za ((x.2.1.1,x.2.1.2),
 (x.2.2.1.1,x.2.2.1.2))) (fun z13=>(some z13)))))))))))))))) (bnd (Zc (x.1,((x.2.1.1,x.2.1.2),((x.2.2.1.1,x.2.2.1.2),(x.2.2.2.1,x.2.2.2.2))))) (fun z9=>(cnd z9 (cnd (iNe x.2.2.1.1 0) (some false) (cnd (bNot z7.2) (some false) (bnd (Ze (x.1,((x.2.1.1,x.2.1.2),((x.2.2.1.1,x.2.2.1.2),(x.2.2.2.1,x.2.2.2.2)))))
 (fun z10=>(cnd z10 (cnd (bNot z6.2) (cnd (bNot x.2.2.2.2) (some false) (bnd (Zc (x.1,((x.2.1.1,x.2.1.2),((x.2.2.1.1,x.2.2.1.2),(x.2.2.2.1,x.2.2.2.2)))))
 (fun z11=>(cnd z11 (some false) (cnd (iNe x.2.2.2.1 3) (some true) (bnd (Za ((x.2.1.1,x.2.1.2),(x.2.2.1.1,x.2.2.1.2))) (fun z12=>(some
 z12)))))))) (cnd (iNe x.2.2.2.1 3) (some true) (bnd (Za ((x.2.1.1,x.2.1.2),(x.2.2.1.1,x.2.2.1.2))) (fun z11=>(some z11))))) (cnd (iNe x.2.2.2.1 3) (some
 true) (bnd (Za ((x.2.1.1,x.2.1.2),(x.2.2.1.1,x.2.2.1.2))) (fun z11=>(some z11))))))))) (bnd (Ze (x.1,((x.2.1.1,x.2.1.2),((x.2.2.1.1,x.2.2.1.2),
 (x.2.2.2.1,x.2.2.2.2))))) (fun z10=>(cnd z10 (cnd (bNot z6.2) (cnd (bNot x.2.2.2.2) (some false) (bnd (Zc (x.1,((x.2.1.1,x.2.1.2),((x.2.2.1.1,x.2.2.1.2),
 (x.2.2.2.1,x.2.2.2.2))))) (fun z11=>(cnd z11 (some false) (cnd (iNe x.2.2.2.1 3) (some true) (bnd (Za ((x.2.1.1,x.2.1.2),(x.2.2.1.1,x.2.2.1.2))) (fun
 z12=>(some z12)))))))) (cnd (iNe x.2.2.2.1 3) (some true) (bnd (Za ((x.2.1.1,x.2.1.2),(x.2.2.1.1,x.2.2.1.2))) (fun z11=>(some z11))))) (cnd
 (iNe x.2.2.2.1 3) (some true) (bnd (Za ((x.2.1.1,x.2.1.2),(x.2.2.1.1,x.2.2.1.2))) (fun z11=>(some z11)))))))))))))))))))) (bnd (Zj (x.2.1.1,
 x.2.1.2)) (fun z5=>(bnd (Zj (x.2.2.1.1,x.2.2.1.2)) (fun z6=>(bnd (Ze (x.1,((x.2.1.1,x.2.1.2),
 ((x.2.2.1.1,x.2.2.1.2),(x.2.2.2.1,x.2.2.2.2))))) (fun z7=>(cnd z7 (bnd (Zb (x.2.1.1,(1,5))) (fun z8=>(cnd (bNot z8) (some false) (bnd (Zu
 (x.2.1.1,x.2.1.2)) (fun z9=>(cnd (bNot z9) (some false) (bnd (Zc (x.1,((x.2.1.1,x.2.1.2),((x.2.2.1.1,x.2.2.1.2),(x.2.2.2.1,x.2.2.2.2))))) (fun z10=>(cnd z10 (cnd (iNe x.2.2.1.1 0) (some false) (cnd (bNot z6.2) (some false) (bnd (Ze (x.1,((x.2.1.1,x.2.1.2),((x.2.2.1.1,x.2.2.1.2),(x.2.2.2.1,x.2.2.2.2)))))
 (fun z11=>(cnd z11 (cnd (bNot z5.2) (cnd (bNot x.2.2.2.2) (some false) (bnd (Zc (x.1,((x.2.1.1,x.2.1.2),((x.2.2.1.1,x.2.2.1.2),(x.2.2.2.1,x.2.2.2.2)))))
 (fun z12=>(cnd z12 (some false) (cnd (iNe x.2.2.2.1 3) (some true) (bnd (Za ((x.2.1.1,x.2.1.2),(x.2.2.1.1,x.2.2.1.2))) (fun z13=>(some
 z13)))))))) (cnd (iNe x.2.2.2.1 3) (some true) (bnd (Za ((x.2.1.1,x.2.1.2),(x.2.2.1.1,x.2.2.1.2))) (fun z12=>(some z12))))) (cnd (iNe x.2.2.2.1 3) (some
 true) (bnd (Za ((x.2.1.1,x.2.1.2),(x.2.2.1.1,x.2.2.1.2))) (fun z12=>(some z12))))))))) (bnd (Ze (x.1,((x.2.1.1,x.2.1.2),((x.2.2.1.1,x.2.2.1.2),
 (x.2.2.2.1,x.2.2.2.2))))) (fun z11=>(cnd z11 (cnd (bNot z5.2) (cnd (bNot x.2.2.2.2) (some false) (bnd (Zc (x.1,((x.2.1.1,x.2.1.2),((x.2.2.1.1,x.2.2.1.2),
 (x.2.2.2.1,x.2.2.2.2))))) (fun z12=>(cnd z12 (some false) (cnd (iNe x.2.2.2.1 3) (some true) (bnd (Za ((x.2.1.1,x.2.1.2),(x.2.2.1.1,x.2.2.1.2))) (fun
 z13=>(some z13)))))))) (cnd (iNe x.2.2.2.1 3) (some true) (bnd (Za ((x.2.1.1,x.2.1.2),(x.2.2.1.1,x.2.2.1.2))) (fun z12=>(some z12))))) (cnd
 (iNe x.2.2.2.1 3) (some true) (bnd (Za ((x.2.1.1,x.2.1.2),(x.2.2.1.1,x.2.2.1.2))) (fun z12=>(some z12)))))))))))))))) (bnd (Zc (x.1,((x.2.1.1,
 x.2.1.2),((x.2.2.1.1,x.2.2.1.2),(x.2.2.2.1,x.2.2.2.2))))) (fun z8=>(cnd z8 (cnd (iNe x.2.2.1.1 0) (some false) (cnd (bNot z6.2) (some false) (bnd (Ze (x.1,
 ((x.2.1.1,x.2.1.2),((x.2.2.1.1,x.2.2.1.2),(x.2.2.2.1,x.2.2.2.2))))) (fun z9=>(cnd z9 (cnd (bNot z5.2) (cnd (bNot x.2.2.2.2) (some false) (bnd (Zc (x.1,
 ((x.2.1.1,x.2.1.2),((x.2.2.1.1,x.2.2.1.2),(x.2.2.2.1,x.2.2.2.2))))) (fun z10=>(cnd z10 (some false) (cnd (iNe x.2.2.2.1 3) (some true) (bnd (Za
 ((x.2.1.1,x.2.1.2),(x.2.2.1.1,x.2.2.1.2))) (fun z11=>(some z11)))))))) (cnd (iNe x.2.2.2.1 3) (some true) (bnd (Za ((x.2.1.1,x.2.1.2),(x.2.2.1.1,
 x.2.2.1.2))) (fun z10=>(some z10))))) (cnd (iNe x.2.2.2.1 3) (some true) (bnd (Za ((x.2.1.1,x.2.1.2),(x.2.2.1.1,x.2.2.1.2))) (fun z10=>(some
 z10))))))))) (bnd (Ze (x.1,((x.2.1.1,x.2.1.2),((x.2.2.1.1,x.2.2.1.2),(x.2.2.2.1,x.2.2.2.2))))) (fun z9=>(cnd z9 (cnd (bNot z5.2) (cnd (bNot x.2.2.2.2)
 (some false) (bnd (Zc (x.1,((x.2.1.1,x.2.1.2),((x.2.2.1.1,x.2.2.1.2),(x.2.2.2.1,x.2.2.2.2))))) (fun z10=>(cnd z10 (some false) (cnd (iNe x.2.2.2.1 3)
 (some true) (bnd (Za ((x.2.1.1,x.2.1.2),(x.2.2.1.1,x.2.2.1.2))) (fun z11=>(some z11)))))))) (cnd (iNe x.2.2.2.1 3) (some true) (bnd (Za
 ((x.2.1.1,x.2.1.2),(x.2.2.1.1,x.2.2.1.2))) (fun z10=>(some z10))))) (cnd (iNe x.2.2.2.1 3) (some true) (bnd (Za ((x.2.1.1,x.2.1.2),(x.2.2.1.1,
 x.2.2.1.2))) (fun z10=>(some z10)))))))))))))))))))))))))))))
def Zw (x:Int):(Option Bool):=(bnd (Zb (x,(0,65535))) (fun z1=>(some z1)))
def Zcr (x:(Int×(Int×Int))):(Option Bool):=(bnd (Zb (x.1,(1,9))) (fun z1=>(cnd z1 (bnd (Zw x.2.1) (fun z2 =>
 (cnd z2 (bnd (Zb (x.2.2,(0,6))) (fun z3=>(some z3))) (some false)))) (some false))))
def Zft (x:((List ((List UInt8)×((Int×(List UInt8))×((Int×(List UInt8))×(Int×Bool)))))×(Int×(List (Int×(Int×Int)))))):(Int)->Option
 ((Int) ⊕ (Unit ⊕ Bool)):=fun (z1:Int)=>(cnd (iLt z1 (lLen x.1)) (bnd (idx x.1 z1) (fun z2=>(bnd (Zv (z2.1,((z2.2.1.1,z2.2.1.2),((z2.2.2.1.1,z2.2.2.1.2),(z2.2.2.2.1,z2.2.2.2.2))))) (fun z3=>(cnd (bNot z3) (some (.inr (.inr false)))
 (cnd (iGt z1 0) (bnd (idx x.1 (iSub .i64 z1 1)) (fun z4=>(bnd (idx x.1 z1) (fun z5=>(cnd (bNot (sLt z4.1 z5.1)) (some (.inr (.inr false))) (some (.inl (iAdd .i64 z1 1)))))))) (some
 (.inl (iAdd .i64 z1 1))))))))) (some (.inr (.inl ()))))
def Zfu (x:((List ((List UInt8)×((Int×(List UInt8))×((Int×(List UInt8))×(Int×Bool)))))×(Int×(List (Int×(Int×Int)))))):(Int)->Option
 ((Int) ⊕ (Unit ⊕ Bool)):=fun (z2:Int)=>(cnd (iLt z2 (lLen x.2.2)) (bnd (idx x.2.2 z2) (fun z3=>(bnd (Zcr (z3.1,(z3.2.1,z3.2.2))) (fun
 z4=>(cnd (bNot z4) (some (.inr (.inr false))) (cnd (iGt z2 0) (bnd (idx x.2.2 (iSub .i64 z2 1)) (fun z5=>(bnd (idx x.2.2 z2) (fun z6=>(cnd (iGe z5.1 z6.1) (some (.inr (.inr false))) (some (.inl (iAdd .i64 z2 1)))))))) (some (.inl (iAdd .i64 z2 1))))))))) (some (.inr (.inl ()))))
def Zbz (x:((List ((List UInt8)×((Int×(List UInt8))×((Int×(List UInt8))×(Int×Bool)))))×(Int×(List (Int×(Int×Int)))))):(Option Bool) :=
 (joinX (loopX (Zft x) 0) (fun (z1:Unit)=>(joinX (loopX (Zfu x) 0) (fun (z2:Unit)=>(cnd (iLe (lLen x.1) 8) (bnd (Zb (x.2.1,(0,7))) (fun z3
 => (some z3))) (some false))))))
def Zcs (x:(((List (List UInt8))×((List (Int×(List UInt8)))×(Int×Bool)))×(((List ((List UInt8)×((Int×(List UInt8))×((Int×(List UInt8)) ×
 (Int×Bool)))))×(Int×(List (Int×(Int×Int)))))×(Int×Int)))):(Option Bool):=(bnd (Zcp (x.1.1,(x.1.2.1,(x.1.2.2.1,x.1.2.2.2)))) (fun z1=>(cnd z1
 (cnd (iEq (lLen x.1.1) 62) (cnd x.1.2.2.2 (bnd (Zbz (x.2.1.1,(x.2.1.2.1,x.2.1.2.2))) (fun z2=>(cnd z2 (bnd (Zb (x.2.2.1,(1,60000))) (fun z3 =>
 (cnd z3 (bnd (Zb (x.2.2.2,(0,30))) (fun z4=>(some z4))) (some false)))) (some false)))) (cnd (iEq (lLen x.1.2.1) 0) (bnd (Zbz (x.2.1.1,(x.2.1.2.1,
 x.2.1.2.2))) (fun z2=>(cnd z2 (bnd (Zb (x.2.2.1,(1,60000))) (fun z3=>(cnd z3 (bnd (Zb (x.2.2.2,(0,30))) (fun z4=>(some z4)))
 (some false)))) (some false)))) (some false))) (some false)) (some false))))
def Zgv (x:((List ((List UInt8)×((Int×(List UInt8))×((Int×(List UInt8))×(Int×Bool)))))×(Int×(List (Int×(Int×Int)))))):((List (Int ×
 (((List UInt8)×((Int×(List UInt8))×((Int×(List UInt8))×(Int×Bool))))×((List UInt8)×(Int×(Int×(Int×Int)))))))×Int)->Option (((List (Int×(((List UInt8) ×
 ((Int×(List UInt8))×((Int×(List UInt8))×(Int×Bool))))×((List UInt8)×(Int×(Int×(Int×Int)))))))×Int) ⊕ ((List (Int×(((List UInt8)×((Int×(List UInt8)) ×
 ((Int×(List UInt8))×(Int×Bool))))×((List UInt8)×(Int×(Int×(Int×Int))))))) ⊕ (List (Int×(((List UInt8)×((Int×(List UInt8))×((Int×(List UInt8))×(Int ×
 Bool))))×((List UInt8)×(Int×(Int×(Int×Int))))))))):=fun (z1:((List (Int×(((List UInt8)×((Int×(List UInt8))×((Int×(List UInt8))×(Int×Bool))))×((List
 UInt8)×(Int×(Int×(Int×Int)))))))×Int))=>(cnd (iLt z1.2 (lLen x.1)) (bnd (idx x.1 z1.2) (fun z2=>(bnd (Zp (z2.1,((z2.2.1.1,z2.2.1.2),((z2.2.2.1.1,z2.2.2.1.2),(z2.2.2.2.1,z2.2.2.2.2))))) (fun z3=>(chk (room (z1.1.length+1) 152) (some (.inl ((lApp z1.1 [(1,((z3.1,((z3.2.1.1,z3.2.1.2),((z3.2.2.1.1,z3.2.2.1.2),(z3.2.2.2.1,
 z3.2.2.2.2)))),([],(0,(0,(0,0))))))]),(iAdd .i64 z1.2 1))))))))) (some (.inr (.inl z1.1))))
def Zgw (x:((List ((List UInt8)×((Int×(List UInt8))×((Int×(List UInt8))×(Int×Bool)))))×(Int×(List (Int×(Int×Int)))))):((List (Int ×
 (((List UInt8)×((Int×(List UInt8))×((Int×(List UInt8))×(Int×Bool))))×((List UInt8)×(Int×(Int×(Int×Int)))))))×Int)->Option (((List (Int×(((List UInt8) ×
 ((Int×(List UInt8))×((Int×(List UInt8))×(Int×Bool))))×((List UInt8)×(Int×(Int×(Int×Int)))))))×Int) ⊕ ((List (Int×(((List UInt8)×((Int×(List UInt8)) ×
 ((Int×(List UInt8))×(Int×Bool))))×((List UInt8)×(Int×(Int×(Int×Int))))))) ⊕ (List (Int×(((List UInt8)×((Int×(List UInt8))×((Int×(List UInt8))×(Int ×
 Bool))))×((List UInt8)×(Int×(Int×(Int×Int))))))))):=fun (z2:((List (Int×(((List UInt8)×((Int×(List UInt8))×((Int×(List UInt8))×(Int×Bool))))×((List
 UInt8)×(Int×(Int×(Int×Int)))))))×Int))=>(cnd (iLt z2.2 (lLen x.2.2)) (bnd (idx x.2.2 z2.2) (fun z3=>(bnd (idx x.2.2 z2.2) (fun z4=>(bnd (idx x.2.2 z2.2) (fun z5=>(chk (room (z2.1.length+1) 152) (some (.inl ((lApp z2.1 [(4,(([],((0,[]),((0,[]),(0,false)))),
 ([],(0,(z3.1,(z4.2.1,z5.2.2))))))]),(iAdd .i64 z2.2 1))))))))))) (some (.inr (.inl z2.1))))
def Zca (x:((List ((List UInt8)×((Int×(List UInt8))×((Int×(List UInt8))×(Int×Bool)))))×(Int×(List (Int×(Int×Int)))))):(Option (List
 (Int×(((List UInt8)×((Int×(List UInt8))×((Int×(List UInt8))×(Int×Bool))))×((List UInt8)×(Int×(Int×(Int×Int)))))))):=(joinX (loopX (Zgv x) ([(3,
 (([],((0,[]),((0,[]),(0,false)))),([],(x.2.1,(0,(0,0))))))],0)) (fun (z1:(List (Int×(((List UInt8)×((Int×(List UInt8))×((Int×(List UInt8))×(Int ×
 Bool))))×((List UInt8)×(Int×(Int×(Int×Int))))))))=>(joinX (loopX (Zgw x) (z1,0)) (fun (z2:(List (Int×(((List UInt8)×((Int×(List UInt8))×((Int ×
 (List UInt8))×(Int×Bool))))×((List UInt8)×(Int×(Int×(Int×Int))))))))=>(some z2)))))
def Zep (x:(Int×Int)):(Option Int):=(some (iAdd .i64 (iAdd .i64 2 (iMul .i64 30 (iRem x.1 2))) x.2))
def Zeq (x:((List UInt8)×((Int×(List UInt8))×((Int×(List UInt8))×(Int×Bool))))):(Option Bool):=(cnd (sEq x.1 []) (bnd (Zbd (x.2.1.1,
 x.2.1.2)) (fun z1=>(cnd z1 (bnd (Zbd (x.2.2.1.1,x.2.2.1.2)) (fun z2=>(cnd z2 (cnd (iEq x.2.2.2.1 0) (some (bNot x.2.2.2.2)) (some false)) (some
 false)))) (some false)))) (some false))
def Zfv (x:(Int×(((List UInt8)×((Int×(List UInt8))×((Int×(List UInt8))×(Int×Bool))))×((List UInt8)×(Int×(Int×(Int×Int))))))) :
 (Option Bool):=(cnd (iEq x.2.2.2.2.1 0) (cnd (iEq x.2.2.2.2.2.1 0) (cnd (iEq x.2.2.2.2.2.2 0) (some (iNe x.1 4)) (some false)) (some false)) (bnd (Zb (x.2.2.2.2.1,(1,
 9))) (fun z1=>(cnd z1 (bnd (Zw x.2.2.2.2.2.1) (fun z2=>(cnd z2 (bnd (Zb (x.2.2.2.2.2.2,(0,6))) (fun z3=>(some z3))) (some
 false)))) (some false)))))
def Zct (x:(Int×(((List UInt8)×((Int×(List UInt8))×((Int×(List UInt8))×(Int×Bool))))×((List UInt8)×(Int×(Int×(Int×Int))))))):(Option
 Bool):=(bnd (Zeq (x.2.1.1,((x.2.1.2.1.1,x.2.1.2.1.2),((x.2.1.2.2.1.1,x.2.1.2.2.1.2),(x.2.1.2.2.2.1,x.2.1.2.2.2.2))))) (fun z1=>(joinX (cnd (iEq x.1 1)
 (bnd (Zv (x.2.1.1,((x.2.1.2.1.1,x.2.1.2.1.2),((x.2.1.2.2.1.1,x.2.1.2.2.1.2),(x.2.1.2.2.2.1,x.2.1.2.2.2.2))))) (fun z2=>(some (.inl (z2,((sEq x.2.2.1 []),
 (iEq x.2.2.2.1 0))))))) (cnd (iEq x.1 2) (bnd (Zbw x.2.2.1) (fun z2=>(some (.inl (z1,(z2,(iEq x.2.2.2.1 0))))))) (cnd (iEq x.1 3) (bnd (Zb (x.2.2.2.1,
 (0,7))) (fun z2=>(some (.inl (z1,((sEq x.2.2.1 []),z2)))))) (some (.inl (z1,((sEq x.2.2.1 []),(iEq x.2.2.2.1 0)))))))) (fun (z2:(Bool×(Bool×Bool)))=>(bnd
 (Zb (x.1,(1,4))) (fun z3=>(cnd z3 (cnd z2.1 (cnd z2.2.1 (cnd z2.2.2 (bnd (Zfv (x.1,((x.2.1.1,((x.2.1.2.1.1,x.2.1.2.1.2),((x.2.1.2.2.1.1,
 x.2.1.2.2.1.2),(x.2.1.2.2.2.1,x.2.1.2.2.2.2)))),(x.2.2.1,(x.2.2.2.1,(x.2.2.2.2.1,(x.2.2.2.2.2.1,x.2.2.2.2.2.2))))))) (fun z4=>(some z4))) (some false)) (some
 false)) (some false)) (some false))))))))
def Zf (x:((List UInt8)×Int)):(Option (List UInt8)):=(chk (room (0+x.1.length) 1) (chk (room ((lApp [] x.1).length+2) 1) (some (lApp (lApp [] x.1)
 [(u8 (iConv .u8 (iShr .i64 x.2 8))),(u8 (iConv .u8 x.2))]))))
def Zq (x:((List UInt8)×(List UInt8))):(Option (List UInt8)):=(cnd (iGt (lLen x.2) 60) (chk (room (0+x.1.length) 1) (some (lApp [] x.1))) (bnd
 (Zf (x.1,(lLen x.2))) (fun z1=>(chk (room (z1.length+x.2.length) 1) (some (lApp z1 x.2))))))
def Zfw (x:Bool):(Option UInt8):=(cnd x (some (u8 1)) (some (u8 0)))
def Zcb (x:((List UInt8)×(Int×(List UInt8)))):(Option (List UInt8)):=(chk (room (x.1.length+1) 1) (bnd (Zq ((lApp x.1 [(u8 (iConv .u8
 x.2.1))]),x.2.2)) (fun z1=>(some z1))))
def Zbf (x:((List UInt8)×((List UInt8)×((Int×(List UInt8))×((Int×(List UInt8))×(Int×Bool)))))):(Option (List UInt8)):=(chk (room (0 +
 x.1.length) 1) (bnd (Zv (x.2.1,((x.2.2.1.1,x.2.2.1.2),((x.2.2.2.1.1,x.2.2.2.1.2),(x.2.2.2.2.1,x.2.2.2.2.2))))) (fun z1=>(cnd (bNot z1) (some (lApp []
 x.1)) (bnd (Zq ((lApp [] x.1),x.2.1)) (fun z2=>(bnd (Zfw x.2.2.2.2.2) (fun z3=>(chk (room (z2.length+2) 1) (joinX (bnd
 (Ze (x.2.1,((x.2.2.1.1,x.2.2.1.2),((x.2.2.2.1.1,x.2.2.2.1.2),(x.2.2.2.2.1,x.2.2.2.2.2))))) (fun z4=>(cnd z4 (bnd (Zcb ((lApp z2 [(u8 (iConv .u8
 x.2.2.2.2.1)),z3]),(x.2.2.1.1,x.2.2.1.2))) (fun z5=>(some (.inl z5)))) (some (.inl (lApp z2 [(u8 (iConv .u8 x.2.2.2.2.1)),z3])))))) (fun (z4:(List
 UInt8))=>(joinX (bnd (Zc (x.2.1,((x.2.2.1.1,x.2.2.1.2),((x.2.2.2.1.1,x.2.2.2.1.2),(x.2.2.2.2.1,x.2.2.2.2.2))))) (fun z5=>(cnd z5 (bnd (Zcb (z4,
 (x.2.2.2.1.1,x.2.2.2.1.2))) (fun z6=>(some (.inl z6)))) (some (.inl z4))))) (fun (z5:(List UInt8))=>(some z5))))))))))))))
def Zgx:(Int×Int)->Option ((Int×Int) ⊕ (Int ⊕ ((Int×Int) ⊕ (Int ⊕ Int)))):=fun (z3:(Int×Int))=>(cnd (iLt z3.2 8) (joinX (cnd (iGt (iShl .i64
 z3.1 1) 65535) (some (.inl (iXor .i64 (iShl .i64 z3.1 1) 69665))) (some (.inl (iShl .i64 z3.1 1)))) (fun (z4:Int)=>(some (.inl (z4,(iAdd .i64 z3.2 1)))))) (some (.inr (.inl
 z3.1))))
def Zgy (x:(List UInt8)):(Int×Int)->Option ((Int×Int) ⊕ (Int ⊕ Int)):=fun (z1:(Int×Int))=>(cnd (iLt z1.2 (lLen x)) (joinX (bnd (idx x z1.2)
 (fun z2=>(loopX (Zgx) ((iXor .i64 z1.1 (iShl .i64 (iConv .i64 (y2i z2)) 8)),0)))) (fun (z2:Int)=>(some (.inl (z2,(iAdd .i64 z1.2 1)))))) (some (.inr (.inl
 z1.1))))
def Zbg (x:(List UInt8)):(Option Int):=(joinX (loopX (Zgy x) (65535,0)) (fun (z1:Int)=>(some (iAnd .i64 z1 65535))))
def Zcu (x:(Int×(Int×(Int×(((List UInt8)×((Int×(List UInt8))×((Int×(List UInt8))×(Int×Bool))))×((List UInt8)×(Int×(Int×(Int ×
 Int))))))))):(Option (List UInt8)):=(bnd (Zct (x.2.2.1,((x.2.2.2.1.1,((x.2.2.2.1.2.1.1,x.2.2.2.1.2.1.2),((x.2.2.2.1.2.2.1.1,x.2.2.2.1.2.2.1.2),(x.2.2.2.1.2.2.2.1,
 x.2.2.2.1.2.2.2.2)))),(x.2.2.2.2.1,(x.2.2.2.2.2.1,(x.2.2.2.2.2.2.1,(x.2.2.2.2.2.2.2.1,x.2.2.2.2.2.2.2.2))))))) (fun z1=>(cnd (bNot z1) (some []) (bnd (Zw
 x.1) (fun z2=>(cnd (bNot z2) (some []) (bnd (Zw x.2.1) (fun z3=>(cnd (bNot z3) (some []) (alt2 (bnd (Zf ([],x.1)) (fun z4 =>
 (bnd (Zf (z4,x.2.1)) (fun z5=>(chk (room (z5.length+1) 1) (joinX (cnd (iEq x.2.2.1 1) (bnd (Zbf ((lApp z5 [(u8 (iConv .u8 x.2.2.1))]),
 (x.2.2.2.1.1,((x.2.2.2.1.2.1.1,x.2.2.2.1.2.1.2),((x.2.2.2.1.2.2.1.1,x.2.2.2.1.2.2.1.2),(x.2.2.2.1.2.2.2.1,x.2.2.2.1.2.2.2.2)))))) (fun z6=>(some (.inl
 z6)))) (cnd (iEq x.2.2.1 2) (bnd (Zq ((lApp z5 [(u8 (iConv .u8 x.2.2.1))]),x.2.2.2.2.1)) (fun z6=>(some (.inl z6)))) (cnd (iEq x.2.2.1 3) (chk (room
 ((lApp z5 [(u8 (iConv .u8 x.2.2.1))]).length+1) 1) (some (.inl (lApp (lApp z5 [(u8 (iConv .u8 x.2.2.1))]) [(u8 (iConv .u8 x.2.2.2.2.2.1))])))) (some (.inl (lApp z5 [(u8 (iConv
 .u8 x.2.2.1))])))))) (fun (z6:(List UInt8))=>(chk (room (z6.length+2) 1) (bnd (Zf ((lApp z6 [(u8 (iConv .u8 x.2.2.2.2.2.2.1)),(u8 (iConv .u8 x.2.2.2.2.2.2.2.2))]),
 x.2.2.2.2.2.2.2.1)) (fun z7=>(bnd (Zbg z7) (fun z8=>(bnd (Zf (z7,z8)) (fun z9=>(some z9))))))))))))))) (alt2 (bnd
 (Zf ([],x.1)) (fun z4=>(bnd (Zf (z4,x.2.1)) (fun z5=>(chk (room (z5.length+1) 1) (joinX (cnd (iEq x.2.2.1 1) (bnd
 (Zbf ((lApp z5 [(u8 (iConv .u8 x.2.2.1))]),(x.2.2.2.1.1,((x.2.2.2.1.2.1.1,x.2.2.2.1.2.1.2),((x.2.2.2.1.2.2.1.1,x.2.2.2.1.2.2.1.2),(x.2.2.2.1.2.2.2.1,
 x.2.2.2.1.2.2.2.2)))))) (fun z6=>(some (.inl z6)))) (cnd (iEq x.2.2.1 2) (bnd (Zq ((lApp z5 [(u8 (iConv .u8 x.2.2.1))]),x.2.2.2.2.1)) (fun z6=>(some (.inl z6)))) (cnd (iEq x.2.2.1 3) (chk (room ((lApp z5 [(u8 (iConv .u8 x.2.2.1))]).length+1) 1) (some (.inl (lApp (lApp z5 [(u8 (iConv .u8 x.2.2.1))])
 [(u8 (iConv .u8 x.2.2.2.2.2.1))])))) (some (.inl (lApp z5 [(u8 (iConv .u8 x.2.2.1))])))))) (fun (z6:(List UInt8))=>(chk (room (z6.length+2) 1) (bnd (Zf ((lApp z6 [(u8
 (iConv .u8 x.2.2.2.2.2.2.1)),(u8 (iConv .u8 x.2.2.2.2.2.2.2.2))]),x.2.2.2.2.2.2.2.1)) (fun z7=>(bnd (Zbg z7) (fun z8=>(bnd (Zf (z7,z8))
 (fun z9=>(some z9))))))))))))))) (alt2 (bnd (Zf ([],x.1)) (fun z4=>(bnd (Zf (z4,x.2.1)) (fun z5=>(chk (room
 (z5.length+1) 1) (joinX (cnd (iEq x.2.2.1 1) (bnd (Zbf ((lApp z5 [(u8 (iConv .u8 x.2.2.1))]),(x.2.2.2.1.1,((x.2.2.2.1.2.1.1,x.2.2.2.1.2.1.2),((x.2.2.2.1.2.2.1.1,
 x.2.2.2.1.2.2.1.2),(x.2.2.2.1.2.2.2.1,x.2.2.2.1.2.2.2.2)))))) (fun z6=>(some (.inl z6)))) (cnd (iEq x.2.2.1 2) (bnd (Zq ((lApp z5 [(u8 (iConv .u8
 x.2.2.1))]),x.2.2.2.2.1)) (fun z6=>(some (.inl z6)))) (cnd (iEq x.2.2.1 3) (chk (room ((lApp z5 [(u8 (iConv .u8 x.2.2.1))]).length+1) 1) (some (.inl (lApp
 (lApp z5 [(u8 (iConv .u8 x.2.2.1))]) [(u8 (iConv .u8 x.2.2.2.2.2.1))])))) (some (.inl (lApp z5 [(u8 (iConv .u8 x.2.2.1))])))))) (fun (z6:(List UInt8))=>(chk (room (z6.length
 + 2) 1) (bnd (Zf ((lApp z6 [(u8 (iConv .u8 x.2.2.2.2.2.2.1)),(u8 (iConv .u8 x.2.2.2.2.2.2.2.2))]),x.2.2.2.2.2.2.2.1)) (fun z7=>(bnd (Zbg z7) (fun
 z8=>(bnd (Zf (z7,z8)) (fun z9=>(some z9))))))))))))))) (bnd (Zf ([],x.1)) (fun z4=>(bnd (Zf (z4,x.2.1)) (fun
 z5=>(chk (room (z5.length+1) 1) (joinX (cnd (iEq x.2.2.1 1) (bnd (Zbf ((lApp z5 [(u8 (iConv .u8 x.2.2.1))]),(x.2.2.2.1.1,((x.2.2.2.1.2.1.1,
 x.2.2.2.1.2.1.2),((x.2.2.2.1.2.2.1.1,x.2.2.2.1.2.2.1.2),(x.2.2.2.1.2.2.2.1,x.2.2.2.1.2.2.2.2)))))) (fun z6=>(some (.inl z6)))) (cnd (iEq x.2.2.1 2) (bnd
 (Zq ((lApp z5 [(u8 (iConv .u8 x.2.2.1))]),x.2.2.2.2.1)) (fun z6=>(some (.inl z6)))) (cnd (iEq x.2.2.1 3) (chk (room ((lApp z5 [(u8 (iConv .u8
 x.2.2.1))]).length+1) 1) (some (.inl (lApp (lApp z5 [(u8 (iConv .u8 x.2.2.1))]) [(u8 (iConv .u8 x.2.2.2.2.2.1))])))) (some (.inl (lApp z5 [(u8 (iConv .u8 x.2.2.1))])))))) (fun
 (z6:(List UInt8))=>(chk (room (z6.length+2) 1) (bnd (Zf ((lApp z6 [(u8 (iConv .u8 x.2.2.2.2.2.2.1)),(u8 (iConv .u8 x.2.2.2.2.2.2.2.2))]),x.2.2.2.2.2.2.2.1)) (fun
 z7=>(bnd (Zbg z7) (fun z8=>(bnd (Zf (z7,z8)) (fun z9=>(some z9)))))))))))))))))))))))))))
def Zcc (x:((List (List UInt8))×((List (Int×(List UInt8)))×(Int×Bool)))):(Option (Bool×(Int×Bool))):=(cnd (iEq x.2.2.1 0) (some (false,((-1),
 true))) (cnd (iGt x.2.2.1 0) (some (true,((iSub .i64 x.2.2.1 1),x.2.2.2))) (some (true,(x.2.2.1,x.2.2.2)))))
def Zr (x:(((List (List UInt8))×((List (Int×(List UInt8)))×(Int×Bool)))×(Int×(List UInt8)))):(Option ((List (Int×(List UInt8)))×(Int ×
 Bool))):=(cnd x.1.2.2.2 (some (x.1.2.1,(x.1.2.2.1,x.1.2.2.2))) (bnd (Zb (x.2.1,(0,(iSub .i64 (lLen x.1.1) 1)))) (fun z1=>(cnd (bNot z1) (some (x.1.2.1,
 (x.1.2.2.1,x.1.2.2.2))) (cnd (iGt (lLen x.2.2) 120) (some (x.1.2.1,(x.1.2.2.1,x.1.2.2.2))) (cnd (iGe (lLen x.1.2.1) 40) (some (x.1.2.1,(x.1.2.2.1,x.1.2.2.2))) (bnd
 (Zcc (x.1.1,(x.1.2.1,(x.1.2.2.1,x.1.2.2.2)))) (fun z2=>(cnd (bNot z2.1) (some (x.1.2.1,(z2.2.1,z2.2.2))) (chk (room (0+x.2.2.length) 1)
 (chk (room (x.1.2.1.length+1) 32) (some ((lApp x.1.2.1 [(x.2.1,(lApp [] x.2.2))]),(z2.2.1,z2.2.2))))))))))))))
def Zs (x:(List (List UInt8))×(List (Int×(List UInt8)))×Int×Bool):Option ((List (List UInt8))×(List (Int×(List UInt8)))×Int×Bool):=chk (decide ((-1<=x.2.2.1/\x.2.2.1<=1000)/\x.1.length<2^40/\x.2.1.length<2^40/\∀w∈x.2.1,0<=w.1/\w.1<=(x.1.length:Int)-1)) (some (flC x.1 x.2.1 x.2.2.1 x.2.2.2))
def Zcv (x:(Int×Int)):(Option (List UInt8)):=(bnd (Zb (x.1,(1,60000))) (fun z1=>(cnd (bNot z1) (some []) (bnd (Zb (x.2,(0,
 30))) (fun z2=>(cnd (bNot z2) (some []) (bnd (Zf ([],x.1)) (fun z3=>(bnd (Zf (z3,x.2)) (fun z4=>(bnd (Zbg z4)
 (fun z5=>(bnd (Zf (z4,z5)) (fun z6=>(some z6)))))))))))))))
def Zfx (x:((((List (List UInt8))×((List (Int×(List UInt8)))×(Int×Bool)))×(((List ((List UInt8)×((Int×(List UInt8))×((Int×(List UInt8)) ×
 (Int×Bool)))))×(Int×(List (Int×(Int×Int)))))×(Int×Int)))×Int)) (z1:(List (Int×(((List UInt8)×((Int×(List UInt8))×((Int×(List UInt8))×(Int×Bool))))
 × ((List UInt8)×(Int×(Int×(Int×Int)))))))):((List (Int×(List UInt8)))×(Int×(Bool×Int)))->Option (((List (Int×(List UInt8)))×(Int×(Bool×Int))) ⊕ (((List
 (Int×(List UInt8)))×(Int×Bool)) ⊕ ((List (List UInt8))×((List (Int×(List UInt8)))×(Int×(Bool×(Int×(Int×Int)))))))):=fun (z2:((List (Int×(List UInt8))) ×
 (Int×(Bool×Int))))=>(cnd (iLt z2.2.2.2 (lLen z1)) (bnd (Zep (x.2,z2.2.2.2)) (fun z3=>(bnd (idx z1 z2.2.2.2) (fun z4=>(bnd (Zcu (x.2,(z2.2.2.2,(z4.1,((z4.2.1.1,((z4.2.1.2.1.1,
 z4.2.1.2.1.2),((z4.2.1.2.2.1.1,z4.2.1.2.2.1.2),(z4.2.1.2.2.2.1,z4.2.1.2.2.2.2)))),(z4.2.2.1,(z4.2.2.2.1,(z4.2.2.2.2.1,(z4.2.2.2.2.2.1,z4.2.2.2.2.2.2))))))))) (fun z5=>(bnd (Zr ((x.1.1.1,(z2.1,(z2.2.1,z2.2.2.1))),(z3,z5))) (fun z6=>(some (.inl (z6.1,(z6.2.1,
 (z6.2.2,(iAdd .i64 z2.2.2.2 1)))))))))))))) (some (.inr (.inl (z2.1,(z2.2.1,z2.2.2.1))))))
def Zcd (x:((((List (List UInt8))×((List (Int×(List UInt8)))×(Int×Bool)))×(((List ((List UInt8)×((Int×(List UInt8))×((Int×(List UInt8)) ×
 (Int×Bool)))))×(Int×(List (Int×(Int×Int)))))×(Int×Int)))×Int)):(Option ((List (List UInt8))×((List (Int×(List UInt8)))×(Int×(Bool×(Int×(Int ×
 Int))))))):=(bnd (Zca (x.1.2.1.1,(x.1.2.1.2.1,x.1.2.1.2.2))) (fun z1=>(joinX (loopX (Zfx x z1) (x.1.1.2.1,(x.1.1.2.2.1,(x.1.1.2.2.2,0)))) (fun (z2:((List (Int×(List UInt8)))×(Int
 × Bool)))=>(bnd (Zs (x.1.1.1,(z2.1,(z2.2.1,z2.2.2)))) (fun z3=>(bnd (Zcv (x.2,
 (lLen z1))) (fun z4=>(bnd (Zr ((z3.1,(z3.2.1,(z3.2.2.1,z3.2.2.2))),((iRem x.2 2),z4))) (fun z5
 => (bnd (Zs (z3.1,(z5.1,(z5.2.1,z5.2.2)))) (fun z6=>(cnd (bNot z6.2.2.2) (some (z6.1,
 (z6.2.1,(z6.2.2.1,(z6.2.2.2,(x.1.2.1.2.1,(x.2,(lLen z1)))))))) (some (z6.1,(z6.2.1,(z6.2.2.1,(z6.2.2.2,(x.1.2.1.2.1,(x.1.2.2.1,x.1.2.2.2))))))))))))))))))))
def Zcw (x:(((List (List UInt8))×((List (Int×(List UInt8)))×(Int×Bool)))×(((List ((List UInt8)×((Int×(List UInt8))×((Int×(List UInt8))×(Int
 × Bool)))))×(Int×(List (Int×(Int×Int)))))×(Int×Int)))):(Option (((List (List UInt8))×((List (Int×(List UInt8)))×(Int×Bool)))×(((List ((List UInt8)×((Int
 × (List UInt8))×((Int×(List UInt8))×(Int×Bool)))))×(Int×(List (Int×(Int×Int)))))×(Int×Int)))):=(bnd (Zeh ((x.1.1,(x.1.2.1,(x.1.2.2.1,
 x.1.2.2.2))),((x.2.1.1,(x.2.1.2.1,x.2.1.2.2)),(x.2.2.1,x.2.2.2)))) (fun z1=>(joinX (bnd (Zcs ((x.1.1,(x.1.2.1,(x.1.2.2.1,
 x.1.2.2.2))),((x.2.1.1,(x.2.1.2.1,x.2.1.2.2)),(x.2.2.1,x.2.2.2)))) (fun z2=>(cnd z2 (cnd (bNot x.1.2.2.2) (cnd (iLt x.2.2.1 60000) (bnd (Zcd (((z1.1.1,
 (z1.1.2.1,(z1.1.2.2.1,z1.1.2.2.2))),((z1.2.1.1,(z1.2.1.2.1,z1.2.1.2.2)),(z1.2.2.1,z1.2.2.2))),(iAdd .i64 x.2.2.1 1))) (fun z3=>(some (.inl (z3.1,(z3.2.1,(z3.2.2.1,(z3.2.2.2.1,(z3.2.2.2.2.1,(z3.2.2.2.2.2.1,z3.2.2.2.2.2.2)))))))))) (some
 (.inl (z1.1.1,(z1.1.2.1,(z1.1.2.2.1,(z1.1.2.2.2,(z1.2.1.2.1,(z1.2.2.1,z1.2.2.2))))))))) (some (.inl (z1.1.1,(z1.1.2.1,(z1.1.2.2.1,(z1.1.2.2.2,(z1.2.1.2.1,(z1.2.2.1,
 z1.2.2.2))))))))) (some (.inl (z1.1.1,(z1.1.2.1,(z1.1.2.2.1,(z1.1.2.2.2,(z1.2.1.2.1,(z1.2.2.1,z1.2.2.2))))))))))) (fun (z2:((List (List UInt8))×((List (Int×(List
 UInt8)))×(Int×(Bool×(Int×(Int×Int)))))))=>(some ((z2.1,(z2.2.1,(z2.2.2.1,z2.2.2.2.1))),((z1.2.1.1,(z2.2.2.2.2.1,z1.2.1.2.2)),(z2.2.2.2.2.2.1,
 z2.2.2.2.2.2.2))))))))
def Zce (x:(List (List UInt8))):((List UInt8)×Int)->Option (((List UInt8)×Int) ⊕ ((List UInt8) ⊕ (List UInt8))):=fun (z1:((List UInt8)×Int))
 => (cnd (iLt z1.2 (lLen x)) (bnd (idx x z1.2) (fun z2=>(chk (room (z1.1.length+z2.length) 1) (some (.inl ((lApp z1.1 z2),(iAdd .i64 z1.2 1))))))) (some
 (.inr (.inl z1.1))))
def Zh (x:(List (List UInt8))):(Option (List UInt8)):=(joinX (loopX (Zce x) ([],0)) (fun (z1:(List UInt8))=>(some z1)))
def Zfy (x:((List (List UInt8))×((List (Int×(List UInt8)))×(Int×Bool)))):((List (List UInt8))×Int)->Option (((List (List UInt8))×Int) ⊕
 ((List (List UInt8)) ⊕ ((List (List UInt8))×((List (Int×(List UInt8)))×(Int×Bool))))):=fun (z1:((List (List UInt8))×Int))=>(cnd (iLt z1.2 (lLen x.1)) (bnd (idx
 x.1 z1.2) (fun z2=>(bnd (Zh [z2]) (fun z3=>(chk (room (z1.1.length+1) 24) (some (.inl ((lApp z1.1 [z3]),(iAdd .i64 z1.2
 1))))))))) (some (.inr (.inl z1.1))))
def Zfz (x:((List (List UInt8))×((List (Int×(List UInt8)))×(Int×Bool)))):((List (Int×(List UInt8)))×Int)->Option (((List (Int×(List
 UInt8)))×Int) ⊕ ((List (Int×(List UInt8))) ⊕ ((List (List UInt8))×((List (Int×(List UInt8)))×(Int×Bool))))):=fun (z2:((List (Int×(List UInt8)))×Int))=>(cnd
 (iLt z2.2 (lLen x.2.1)) (bnd (idx x.2.1 z2.2) (fun z3=>(bnd (Zh [z3.2]) (fun z4=>(chk (room (z2.1.length+1) 32) (some
 (.inl ((lApp z2.1 [(z3.1,z4)]),(iAdd .i64 z2.2 1))))))))) (some (.inr (.inl z2.1))))
def Zx (x:((List (List UInt8))×((List (Int×(List UInt8)))×(Int×Bool)))):(Option ((List (List UInt8))×((List (Int×(List UInt8)))×(Int ×
 Bool)))):=(joinX (loopX (Zfy x) ([],0)) (fun (z1:(List (List UInt8)))=>(joinX (loopX (Zfz x) ([],0)) (fun (z2:(List (Int×(List UInt8))))=>(some
 (z1,(z2,(x.2.2.1,x.2.2.2))))))))
def Zcx (x:(Int×(List UInt8))):(Option (Int×(List UInt8))):=(bnd (Zh [x.2]) (fun z1=>(some (x.1,z1))))
def Zt (x:((List UInt8)×((Int×(List UInt8))×((Int×(List UInt8))×(Int×Bool))))):(Option ((List UInt8)×((Int×(List UInt8))×((Int×(List
 UInt8))×(Int×Bool))))):=(bnd (Zcx (x.2.1.1,x.2.1.2)) (fun z1=>(bnd (Zcx (x.2.2.1.1,x.2.2.1.2)) (fun z2=>(some (x.1,((z1.1,z1.2),((z2.1,z2.2),(x.2.2.2.1,x.2.2.2.2)))))))))
def Zho (x:((List ((List UInt8)×((Int×(List UInt8))×((Int×(List UInt8))×(Int×Bool)))))×(Int×(List (Int×(Int×Int)))))):((List ((List
 UInt8)×((Int×(List UInt8))×((Int×(List UInt8))×(Int×Bool)))))×Int)->Option (((List ((List UInt8)×((Int×(List UInt8))×((Int×(List UInt8))×(Int×Bool)))))
 × Int) ⊕ ((List ((List UInt8)×((Int×(List UInt8))×((Int×(List UInt8))×(Int×Bool))))) ⊕ ((List ((List UInt8)×((Int×(List UInt8))×((Int×(List UInt8))×(Int ×
 Bool)))))×(Int×(List (Int×(Int×Int))))))):=fun (z1:((List ((List UInt8)×((Int×(List UInt8))×((Int×(List UInt8))×(Int×Bool)))))×Int))=>(cnd (iLt z1.2
 (lLen x.1)) (bnd (idx x.1 z1.2) (fun z2=>(bnd (Zt (z2.1,((z2.2.1.1,z2.2.1.2),
 ((z2.2.2.1.1,z2.2.2.1.2),(z2.2.2.2.1,z2.2.2.2.2))))) (fun z3=>(chk (room (z1.1.length +
 1) 96) (some (.inl ((lApp z1.1 [(z3.1,((z3.2.1.1,z3.2.1.2),((z3.2.2.1.1,z3.2.2.1.2),(z3.2.2.2.1,z3.2.2.2.2))))]),(iAdd .i64 z1.2 1))))))))) (some (.inr (.inl z1.1))))
def Zhp (x:((List ((List UInt8)×((Int×(List UInt8))×((Int×(List UInt8))×(Int×Bool)))))×(Int×(List (Int×(Int×Int)))))):((List ((List
 UInt8)×((Int×(List UInt8))×((Int×(List UInt8))×(Int×Bool)))))×Int)->Option (((List ((List UInt8)×((Int×(List UInt8))×((Int×(List UInt8))×(Int×Bool)))))
 × Int) ⊕ ((List ((List UInt8)×((Int×(List UInt8))×((Int×(List UInt8))×(Int×Bool))))) ⊕ ((List ((List UInt8)×((Int×(List UInt8))×((Int×(List UInt8))×(Int ×
 Bool)))))×(Int×(List (Int×(Int×Int))))))):=fun (z1:((List ((List UInt8)×((Int×(List UInt8))×((Int×(List UInt8))×(Int×Bool)))))×Int))=>(cnd (iLt z1.2
 (lLen x.1)) (bnd (idx x.1 z1.2) (fun z2=>(bnd (Zt (z2.1,((z2.2.1.1,z2.2.1.2),
 ((z2.2.2.1.1,z2.2.2.1.2),(z2.2.2.2.1,z2.2.2.2.2))))) (fun z3=>(chk (room (z1.1.length +
 1) 96) (some (.inl ((lApp z1.1 [(z3.1,((z3.2.1.1,z3.2.1.2),((z3.2.2.1.1,z3.2.2.1.2),(z3.2.2.2.1,z3.2.2.2.2))))]),(iAdd .i64 z1.2 1))))))))) (some (.inr (.inl z1.1))))
def Zhq (x:((List ((List UInt8)×((Int×(List UInt8))×((Int×(List UInt8))×(Int×Bool)))))×(Int×(List (Int×(Int×Int)))))):((List ((List
 UInt8)×((Int×(List UInt8))×((Int×(List UInt8))×(Int×Bool)))))×Int)->Option (((List ((List UInt8)×((Int×(List UInt8))×((Int×(List UInt8))×(Int×Bool)))))
 × Int) ⊕ ((List ((List UInt8)×((Int×(List UInt8))×((Int×(List UInt8))×(Int×Bool))))) ⊕ ((List ((List UInt8)×((Int×(List UInt8))×((Int×(List UInt8))×(Int ×
 Bool)))))×(Int×(List (Int×(Int×Int))))))):=fun (z1:((List ((List UInt8)×((Int×(List UInt8))×((Int×(List UInt8))×(Int×Bool)))))×Int))=>(cnd (iLt z1.2
 (lLen x.1)) (bnd (idx x.1 z1.2) (fun z2=>(bnd (Zt (z2.1,((z2.2.1.1,z2.2.1.2),
 ((z2.2.2.1.1,z2.2.2.1.2),(z2.2.2.2.1,z2.2.2.2.2))))) (fun z3=>(chk (room (z1.1.length +
 1) 96) (some (.inl ((lApp z1.1 [(z3.1,((z3.2.1.1,z3.2.1.2),((z3.2.2.1.1,z3.2.2.1.2),(z3.2.2.2.1,z3.2.2.2.2))))]),(iAdd .i64 z1.2 1))))))))) (some (.inr (.inl z1.1))))
def Zcy (x:((List ((List UInt8)×((Int×(List UInt8))×((Int×(List UInt8))×(Int×Bool)))))×(Int×(List (Int×(Int×Int)))))):(Option ((List
 ((List UInt8)×((Int×(List UInt8))×((Int×(List UInt8))×(Int×Bool)))))×(Int×(List (Int×(Int×Int)))))):=(alt2 (chk (room (0+x.2.2.length) 24) (joinX (loopX
 (Zho x) ([],0)) (fun (z1:(List ((List UInt8)×((Int×(List UInt8))×((Int×(List UInt8))×(Int×Bool))))))=>(some (z1,(x.2.1,(lApp [] x.2.2))))))) (alt2
 (chk (room (0+x.2.2.length) 24) (joinX (loopX (Zhp x) ([],0)) (fun (z1:(List ((List UInt8)×((Int×(List UInt8))×((Int×(List UInt8))×(Int×Bool)))))) =>
 (some (z1,(x.2.1,(lApp [] x.2.2))))))) (chk (room (0+x.2.2.length) 24) (joinX (loopX (Zhq x) ([],0)) (fun (z1:(List ((List UInt8)×((Int×(List UInt8))×((Int
 × (List UInt8))×(Int×Bool))))))=>(some (z1,(x.2.1,(lApp [] x.2.2)))))))))
def Zer (x:(((List (List UInt8))×((List (Int×(List UInt8)))×(Int×Bool)))×(((List ((List UInt8)×((Int×(List UInt8))×((Int×(List UInt8)) ×
 (Int×Bool)))))×(Int×(List (Int×(Int×Int)))))×(Int×Int)))):(Option (((List (List UInt8))×((List (Int×(List UInt8)))×(Int×Bool)))×(((List ((List UInt8) ×
 ((Int×(List UInt8))×((Int×(List UInt8))×(Int×Bool)))))×(Int×(List (Int×(Int×Int)))))×(Int×Int)))):=(bnd (Zx (x.1.1,(x.1.2.1,(x.1.2.2.1,
 x.1.2.2.2)))) (fun z1=>(bnd (Zcy (x.2.1.1,(x.2.1.2.1,x.2.1.2.2))) (fun z2=>(some ((z1.1,(z1.2.1,(z1.2.2.1,z1.2.2.2))),((z2.1,
 (z2.2.1,z2.2.2)),(x.2.2.1,x.2.2.2))))))))
def Zd (x:(Int×(Int×Int))):(Option Bool):=(cnd (iGe x.1 x.2.1) (some (iLe x.1 x.2.2)) (some false))
def Zga (x:((List (List UInt8))×((List (Int×(List UInt8)))×(Int×Bool)))):(Int)->Option ((Int) ⊕ (Unit ⊕ Bool)):=fun (z3:Int)=>(cnd (iLt z3
 (lLen x.1)) (bnd (idx x.1 z3) (fun z4=>(cnd (iGt (lLen z4) 120) (some (.inr (.inr false))) (some (.inl (iAdd .i64 z3 1)))))) (some (.inr (.inl ()))))
def Zgb (x:((List (List UInt8))×((List (Int×(List UInt8)))×(Int×Bool)))):(Int)->Option ((Int) ⊕ Bool):=fun (z4:Int)=>(cnd (iLt z4 (lLen
 x.2.1)) (bnd (idx x.2.1 z4) (fun z5=>(bnd (Zd (z5.1,(0,(iSub .i64 (lLen x.1) 1)))) (fun z6=>(cnd (bNot z6) (some (.inr false))
 (cnd (iGt (lLen z5.2) 120) (some (.inr false)) (some (.inl (iAdd .i64 z4 1))))))))) (some (.inr true)))
def Zy (x:((List (List UInt8))×((List (Int×(List UInt8)))×(Int×Bool)))):(Option Bool):=(bnd (Zd ((lLen x.1),(1,64))) (fun z1
 => (cnd (bNot z1) (some false) (cnd (iGt (lLen x.2.1) 40) (some false) (bnd (Zd (x.2.2.1,((-1),1000))) (fun z2=>(cnd (bNot z2) (some false) (joinX (loopX
 (Zga x) 0) (fun (z3:Unit)=>(loopX (Zgb x) 0))))))))))
def Zib (x:(List UInt8)):(Int)->Option ((Int) ⊕ (Unit ⊕ Bool)):=fun (z1:Int)=>(cnd (iLt z1 (lLen x)) (bnd (idx x z1) (fun z2=>(bnd
 (Zd ((iConv .i64 (y2i z2)),(97,122))) (fun z3=>(cnd (bNot z3) (bnd (idx x z1) (fun z4=>(bnd (Zd ((iConv .i64 (y2i z4)),(48,57))) (fun
 z5=>(cnd (bNot z5) (some (.inr (.inr false))) (some (.inl (iAdd .i64 z1 1)))))))) (some (.inl (iAdd .i64 z1 1)))))))) (some (.inr (.inl ()))))
def Zcz (x:(List UInt8)):(Option Bool):=(joinX (loopX (Zib x) 0) (fun (z1:Unit)=>(bnd (Zd ((lLen x),(1,6))) (fun z2 =>
 (some z2)))))
def Zes (x:Int):(Option Bool):=(bnd (Zd (x,(0,5))) (fun z1=>(some z1)))
def Zda (x:(Int×(List UInt8))):(Option Bool):=(bnd (Zes x.1) (fun z1=>(cnd z1 (some (iLe (lLen x.2) 20)) (some false))))
def Zz (x:(List UInt8)):(Option (Int×Int)):=(cnd (iLt (lLen x) 1) (some (65533,0)) (bnd (idx x 0) (fun z1=>(chk (iLe 0 (y2i
 z1)) (chk (iLt (y2i z1) 256) (bnd (idx gFirst (Int.ofNat (0+((nOf (y2i z1))*1)))) (fun z2=>(cnd (iGe (y2i z2) (y2i (u8 240))) (bnd (idx x 0) (fun z3 =>
 (some ((iOr .i32 (iAndNot .i32 (iConv .i32 (y2i z3)) (iShr .i32 (iShl .i32 (iConv .i32 (y2i z2)) 31) 31)) (iAnd .i32 65533 (iShr .i32 (iShl .i32 (iConv .i32 (y2i z2)) 31) 31))),
 1)))) (chk (iLe 0 (y2i (u8 (iShr .u8 (y2i z2) 4)))) (chk (iLt (y2i (u8 (iShr .u8 (y2i z2) 4))) 16) (bnd (idx gAcc (Int.ofNat (0+((nOf (y2i (u8 (iShr .u8 (y2i z2) 4))))*2))))
 (fun z3=>(bnd (idx gAcc (Int.ofNat ((0+((nOf (y2i (u8 (iShr .u8 (y2i z2) 4))))*2))+1))) (fun z4=>(cnd (iLt (lLen x) (iConv .i64 (y2i (u8 (iAnd .u8
 (y2i z2) (y2i (u8 7))))))) (some (65533,1)) (bnd (idx x 1) (fun z5=>(cnd (iLt (y2i z5) (y2i z3)) (some (65533,1)) (cnd (iLt (y2i z4) (y2i z5)) (some (65533,1))
 (cnd (iLe (iConv .i64 (y2i (u8 (iAnd .u8 (y2i z2) (y2i (u8 7)))))) 2) (some ((iOr .i32 (iShl .i32 (iConv .i32 (y2i (u8 (iAnd .u8 (y2i z1) (y2i (u8 31)))))) 6) (iConv .i32 (y2i
 (u8 (iAnd .u8 (y2i z5) (y2i (u8 63))))))),2)) (bnd (idx x 2) (fun z6=>(cnd (iLt (y2i z6) (y2i (u8 128))) (some (65533,1)) (cnd (iLt (y2i (u8 191)) (y2i z6)) (some
 (65533,1)) (cnd (iLe (iConv .i64 (y2i (u8 (iAnd .u8 (y2i z2) (y2i (u8 7)))))) 3) (some ((iOr .i32 (iOr .i32 (iShl .i32 (iConv .i32 (y2i (u8 (iAnd .u8 (y2i z1) (y2i (u8 15))))))
 12) (iShl .i32 (iConv .i32 (y2i (u8 (iAnd .u8 (y2i z5) (y2i (u8 63)))))) 6)) (iConv .i32 (y2i (u8 (iAnd .u8 (y2i z6) (y2i (u8 63))))))),3)) (bnd (idx x 3) (fun z7 =>
 (cnd (iLt (y2i z7) (y2i (u8 128))) (some (65533,1)) (cnd (iLt (y2i (u8 191)) (y2i z7)) (some (65533,1)) (some ((iOr .i32 (iOr .i32 (iOr .i32 (iShl .i32 (iConv .i32 (y2i (u8
 (iAnd .u8 (y2i z1) (y2i (u8 7)))))) 18) (iShl .i32 (iConv .i32 (y2i (u8 (iAnd .u8 (y2i z5) (y2i (u8 63)))))) 12)) (iShl .i32 (iConv .i32 (y2i (u8 (iAnd .u8 (y2i z6) (y2i (u8
 63)))))) 6)) (iConv .i32 (y2i (u8 (iAnd .u8 (y2i z7) (y2i (u8 63))))))),4)))))))))))))))))))))))))))))))
def Zet (x:(List UInt8)):(Int)->Option ((Int) ⊕ (Unit ⊕ (Int×Int))):=fun (z1:Int)=>(cnd (iLt z1 (lLen x)) (bnd (idx x z1) (fun z2=>(cnd (iLt (y2i z2) (y2i (u8 128))) (some (.inr (.inr ((iConv .i32 (y2i z2)),1)))) (some (.inr (.inl ())))))) (some (.inr (.inl ()))))
def Zeu (x:(List UInt8)):(Option (Int×Int)):=(joinX (loopX (Zet x) 0) (fun (z1:Unit)=>(bnd (Zz x) (fun
 z2=>(some (z2.1,z2.2))))))
def Zev (x:((List UInt8)×Int)):(Option (Int×(Int×Bool))):=(cnd (iLt x.2 0) (some (0,(0,false))) (cnd (iGe x.2 (lLen x.1)) (some (0,(0,false)))
 (chk (within x.2 (lLen x.1) (lLen x.1)) (chk (posW (nOf x.2) (lTake ((nOf (lLen x.1))-(nOf x.2)) (lDrop (nOf x.2) x.1)).length) (bnd (Zeu (lTake ((nOf (lLen x.1))
 - (nOf x.2)) (lDrop (nOf x.2) x.1))) (fun z1=>(cnd (iEq z1.1 65533) (cnd (iLt z1.2 2) (some (0,(0,false))) (some ((iConv .i64 z1.1),((iAdd .i64 x.2 z1.2),
 true)))) (some ((iConv .i64 z1.1),((iAdd .i64 x.2 z1.2),true))))))))))
def Zgc (x:(Int×Int)):(Option (Int×Bool)):=(cnd (iEq x.1 164) (bnd (Zd (x.2,(161,243))) (fun z1=>(cnd z1 (some ((iSub .i64
 (iAdd .i64 12353 x.2) 161),true)) (cnd (iEq x.1 165) (bnd (Zd (x.2,(161,246))) (fun z2=>(cnd z2 (some ((iSub .i64 (iAdd .i64 12449 x.2) 161),true)) (some
 (0,false))))) (some (0,false)))))) (cnd (iEq x.1 165) (bnd (Zd (x.2,(161,246))) (fun z1=>(cnd z1 (some ((iSub .i64 (iAdd .i64 12449 x.2) 161),true)) (some
 (0,false))))) (some (0,false))))
def Zew (x:((List UInt8)×Int)):(Option (Int×(Int×Bool))):=(cnd (iLt x.2 0) (some (0,(0,false))) (cnd (iGe x.2 (lLen x.1)) (some (0,(0,false)))
 (bnd (idx x.1 x.2) (fun z1=>(cnd (iLe (y2i z1) (y2i (u8 127))) (bnd (idx x.1 x.2) (fun z2=>(some ((iConv .i64 (y2i z2)),((iAdd .i64 x.2 1),true)))))
 (cnd (iEq (iAdd .i64 x.2 1) (lLen x.1)) (some (0,(0,false))) (bnd (idx x.1 x.2) (fun z2=>(bnd (idx x.1 (iAdd .i64 x.2 1)) (fun z3=>(bnd (Zgc
 ((iConv .i64 (y2i z2)),(iConv .i64 (y2i z3)))) (fun z4=>(cnd (bNot z4.2) (some (0,(0,false))) (some (z4.1,((iAdd .i64 x.2 2),true))))))))))))))))
def Zgz (x:Int):(Option Int):=(cnd (iEq x 164) (some 8364) (cnd (iEq x 166) (some 352) (cnd (iEq x 168) (some 353) (cnd (iEq x 180) (some 381) (cnd
 (iEq x 184) (some 382) (cnd (iEq x 188) (some 338) (cnd (iEq x 189) (some 339) (cnd (iEq x 190) (some 376) (some x)))))))))
def Zha (x:Int):(Option Int):=(cnd (iGe x 224) (chk (iLe 0 (iSub .i64 x 224)) (chk (iLt (iSub .i64 x 224) 32) (bnd (idx [1102,1072,1073,1094,1076,
 1077,1092,1075,1093,1080,1081,1082,1083,1084,1085,1086,1087,1103,1088,1089,1090,1091,1078,1074,1100,1099,1079,1096,1101,1097,1095,1098] (Int.ofNat (0 +
 ((nOf (iSub .i64 x 224))*1)))) (fun z1=>(some (iSub .i64 z1 32)))))) (cnd (iGe x 192) (chk (iLe 0 (iSub .i64 x 192)) (chk (iLt (iSub .i64 x 192) 32) (bnd (idx [1102,
 1072,1073,1094,1076,1077,1092,1075,1093,1080,1081,1082,1083,1084,1085,1086,1087,1103,1088,1089,1090,1091,1078,1074,1100,1099,1079,1096,1101,1097,
 1095,1098] (Int.ofNat (0+((nOf (iSub .i64 x 192))*1)))) (fun z1=>(some z1))))) (cnd (iEq x 163) (some 1105) (cnd (iEq x 179) (some 1025) (some 0)))))
def Zhb (x:Int):(Option Int):=(cnd (iGe x 160) (some x) (chk (iLe 0 (iSub .i64 x 128)) (chk (iLt (iSub .i64 x 128) 32) (bnd (idx [8364,0,8218,402,
 8222,8230,8224,8225,710,8240,352,8249,338,0,381,0,0,8216,8217,8220,8221,8226,8211,8212,732,8482,353,8250,339,0,382,376] (Int.ofNat (0+((nOf (iSub
 .i64 x 128))*1)))) (fun z1=>(some z1))))))
def Zbk (x:(Int×Int)):(Option (Int×Bool)):=(bnd (Zd (x.1,(1,4))) (fun z1=>(cnd (bNot z1) (some (0,false)) (bnd (Zd
 (x.2,(0,255))) (fun z2=>(cnd (bNot z2) (some (0,false)) (cnd (iLe x.2 127) (some (x.2,true)) (joinX (cnd (iEq x.1 2) (bnd (Zgz x.2) (fun z3 =>
 (some (.inl z3)))) (cnd (iEq x.1 3) (bnd (Zha x.2) (fun z3=>(some (.inl z3)))) (cnd (iEq x.1 4) (bnd (Zhb x.2) (fun z3=>(some (.inl z3))))
 (some (.inl x.2))))) (fun (z3:Int)=>(some (z3,(iNe z3 0))))))))))))
def Zex (x:(Int×((List UInt8)×Int))):(Option (Int×(Int×Bool))):=(cnd (iEq x.1 0) (bnd (Zev (x.2.1,x.2.2)) (fun z1=>(some (z1.1,(z1.2.1,z1.2.2))))) (cnd (iEq x.1 5) (bnd (Zew (x.2.1,x.2.2)) (fun z1=>(some (z1.1,(z1.2.1,z1.2.2))))) (bnd (idx
 x.2.1 x.2.2) (fun z1=>(bnd (Zbk (x.1,(iConv .i64 (y2i z1)))) (fun z2=>(some (z2.1,((iAdd .i64 x.2.2 1),z2.2)))))))))
def Zgd (x:Int):(Option Bool):=(bnd (Zd (x,(0,1114111))) (fun z1=>(cnd z1 (bnd (Zd (x,(55296,57343))) (fun z2 =>
 (some (bNot z2)))) (some false))))
def Zge (x:((List UInt8)×Int)):(Option (List UInt8)):=(cnd (iLe (iConv .u32 x.2) 2047) (chk (room (x.1.length+2) 1) (some (lApp x.1
 [(u8 (iOr .u8 (y2i (u8 192)) (y2i (u8 (iConv .u8 (iShr .i32 x.2 6)))))),(u8 (iOr .u8 (y2i (u8 128)) (y2i (u8 (iAnd .u8 (y2i (u8 (iConv .u8 x.2))) (y2i (u8 63)))))))]))) (joinX
 (cnd (iLt (iConv .u32 x.2) 55296) (some (.inl true)) (cnd (iLt 57343 (iConv .u32 x.2)) (some (.inl (iLe (iConv .u32 x.2) 65535))) (some (.inl false)))) (fun (z1:Bool)=>(cnd
 z1 (chk (room (x.1.length+3) 1) (some (lApp x.1 [(u8 (iOr .u8 (y2i (u8 224)) (y2i (u8 (iConv .u8 (iShr .i32 x.2 12)))))),(u8 (iOr .u8 (y2i (u8 128)) (y2i (u8 (iAnd .u8 (y2i
 (u8 (iConv .u8 (iShr .i32 x.2 6)))) (y2i (u8 63))))))),(u8 (iOr .u8 (y2i (u8 128)) (y2i (u8 (iAnd .u8 (y2i (u8 (iConv .u8 x.2))) (y2i (u8 63)))))))]))) (cnd (iGt (iConv .u32
 x.2) 65535) (cnd (iLe (iConv .u32 x.2) 1114111) (chk (room (x.1.length+4) 1) (some (lApp x.1 [(u8 (iOr .u8 (y2i (u8 240)) (y2i (u8 (iConv .u8 (iShr .i32 x.2 18)))))),(u8 (iOr
 .u8 (y2i (u8 128)) (y2i (u8 (iAnd .u8 (y2i (u8 (iConv .u8 (iShr .i32 x.2 12)))) (y2i (u8 63))))))),(u8 (iOr .u8 (y2i (u8 128)) (y2i (u8 (iAnd .u8 (y2i (u8 (iConv .u8 (iShr .i32
 x.2 6)))) (y2i (u8 63))))))),(u8 (iOr .u8 (y2i (u8 128)) (y2i (u8 (iAnd .u8 (y2i (u8 (iConv .u8 x.2))) (y2i (u8 63)))))))]))) (chk (room (x.1.length+3) 1) (some (lApp x.1 [(u8
 239),(u8 191),(u8 189)])))) (chk (room (x.1.length+3) 1) (some (lApp x.1 [(u8 239),(u8 191),(u8 189)]))))))))
def Zgf (x:((List UInt8)×Int)):(Option (List UInt8)):=(cnd (iLe (iConv .u32 x.2) 127) (chk (room (x.1.length+1) 1) (some (lApp x.1 [(u8 (iConv
 .u8 x.2))]))) (bnd (Zge (x.1,x.2)) (fun z1=>(some z1))))
def Zey (x:((List UInt8)×Int)):(Option (List UInt8)):=(bnd (Zh [x.1]) (fun z1=>(bnd (Zgd x.2) (fun z2 =>
 (cnd (bNot z2) (some z1) (bnd (Zgf (z1,(iConv .i32 x.2))) (fun z3=>(some z3))))))))
def Zhc (x:(Int×(List UInt8))):((List UInt8)×Int)->Option (((List UInt8)×Int) ⊕ ((List UInt8) ⊕ ((List UInt8)×Bool))):=fun (z2:((List UInt8)
 × Int))=>(cnd (iLt z2.2 (lLen x.2)) (bnd (Zex (x.1,(x.2,z2.2))) (fun z3=>(cnd (bNot z3.2.2) (some (.inr (.inr ([],false)))) (bnd
 (Zey (z2.1,z3.1)) (fun z4=>(some (.inl (z4,z3.2.1)))))))) (some (.inr (.inl z2.1))))
def Zez (x:(Int×(List UInt8))):(Option ((List UInt8)×Bool)):=(bnd (Zes x.1) (fun z1=>(cnd (bNot z1) (some ([],false)) (joinX (loopX
 (Zhc x) ([],0)) (fun (z2:(List UInt8))=>(some (z2,true)))))))
def Zbl (x:(Int×(List UInt8))):(Option ((List UInt8)×Bool)):=(bnd (Zda (x.1,x.2)) (fun z1=>(cnd (bNot z1) (some ([],false))
 (bnd (Zez (x.1,x.2)) (fun z2=>(some (z2.1,z2.2)))))))
def Zm (x:((Int×(List UInt8))×(Int×(List UInt8)))):(Option Bool):=(cnd (iEq x.1.1 x.2.1) (some (sEq x.1.2 x.2.2)) (some false))
def Zgg (x:((Int×(List UInt8))×(Int×(List UInt8)))):(Option Bool):=(bnd (Zbl (x.1.1,x.1.2)) (fun z1=>(bnd
 (Zbl (x.2.1,x.2.2)) (fun z2=>(cnd z1.2 (cnd z2.2 (some (sEq z1.1 z2.1)) (some false)) (some false))))))
def Zba (x:((List UInt8)×((Int×(List UInt8))×((Int×(List UInt8))×(Int×Bool))))):(Option Bool):=(bnd (Zcz x.1) (fun z1=>(cnd
 (bNot z1) (some false) (bnd (Zd (x.2.2.2.1,(1,3))) (fun z2=>(cnd (bNot z2) (some false) (bnd (Zbl (x.2.1.1,x.2.1.2)) (fun z3=>(bnd (Zbl (x.2.2.1.1,x.2.2.1.2)) (fun z4=>(bnd (Zm ((x.2.1.1,x.2.1.2),(0,[]))) (fun z5=>(joinX (cnd (iNe
 x.2.2.2.1 2) (bnd (Zda (x.2.1.1,x.2.1.2)) (fun z6=>(cnd z6 (cnd (iNe x.2.1.1 0) (cnd z3.2 (some (.inl true)) (cnd x.2.2.2.2 (some (.inl (iEq x.2.2.2.1 1)))
 (some (.inl false)))) (some (.inl false))) (some (.inl false))))) (some (.inl z5))) (fun (z6:Bool)=>(bnd (Zm ((x.2.2.1.1,x.2.2.1.2),(0,[]))) (fun z7 =>
 (joinX (cnd (iNe x.2.2.2.1 1) (cnd (iEq x.2.2.1.1 0) (some (.inl z4.2)) (some (.inl false))) (some (.inl z7))) (fun (z8:Bool)=>(cnd z6 (cnd z8 (cnd (iNe x.2.2.2.1 3) (some
 true) (bnd (Zgg ((x.2.1.1,x.2.1.2),(x.2.2.1.1,x.2.2.1.2))) (fun z9=>(some z9)))) (some false)) (some false))))))))))))))))))))
def Zbb (x:Int):(Option Bool):=(bnd (Zd (x,(0,65535))) (fun z1=>(some z1)))
def Zgh (x:((List ((List UInt8)×((Int×(List UInt8))×((Int×(List UInt8))×(Int×Bool)))))×(Int×(List (Int×(Int×Int)))))):(Int)->Option
 ((Int) ⊕ (Unit ⊕ Bool)):=fun (z1:Int)=>(cnd (iLt z1 (lLen x.1)) (bnd (idx x.1 z1) (fun z2=>(bnd (Zba (z2.1,((z2.2.1.1,z2.2.1.2),((z2.2.2.1.1,z2.2.2.1.2),(z2.2.2.2.1,z2.2.2.2.2))))) (fun z3=>(cnd (bNot z3) (some (.inr (.inr false)))
 (cnd (iGt z1 0) (bnd (idx x.1 (iSub .i64 z1 1)) (fun z4=>(cnd (bNot (sLt z4.1 z2.1)) (some
 (.inr (.inr false))) (some (.inl (iAdd .i64 z1 1)))))) (some (.inl (iAdd .i64 z1 1))))))))) (some (.inr (.inl ()))))
def Zgi (x:((List ((List UInt8)×((Int×(List UInt8))×((Int×(List UInt8))×(Int×Bool)))))×(Int×(List (Int×(Int×Int)))))):(Int)->Option
 ((Int) ⊕ (Unit ⊕ Bool)):=fun (z2:Int)=>(cnd (iLt z2 (lLen x.2.2)) (bnd (idx x.2.2 z2) (fun z3=>(bnd (Zd (z3.1,(1,9))) (fun z4
 => (cnd (bNot z4) (some (.inr (.inr false))) (bnd (Zbb z3.2.1) (fun z5=>(cnd (bNot z5) (some (.inr (.inr false))) (bnd (Zd (z3.2.2,(0,6))) (fun z6=>(cnd (bNot z6) (some (.inr (.inr false))) (cnd (iGt z2 0) (bnd (idx x.2.2 (iSub .i64 z2 1)) (fun z7=>(cnd (iGe z7.1 z3.1) (some (.inr (.inr
 false))) (some (.inl (iAdd .i64 z2 1)))))) (some (.inl (iAdd .i64 z2 1))))))))))))))) (some (.inr (.inl ()))))
def Zcf (x:((List ((List UInt8)×((Int×(List UInt8))×((Int×(List UInt8))×(Int×Bool)))))×(Int×(List (Int×(Int×Int)))))):(Option Bool) :=
 (joinX (loopX (Zgh x) 0) (fun (z1:Unit)=>(joinX (loopX (Zgi x) 0) (fun (z2:Unit)=>(cnd (iLe (lLen x.1) 8) (bnd (Zd (x.2.1,(0,7))) (fun z3=>(some z3))) (some false))))))
def Zdb (x:(((List (List UInt8))×((List (Int×(List UInt8)))×(Int×Bool)))×(((List ((List UInt8)×((Int×(List UInt8))×((Int×(List UInt8)) ×
 (Int×Bool)))))×(Int×(List (Int×(Int×Int)))))×(Int×Int)))):(Option Bool):=(bnd (Zy (x.1.1,(x.1.2.1,(x.1.2.2.1,x.1.2.2.2)))) (fun z1=>(cnd z1
 (cnd (iEq (lLen x.1.1) 62) (cnd (iEq (lLen x.1.2.1) 0) (bnd (Zcf (x.2.1.1,(x.2.1.2.1,x.2.1.2.2))) (fun z2=>(cnd z2 (bnd (Zd (x.2.2.1,(1,60000))) (fun
 z3=>(cnd z3 (bnd (Zd (x.2.2.2,(0,30))) (fun z4=>(some z4))) (some false)))) (some false)))) (cnd x.1.2.2.2 (bnd (Zcf (x.2.1.1,(x.2.1.2.1,
 x.2.1.2.2))) (fun z2=>(cnd z2 (bnd (Zd (x.2.2.1,(1,60000))) (fun z3=>(cnd z3 (bnd (Zd (x.2.2.2,(0,30))) (fun z4=>(some z4)))
 (some false)))) (some false)))) (some false))) (some false)) (some false))))
def Zhd (x:((List ((List UInt8)×((Int×(List UInt8))×((Int×(List UInt8))×(Int×Bool)))))×(Int×(List (Int×(Int×Int)))))):((List (Int ×
 (((List UInt8)×((Int×(List UInt8))×((Int×(List UInt8))×(Int×Bool))))×((List UInt8)×(Int×(Int×(Int×Int)))))))×Int)->Option (((List (Int×(((List UInt8) ×
 ((Int×(List UInt8))×((Int×(List UInt8))×(Int×Bool))))×((List UInt8)×(Int×(Int×(Int×Int)))))))×Int) ⊕ ((List (Int×(((List UInt8)×((Int×(List UInt8)) ×
 ((Int×(List UInt8))×(Int×Bool))))×((List UInt8)×(Int×(Int×(Int×Int))))))) ⊕ (List (Int×(((List UInt8)×((Int×(List UInt8))×((Int×(List UInt8))×(Int ×
 Bool))))×((List UInt8)×(Int×(Int×(Int×Int))))))))):=fun (z1:((List (Int×(((List UInt8)×((Int×(List UInt8))×((Int×(List UInt8))×(Int×Bool))))×((List
 UInt8)×(Int×(Int×(Int×Int)))))))×Int))=>(cnd (iLt z1.2 (lLen x.1)) (bnd (idx x.1 z1.2) (fun z2=>(bnd (Zt (z2.1,((z2.2.1.1,z2.2.1.2),((z2.2.2.1.1,z2.2.2.1.2),(z2.2.2.2.1,z2.2.2.2.2))))) (fun z3=>(chk (room (z1.1.length+1) 152) (some (.inl ((lApp z1.1 [(1,((z3.1,((z3.2.1.1,z3.2.1.2),((z3.2.2.1.1,z3.2.2.1.2),(z3.2.2.2.1,
 z3.2.2.2.2)))),([],(0,(0,(0,0))))))]),(iAdd .i64 z1.2 1))))))))) (some (.inr (.inl z1.1))))
def Zhe (x:((List ((List UInt8)×((Int×(List UInt8))×((Int×(List UInt8))×(Int×Bool)))))×(Int×(List (Int×(Int×Int)))))):((List (Int ×
 (((List UInt8)×((Int×(List UInt8))×((Int×(List UInt8))×(Int×Bool))))×((List UInt8)×(Int×(Int×(Int×Int)))))))×Int)->Option (((List (Int×(((List UInt8) ×
 ((Int×(List UInt8))×((Int×(List UInt8))×(Int×Bool))))×((List UInt8)×(Int×(Int×(Int×Int)))))))×Int) ⊕ ((List (Int×(((List UInt8)×((Int×(List UInt8)) ×
 ((Int×(List UInt8))×(Int×Bool))))×((List UInt8)×(Int×(Int×(Int×Int))))))) ⊕ (List (Int×(((List UInt8)×((Int×(List UInt8))×((Int×(List UInt8))×(Int ×
 Bool))))×((List UInt8)×(Int×(Int×(Int×Int))))))))):=fun (z2:((List (Int×(((List UInt8)×((Int×(List UInt8))×((Int×(List UInt8))×(Int×Bool))))×((List
 UInt8)×(Int×(Int×(Int×Int)))))))×Int))=>(cnd (iLt z2.2 (lLen x.2.2)) (bnd (idx x.2.2 z2.2) (fun z3=>(chk (room (z2.1.length+1) 152) (some
 (.inl ((lApp z2.1 [(4,(([],((0,[]),((0,[]),(0,false)))),([],(0,(z3.1,(z3.2.1,z3.2.2))))))]),(iAdd .i64 z2.2 1))))))) (some (.inr (.inl z2.1))))
def Zdc (x:((List ((List UInt8)×((Int×(List UInt8))×((Int×(List UInt8))×(Int×Bool)))))×(Int×(List (Int×(Int×Int)))))):(Option (List
 (Int×(((List UInt8)×((Int×(List UInt8))×((Int×(List UInt8))×(Int×Bool))))×((List UInt8)×(Int×(Int×(Int×Int)))))))):=(joinX (loopX (Zhd x) ([(3,
 (([],((0,[]),((0,[]),(0,false)))),([],(x.2.1,(0,(0,0))))))],0)) (fun (z1:(List (Int×(((List UInt8)×((Int×(List UInt8))×((Int×(List UInt8))×(Int ×
 Bool))))×((List UInt8)×(Int×(Int×(Int×Int))))))))=>(joinX (loopX (Zhe x) (z1,0)) (fun (z2:(List (Int×(((List UInt8)×((Int×(List UInt8))×((Int ×
 (List UInt8))×(Int×Bool))))×((List UInt8)×(Int×(Int×(Int×Int))))))))=>(some z2)))))
def Zbm (x:(Int×Int)):(Option Int):=(some (iAdd .i64 (iAdd .i64 2 (iMul .i64 30 (iRem x.1 2))) x.2))
def Zfa (x:(((List UInt8)×((Int×(List UInt8))×((Int×(List UInt8))×(Int×Bool))))×((List UInt8)×((Int×(List UInt8))×((Int×(List UInt8))
 × (Int×Bool)))))):(Option Bool):=(cnd (sEq x.1.1 x.2.1) (bnd (Zm ((x.1.2.1.1,x.1.2.1.2),(x.2.2.1.1,x.2.2.1.2))) (fun z1=>(cnd z1 (bnd (Zm
 ((x.1.2.2.1.1,x.1.2.2.1.2),(x.2.2.2.1.1,x.2.2.2.1.2))) (fun z2=>(cnd z2 (cnd (iEq x.1.2.2.2.1 x.2.2.2.2.1) (some (bEq x.1.2.2.2.2 x.2.2.2.2.2)) (some false)) (some
 false)))) (some false)))) (some false))
def Zdd (x:(Int×(((List UInt8)×((Int×(List UInt8))×((Int×(List UInt8))×(Int×Bool))))×((List UInt8)×(Int×(Int×(Int×Int))))))):(Option
 Bool):=(bnd (Zfa ((x.2.1.1,((x.2.1.2.1.1,x.2.1.2.1.2),((x.2.1.2.2.1.1,x.2.1.2.2.1.2),(x.2.1.2.2.2.1,x.2.1.2.2.2.2)))),([],((0,[]),((0,[]),(0,false))))))
 (fun z1=>(joinX (cnd (iEq x.1 1) (bnd (Zba (x.2.1.1,((x.2.1.2.1.1,x.2.1.2.1.2),((x.2.1.2.2.1.1,x.2.1.2.2.1.2),(x.2.1.2.2.2.1,x.2.1.2.2.2.2))))) (fun z2=>(cnd z2 (cnd (sEq x.2.2.1 []) (some (.inl (iEq x.2.2.2.1 0))) (some (.inl false))) (some (.inl false))))) (cnd (iEq x.1 2) (cnd z1 (bnd (Zcz x.2.2.1) (fun z2=>(cnd z2 (some (.inl (iEq x.2.2.2.1 0))) (some (.inl false))))) (some (.inl false))) (cnd (iEq x.1 3) (cnd z1 (cnd (sEq x.2.2.1 []) (bnd (Zd (x.2.2.2.1,(0,7)))
 (fun z2=>(some (.inl z2)))) (some (.inl false))) (some (.inl false))) (cnd (iEq x.1 4) (cnd z1 (cnd (sEq x.2.2.1 []) (cnd (iEq x.2.2.2.1 0) (some (.inl (iNe
 x.2.2.2.2.1 0))) (some (.inl false))) (some (.inl false))) (some (.inl false))) (some (.inl false)))))) (fun (z2:Bool)=>(cnd (iEq x.2.2.2.2.1 0) (cnd z2 (cnd (iEq
 x.2.2.2.2.2.1 0) (some (iEq x.2.2.2.2.2.2 0)) (some false)) (some false)) (cnd z2 (bnd (Zd (x.2.2.2.2.1,(1,9))) (fun z3=>(cnd z3 (bnd (Zbb
 x.2.2.2.2.2.1) (fun z4=>(cnd z4 (bnd (Zd (x.2.2.2.2.2.2,(0,6))) (fun z5=>(some z5))) (some false)))) (some false)))) (some false)))))))
def Zg (x:((List UInt8)×Int)):(Option (List UInt8)):=(bnd (Zh [x.1,[(u8 (iConv .u8 (iAnd .i64 (iShr .i64 x.2 8) 255))),(u8 (iConv .u8 (iAnd
 .i64 x.2 255)))]]) (fun z1=>(some z1)))
def Zn (x:((List UInt8)×(List UInt8))):(Option (List UInt8)):=(cnd (iGt (lLen x.2) 60) (bnd (Zh [x.1]) (fun z1=>(some
 z1))) (bnd (Zg (x.1,(lLen x.2))) (fun z1=>(bnd (Zh [z1,x.2]) (fun z2=>(some z2))))))
def Zgj (x:Bool):(Option UInt8):=(cnd x (some (u8 1)) (some (u8 0)))
def Zbn (x:((List UInt8)×((List UInt8)×((Int×(List UInt8))×((Int×(List UInt8))×(Int×Bool)))))):(Option (List UInt8)):=(bnd (Zh
 [x.1]) (fun z1=>(bnd (Zba (x.2.1,((x.2.2.1.1,x.2.2.1.2),((x.2.2.2.1.1,x.2.2.2.1.2),(x.2.2.2.2.1,x.2.2.2.2.2))))) (fun z2=>(cnd (bNot z2)
 (some z1) (bnd (Zn (z1,x.2.1)) (fun z3=>(bnd (Zgj x.2.2.2.2.2) (fun z4=>(chk (room (z3.length+2) 1) (joinX (cnd (iNe x.2.2.2.2.1
 2) (chk (room ((lApp z3 [(u8 (iConv .u8 x.2.2.2.2.1)),z4]).length+1) 1) (bnd (Zn ((lApp (lApp z3 [(u8 (iConv .u8 x.2.2.2.2.1)),z4]) [(u8 (iConv .u8 x.2.2.1.1))]),
 x.2.2.1.2)) (fun z5=>(some (.inl z5))))) (some (.inl (lApp z3 [(u8 (iConv .u8 x.2.2.2.2.1)),z4])))) (fun (z5:(List UInt8))=>(joinX (cnd (iNe x.2.2.2.2.1
 1) (chk (room (z5.length+1) 1) (bnd (Zn ((lApp z5 [(u8 (iConv .u8 x.2.2.2.1.1))]),x.2.2.2.1.2)) (fun z6=>(some (.inl z6))))) (some (.inl z5))) (fun
 (z6:(List UInt8))=>(some z6)))))))))))))))
def Zhf:(Int×Int)->Option ((Int×Int) ⊕ (Int ⊕ ((Int×Int) ⊕ (Int ⊕ Int)))):=fun (z3:(Int×Int))=>(cnd (iLt z3.2 8) (joinX (cnd (iGt (iMul .i64
 z3.1 2) 65535) (some (.inl (iXor .i64 (iMul .i64 z3.1 2) 69665))) (some (.inl (iMul .i64 z3.1 2)))) (fun (z4:Int)=>(some (.inl (z4,(iAdd .i64 z3.2 1)))))) (some (.inr (.inl
 z3.1))))
def Zhg (x:(List UInt8)):(Int×Int)->Option ((Int×Int) ⊕ (Int ⊕ Int)):=fun (z1:(Int×Int))=>(cnd (iLt z1.2 (lLen x)) (joinX (bnd (idx x z1.2)
 (fun z2=>(loopX (Zhf) ((iXor .i64 z1.1 (iMul .i64 256 (iConv .i64 (y2i z2)))),0)))) (fun (z2:Int)=>(some (.inl (z2,(iAdd .i64 z1.2 1)))))) (some (.inr
 (.inl z1.1))))
def Zbo (x:(List UInt8)):(Option Int):=(joinX (loopX (Zhg x) (65535,0)) (fun (z1:Int)=>(some (iAnd .i64 z1 65535))))
def Zbp (x:(Int×(Int×(Int×(((List UInt8)×((Int×(List UInt8))×((Int×(List UInt8))×(Int×Bool))))×((List UInt8)×(Int×(Int×(Int ×
 Int))))))))):(Option (List UInt8)):=(bnd (Zdd (x.2.2.1,((x.2.2.2.1.1,((x.2.2.2.1.2.1.1,x.2.2.2.1.2.1.2),((x.2.2.2.1.2.2.1.1,x.2.2.2.1.2.2.1.2),(x.2.2.2.1.2.2.2.1,
 x.2.2.2.1.2.2.2.2)))),(x.2.2.2.2.1,(x.2.2.2.2.2.1,(x.2.2.2.2.2.2.1,(x.2.2.2.2.2.2.2.1,x.2.2.2.2.2.2.2.2))))))) (fun z1=>(cnd (bNot z1) (some []) (bnd (Zbb
 x.1) (fun z2=>(cnd (bNot z2) (some []) (bnd (Zbb x.2.1) (fun z3=>(cnd (bNot z3) (some []) (alt2 (bnd (Zg ([],x.1)) (fun z4 =>
 (bnd (Zg (z4,x.2.1)) (fun z5=>(chk (room (z5.length+1) 1) (joinX (cnd (iEq x.2.2.1 1) (bnd (Zbn ((lApp z5 [(u8 (iConv .u8 x.2.2.1))]),
 (x.2.2.2.1.1,((x.2.2.2.1.2.1.1,x.2.2.2.1.2.1.2),((x.2.2.2.1.2.2.1.1,x.2.2.2.1.2.2.1.2),(x.2.2.2.1.2.2.2.1,x.2.2.2.1.2.2.2.2)))))) (fun z6=>(some (.inl
 z6)))) (cnd (iEq x.2.2.1 2) (bnd (Zn ((lApp z5 [(u8 (iConv .u8 x.2.2.1))]),x.2.2.2.2.1)) (fun z6=>(some (.inl z6)))) (cnd (iEq x.2.2.1 3) (chk (room
 ((lApp z5 [(u8 (iConv .u8 x.2.2.1))]).length+1) 1) (some (.inl (lApp (lApp z5 [(u8 (iConv .u8 x.2.2.1))]) [(u8 (iConv .u8 x.2.2.2.2.2.1))])))) (some (.inl (lApp z5 [(u8 (iConv
 .u8 x.2.2.1))])))))) (fun (z6:(List UInt8))=>(chk (room (z6.length+2) 1) (bnd (Zg ((lApp z6 [(u8 (iConv .u8 x.2.2.2.2.2.2.1)),(u8 (iConv .u8 x.2.2.2.2.2.2.2.2))]),
 x.2.2.2.2.2.2.2.1)) (fun z7=>(bnd (Zbo z7) (fun z8=>(bnd (Zg (z7,z8)) (fun z9=>(some z9))))))))))))))) (alt2 (bnd
 (Zg ([],x.1)) (fun z4=>(bnd (Zg (z4,x.2.1)) (fun z5=>(chk (room (z5.length+1) 1) (joinX (cnd (iEq x.2.2.1 1) (bnd
 (Zbn ((lApp z5 [(u8 (iConv .u8 x.2.2.1))]),(x.2.2.2.1.1,((x.2.2.2.1.2.1.1,x.2.2.2.1.2.1.2),((x.2.2.2.1.2.2.1.1,x.2.2.2.1.2.2.1.2),(x.2.2.2.1.2.2.2.1,
 x.2.2.2.1.2.2.2.2)))))) (fun z6=>(some (.inl z6)))) (cnd (iEq x.2.2.1 2) (bnd (Zn ((lApp z5 [(u8 (iConv .u8 x.2.2.1))]),x.2.2.2.2.1)) (fun z6=>(some (.inl z6)))) (cnd (iEq x.2.2.1 3) (chk (room ((lApp z5 [(u8 (iConv .u8 x.2.2.1))]).length+1) 1) (some (.inl (lApp (lApp z5 [(u8 (iConv .u8 x.2.2.1))])
 [(u8 (iConv .u8 x.2.2.2.2.2.1))])))) (some (.inl (lApp z5 [(u8 (iConv .u8 x.2.2.1))])))))) (fun (z6:(List UInt8))=>(chk (room (z6.length+2) 1) (bnd (Zg ((lApp z6 [(u8
 (iConv .u8 x.2.2.2.2.2.2.1)),(u8 (iConv .u8 x.2.2.2.2.2.2.2.2))]),x.2.2.2.2.2.2.2.1)) (fun z7=>(bnd (Zbo z7) (fun z8=>(bnd (Zg (z7,z8))
 (fun z9=>(some z9))))))))))))))) (bnd (Zg ([],x.1)) (fun z4=>(bnd (Zg (z4,x.2.1)) (fun z5=>(chk (room
 (z5.length+1) 1) (joinX (cnd (iEq x.2.2.1 1) (bnd (Zbn ((lApp z5 [(u8 (iConv .u8 x.2.2.1))]),(x.2.2.2.1.1,((x.2.2.2.1.2.1.1,x.2.2.2.1.2.1.2),((x.2.2.2.1.2.2.1.1,
 x.2.2.2.1.2.2.1.2),(x.2.2.2.1.2.2.2.1,x.2.2.2.1.2.2.2.2)))))) (fun z6=>(some (.inl z6)))) (cnd (iEq x.2.2.1 2) (bnd (Zn ((lApp z5 [(u8 (iConv .u8
 x.2.2.1))]),x.2.2.2.2.1)) (fun z6=>(some (.inl z6)))) (cnd (iEq x.2.2.1 3) (chk (room ((lApp z5 [(u8 (iConv .u8 x.2.2.1))]).length+1) 1) (some (.inl (lApp
 (lApp z5 [(u8 (iConv .u8 x.2.2.1))]) [(u8 (iConv .u8 x.2.2.2.2.2.1))])))) (some (.inl (lApp z5 [(u8 (iConv .u8 x.2.2.1))])))))) (fun (z6:(List UInt8))=>(chk (room (z6.length
 + 2) 1) (bnd (Zg ((lApp z6 [(u8 (iConv .u8 x.2.2.2.2.2.2.1)),(u8 (iConv .u8 x.2.2.2.2.2.2.2.2))]),x.2.2.2.2.2.2.2.1)) (fun z7=>(bnd (Zbo z7) (fun
 z8=>(bnd (Zg (z7,z8)) (fun z9=>(some z9))))))))))))))))))))))))))
def Zde (x:((List (List UInt8))×((List (Int×(List UInt8)))×(Int×Bool)))):(Option (((List (List UInt8))×((List (Int×(List UInt8)))×(Int ×
 Bool)))×Bool)):=(cnd (iEq x.2.2.1 0) (some ((x.1,(x.2.1,((-1),true))),false)) (joinX (cnd (iGt x.2.2.1 0) (some (.inl (iSub .i64 x.2.2.1 1))) (some (.inl x.2.2.1))) (fun
 (z1:Int)=>(some ((x.1,(x.2.1,(z1,x.2.2.2))),true)))))
def Zi (x:(((List (List UInt8))×((List (Int×(List UInt8)))×(Int×Bool)))×(Int×(List UInt8)))):(Option ((List (List UInt8))×((List (Int ×
 (List UInt8)))×(Int×Bool)))):=(bnd (Zx (x.1.1,(x.1.2.1,(x.1.2.2.1,x.1.2.2.2)))) (fun z1
 => (bnd (Zy (x.1.1,(x.1.2.1,(x.1.2.2.1,x.1.2.2.2)))) (fun z2=>(cnd (bNot z2) (some (z1.1,(z1.2.1,(z1.2.2.1,z1.2.2.2)))) (cnd x.1.2.2.2 (some (z1.1,
 (z1.2.1,(z1.2.2.1,z1.2.2.2)))) (bnd (Zd (x.2.1,(0,(iSub .i64 (lLen x.1.1) 1)))) (fun z3=>(cnd (bNot z3) (some (z1.1,(z1.2.1,(z1.2.2.1,z1.2.2.2)))) (cnd
 (iGt (lLen x.2.2) 120) (some (z1.1,(z1.2.1,(z1.2.2.1,z1.2.2.2)))) (cnd (iEq (lLen x.1.2.1) 40) (some (z1.1,(z1.2.1,(z1.2.2.1,z1.2.2.2)))) (bnd (Zde (z1.1,(z1.2.1,
 (z1.2.2.1,z1.2.2.2)))) (fun z4=>(joinX (cnd z4.2 (bnd (Zh [x.2.2]) (fun z5=>(chk (room (z4.1.2.1.length+1) 32) (some (.inl (lApp z4.1.2.1 [(x.2.1,z5)])))))) (some (.inl z4.1.2.1))) (fun (z5:(List (Int×(List UInt8))))=>(some (z4.1.1,
 (z5,(z4.1.2.2.1,z4.1.2.2.2)))))))))))))))))))
def Zgk (z3:(((List (List UInt8))×((List (Int×(List UInt8)))×(Int×Bool)))×Bool)):((List (List UInt8))×Int)->Option (((List (List UInt8)) ×
 Int) ⊕ ((List (List UInt8)) ⊕ ((List (List UInt8))×((List (Int×(List UInt8)))×(Int×Bool))))):=fun (z4:((List (List UInt8))×Int))=>(cnd (iLt z4.2 (lLen z3.1.2.1))
 (bnd (idx z3.1.2.1 z4.2) (fun z5=>(bnd (Zh [z5.2]) (fun z6=>(bnd (idx z4.1 z5.1) (fun z7=>(some (.inl
 ((lSet z4.1 (nOf z5.1) z6),(iAdd .i64 z4.2 1)))))))))) (some (.inr (.inl z4.1))))
def Zk (x:((List (List UInt8))×((List (Int×(List UInt8)))×(Int×Bool)))):(Option ((List (List UInt8))×((List (Int×(List UInt8)))×(Int ×
 Bool)))):=(bnd (Zx (x.1,(x.2.1,(x.2.2.1,x.2.2.2)))) (fun z1=>(bnd (Zy (x.1,
 (x.2.1,(x.2.2.1,x.2.2.2)))) (fun z2=>(cnd (bNot z2) (some (z1.1,(z1.2.1,(z1.2.2.1,z1.2.2.2)))) (cnd x.2.2.2 (some (z1.1,(z1.2.1,(z1.2.2.1,z1.2.2.2)))) (bnd
 (Zde (z1.1,(z1.2.1,(z1.2.2.1,z1.2.2.2)))) (fun z3=>(cnd (bNot z3.2) (some (z3.1.1,
 (z3.1.2.1,(z3.1.2.2.1,z3.1.2.2.2)))) (joinX (loopX (Zgk z3) (z3.1.1,0)) (fun (z4:(List (List UInt8)))=>(some (z4,([],(z3.1.2.2.1,z3.1.2.2.2)))))))))))))))
def Zbq (x:(Int×Int)):(Option (List UInt8)):=(bnd (Zd (x.1,(1,60000))) (fun z1=>(cnd (bNot z1) (some []) (bnd (Zd (x.2,
 (0,30))) (fun z2=>(cnd (bNot z2) (some []) (bnd (Zg ([],x.1)) (fun z3=>(bnd (Zg (z3,x.2)) (fun z4=>(bnd (Zbo
 z4) (fun z5=>(bnd (Zg (z4,z5)) (fun z6=>(some z6)))))))))))))))
def Zhh (x:(((List (List UInt8))×((List (Int×(List UInt8)))×(Int×Bool)))×(Int×(List (Int×(((List UInt8)×((Int×(List UInt8))×((Int×(List
 UInt8))×(Int×Bool))))×((List UInt8)×(Int×(Int×(Int×Int)))))))))):((List (List UInt8))×((List (Int×(List UInt8)))×(Int×(Bool×Int))))->Option (((List
 (List UInt8))×((List (Int×(List UInt8)))×(Int×(Bool×Int)))) ⊕ ((List (List UInt8))×((List (Int×(List UInt8)))×(Int×Bool)))):=fun (z5:((List (List UInt8)) ×
 ((List (Int×(List UInt8)))×(Int×(Bool×Int)))))=>(cnd (iLt z5.2.2.2.2 (lLen x.2.2)) (bnd (idx x.2.2 z5.2.2.2.2) (fun z6=>(bnd (Zbm (x.2.1,z5.2.2.2.2)) (fun z7=>(bnd (Zbp (x.2.1,
 (z5.2.2.2.2,(z6.1,((z6.2.1.1,((z6.2.1.2.1.1,z6.2.1.2.1.2),((z6.2.1.2.2.1.1,z6.2.1.2.2.1.2),(z6.2.1.2.2.2.1,z6.2.1.2.2.2.2)))),(z6.2.2.1,(z6.2.2.2.1,(z6.2.2.2.2.1,
 (z6.2.2.2.2.2.1,z6.2.2.2.2.2.2))))))))) (fun z8=>(bnd (Zi ((z5.1,(z5.2.1,(z5.2.2.1,z5.2.2.2.1))),(z7,z8))) (fun z9=>(some (.inl (z9.1,(z9.2.1,(z9.2.2.1,(z9.2.2.2,(iAdd .i64 z5.2.2.2.2 1))))))))))))))) (outX (bnd (Zk (z5.1,
 (z5.2.1,(z5.2.2.1,z5.2.2.2.1)))) (fun z6=>(bnd (Zbq (x.2.1,(lLen x.2.2))) (fun z7=>(bnd (Zi ((z6.1,(z6.2.1,(z6.2.2.1,z6.2.2.2))),((iRem x.2.1 2),z7))) (fun z8 =>
 (bnd (Zk (z8.1,(z8.2.1,(z8.2.2.1,z8.2.2.2)))) (fun z9=>(some (z9.1,(z9.2.1,(z9.2.2.1,
 z9.2.2.2))))))))))))))
def Zdf (x:(((List (List UInt8))×((List (Int×(List UInt8)))×(Int×Bool)))×(Int×(List (Int×(((List UInt8)×((Int×(List UInt8))×((Int×(List
 UInt8))×(Int×Bool))))×((List UInt8)×(Int×(Int×(Int×Int)))))))))):(Option ((List (List UInt8))×((List (Int×(List UInt8)))×(Int×Bool)))):=(cnd (iLt 0
 (lLen x.2.2)) (bnd (idx x.2.2 0) (fun z1=>(bnd (Zbm (x.2.1,0)) (fun z2=>(bnd (Zbp (x.2.1,(0,(z1.1,((z1.2.1.1,((z1.2.1.2.1.1,z1.2.1.2.1.2),((z1.2.1.2.2.1.1,z1.2.1.2.2.1.2),
 (z1.2.1.2.2.2.1,z1.2.1.2.2.2.2)))),(z1.2.2.1,(z1.2.2.2.1,(z1.2.2.2.2.1,(z1.2.2.2.2.2.1,z1.2.2.2.2.2.2))))))))) (fun z3=>(bnd (Zi ((x.1.1,
 (x.1.2.1,(x.1.2.2.1,x.1.2.2.2))),(z2,z3))) (fun z4=>(loopX (Zhh x) (z4.1,(z4.2.1,
 (z4.2.2.1,(z4.2.2.2,(iAdd .i64 0 1)))))))))))))) (bnd (Zk (x.1.1,(x.1.2.1,(x.1.2.2.1,x.1.2.2.2)))) (fun z1=>(bnd (Zbq (x.2.1,(lLen x.2.2))) (fun z2=>(bnd (Zi ((z1.1,(z1.2.1,(z1.2.2.1,z1.2.2.2))),((iRem x.2.1 2),z2))) (fun z3=>(bnd (Zk (z3.1,(z3.2.1,(z3.2.2.1,z3.2.2.2)))) (fun z4=>(some (z4.1,(z4.2.1,(z4.2.2.1,z4.2.2.2)))))))))))))
def Zbr (x:(((List (List UInt8))×((List (Int×(List UInt8)))×(Int×Bool)))×(((List ((List UInt8)×((Int×(List UInt8))×((Int×(List UInt8))×(Int
 × Bool)))))×(Int×(List (Int×(Int×Int)))))×(Int×Int)))):(Option (((List (List UInt8))×((List (Int×(List UInt8)))×(Int×Bool)))×(((List ((List UInt8)×((Int
 × (List UInt8))×((Int×(List UInt8))×(Int×Bool)))))×(Int×(List (Int×(Int×Int)))))×(Int×Int)))):=(bnd (Zer ((x.1.1,(x.1.2.1,(x.1.2.2.1,
 x.1.2.2.2))),((x.2.1.1,(x.2.1.2.1,x.2.1.2.2)),(x.2.2.1,x.2.2.2)))) (fun z1=>(bnd (Zdb ((x.1.1,(x.1.2.1,(x.1.2.2.1,
 x.1.2.2.2))),((x.2.1.1,(x.2.1.2.1,x.2.1.2.2)),(x.2.2.1,x.2.2.2)))) (fun z2=>(cnd (bNot z2) (some ((z1.1.1,(z1.1.2.1,(z1.1.2.2.1,z1.1.2.2.2))),((z1.2.1.1,
 (z1.2.1.2.1,z1.2.1.2.2)),(z1.2.2.1,z1.2.2.2)))) (cnd x.1.2.2.2 (some ((z1.1.1,(z1.1.2.1,(z1.1.2.2.1,z1.1.2.2.2))),((z1.2.1.1,(z1.2.1.2.1,z1.2.1.2.2)),(z1.2.2.1,
 z1.2.2.2)))) (cnd (iEq x.2.2.1 60000) (some ((z1.1.1,(z1.1.2.1,(z1.1.2.2.1,z1.1.2.2.2))),((z1.2.1.1,(z1.2.1.2.1,z1.2.1.2.2)),(z1.2.2.1,z1.2.2.2)))) (bnd (Zdc
 (x.2.1.1,(x.2.1.2.1,x.2.1.2.2))) (fun z3=>(bnd (Zdf ((x.1.1,(x.1.2.1,(x.1.2.2.1,x.1.2.2.2))),((iAdd .i64 x.2.2.1 1),z3))) (fun z4=>(joinX (cnd (bNot z4.2.2.2) (some (.inl ((iAdd .i64 x.2.2.1 1),(lLen z3)))) (some (.inl (z1.2.2.1,z1.2.2.2)))) (fun (z5:(Int×Int))=>(some ((z4.1,(z4.2.1,
 (z4.2.2.1,z4.2.2.2))),((z1.2.1.1,(z1.2.1.2.1,z1.2.1.2.2)),(z5.1,z5.2)))))))))))))))))
def Zhi (x:((List UInt8)×(List UInt8))):(Int)->Option ((Int) ⊕ Bool):=fun (z1:Int)=>(cnd (iLt z1 (lLen x.1)) (bnd (idx x.1 z1) (fun z2=>(bnd (idx x.2 z1) (fun z3=>(cnd (iNe (y2i z2) (y2i z3)) (some (.inr false)) (some (.inl (iAdd .i64 z1 1)))))))) (some (.inr true)))
def Zbs (x:((List UInt8)×(List UInt8))):(Option Bool):=(cnd (iNe (lLen x.1) (lLen x.2)) (some false) (loopX (Zhi x) 0))
def Zic (x:((List (List UInt8))×(List (List UInt8)))):(Int)->Option ((Int) ⊕ Bool):=fun (z1:Int)=>(cnd (iLt z1 (lLen x.1)) (bnd (idx x.1 z1)
 (fun z2=>(bnd (idx x.2 z1) (fun z3=>(bnd (Zbs (z2,z3)) (fun z4=>(cnd (bNot z4) (some (.inr false)) (some (.inl (iAdd
 .i64 z1 1)))))))))) (some (.inr true)))
def Zfb (x:((List (List UInt8))×(List (List UInt8)))):(Option Bool):=(cnd (iNe (lLen x.1) (lLen x.2)) (some false) (loopX (Zic x) 0))
def Zfc (x:((Int×(List UInt8))×(Int×(List UInt8)))):(Option Bool):=(cnd (iNe x.1.1 x.2.1) (some false) (bnd (Zbs (x.1.2,x.2.2)) (fun z1=>(cnd (bNot z1) (some false) (some true)))))
def Zid (x:((List (Int×(List UInt8)))×(List (Int×(List UInt8))))):(Int)->Option ((Int) ⊕ Bool):=fun (z1:Int)=>(cnd (iLt z1 (lLen x.1)) (bnd
 (idx x.1 z1) (fun z2=>(bnd (idx x.2 z1) (fun z3=>(bnd (Zfc ((z2.1,z2.2),(z3.1,z3.2))) (fun z4=>(cnd (bNot
 z4) (some (.inr false)) (some (.inl (iAdd .i64 z1 1)))))))))) (some (.inr true)))
def Zfd (x:((List (Int×(List UInt8)))×(List (Int×(List UInt8))))):(Option Bool):=(cnd (iNe (lLen x.1) (lLen x.2)) (some false) (loopX (Zid
 x) 0))
def Zdg (x:(((List (List UInt8))×((List (Int×(List UInt8)))×(Int×Bool)))×((List (List UInt8))×((List (Int×(List UInt8)))×(Int×Bool))))) :
 (Option Bool):=(bnd (Zfb (x.1.1,x.2.1)) (fun z1=>(cnd (bNot z1) (some false) (bnd (Zfd (x.1.2.1,x.2.2.1)) (fun z2=>(cnd (bNot z2) (some
 false) (cnd (iNe x.1.2.2.1 x.2.2.2.1) (some false) (cnd (bNe x.1.2.2.2 x.2.2.2.2) (some false) (some true)))))))))
def Zdh (x:((Int×(List UInt8))×(Int×(List UInt8)))):(Option Bool):=(cnd (iNe x.1.1 x.2.1) (some false) (bnd (Zbs (x.1.2,x.2.2)) (fun z1=>(cnd (bNot z1) (some false) (some true)))))
def Zdi (x:(((List UInt8)×((Int×(List UInt8))×((Int×(List UInt8))×(Int×Bool))))×((List UInt8)×((Int×(List UInt8))×((Int×(List UInt8)) ×
 (Int×Bool)))))):(Option Bool):=(cnd (bNot (sEq x.1.1 x.2.1)) (some false) (bnd (Zdh ((x.1.2.1.1,x.1.2.1.2),(x.2.2.1.1,x.2.2.1.2))) (fun z1=>(cnd (bNot
 z1) (some false) (bnd (Zdh ((x.1.2.2.1.1,x.1.2.2.1.2),(x.2.2.2.1.1,x.2.2.2.1.2))) (fun z2=>(cnd (bNot z2) (some false) (cnd (iNe x.1.2.2.2.1 x.2.2.2.2.1)
 (some false) (cnd (bNe x.1.2.2.2.2 x.2.2.2.2.2) (some false) (some true))))))))))
def Zie (x:((List ((List UInt8)×((Int×(List UInt8))×((Int×(List UInt8))×(Int×Bool)))))×(List ((List UInt8)×((Int×(List UInt8))×((Int ×
 (List UInt8))×(Int×Bool))))))):(Int)->Option ((Int) ⊕ Bool):=fun (z1:Int)=>(cnd (iLt z1 (lLen x.1)) (bnd (idx x.1 z1) (fun z2=>(bnd (idx x.2 z1) (fun z3=>(bnd
 (Zdi ((z2.1,((z2.2.1.1,z2.2.1.2),((z2.2.2.1.1,z2.2.2.1.2),(z2.2.2.2.1,z2.2.2.2.2)))),(z3.1,((z3.2.1.1,z3.2.1.2),((z3.2.2.1.1,z3.2.2.1.2),(z3.2.2.2.1,
 z3.2.2.2.2)))))) (fun z4=>(cnd (bNot z4) (some (.inr false)) (some (.inl (iAdd .i64 z1 1)))))))))) (some (.inr true)))
def Zfe (x:((List ((List UInt8)×((Int×(List UInt8))×((Int×(List UInt8))×(Int×Bool)))))×(List ((List UInt8)×((Int×(List UInt8))×((Int ×
 (List UInt8))×(Int×Bool))))))):(Option Bool):=(cnd (iNe (lLen x.1) (lLen x.2)) (some false) (loopX (Zie x) 0))
def Zff (x:((Int×(Int×Int))×(Int×(Int×Int)))):(Option Bool):=(cnd (iNe x.1.1 x.2.1) (some false) (cnd (iNe x.1.2.1 x.2.2.1) (some false) (cnd
 (iNe x.1.2.2 x.2.2.2) (some false) (some true))))
def Zif (x:((List (Int×(Int×Int)))×(List (Int×(Int×Int))))):(Int)->Option ((Int) ⊕ Bool):=fun (z1:Int)=>(cnd (iLt z1 (lLen x.1)) (bnd
 (idx x.1 z1) (fun z2=>(bnd (idx x.2 z1) (fun z3=>(bnd (Zff ((z2.1,(z2.2.1,z2.2.2)),(z3.1,(z3.2.1,z3.2.2)))) (fun
 z4=>(cnd (bNot z4) (some (.inr false)) (some (.inl (iAdd .i64 z1 1)))))))))) (some (.inr true)))
def Zfg (x:((List (Int×(Int×Int)))×(List (Int×(Int×Int))))):(Option Bool):=(cnd (iNe (lLen x.1) (lLen x.2)) (some false) (loopX (Zif
 x) 0))
def Zdj (x:(((List ((List UInt8)×((Int×(List UInt8))×((Int×(List UInt8))×(Int×Bool)))))×(Int×(List (Int×(Int×Int)))))×((List ((List
 UInt8)×((Int×(List UInt8))×((Int×(List UInt8))×(Int×Bool)))))×(Int×(List (Int×(Int×Int))))))):(Option Bool):=(bnd (Zfe (x.1.1,x.2.1)) (fun z1=>(cnd (bNot z1) (some false) (cnd (iNe x.1.2.1 x.2.2.1) (some false) (bnd (Zfg (x.1.2.2,x.2.2.2)) (fun z2=>(cnd (bNot z2) (some false) (some
 true))))))))
def Zo (x:((((List (List UInt8))×((List (Int×(List UInt8)))×(Int×Bool)))×(((List ((List UInt8)×((Int×(List UInt8))×((Int×(List UInt8)) ×
 (Int×Bool)))))×(Int×(List (Int×(Int×Int)))))×(Int×Int)))×(((List (List UInt8))×((List (Int×(List UInt8)))×(Int×Bool)))×(((List ((List UInt8)×((Int ×
 (List UInt8))×((Int×(List UInt8))×(Int×Bool)))))×(Int×(List (Int×(Int×Int)))))×(Int×Int))))):(Option Bool):=(bnd (Zdg ((x.1.1.1,(x.1.1.2.1,
 (x.1.1.2.2.1,x.1.1.2.2.2))),(x.2.1.1,(x.2.1.2.1,(x.2.1.2.2.1,x.2.1.2.2.2))))) (fun z1=>(cnd (bNot z1) (some false) (bnd (Zdj ((x.1.2.1.1,(x.1.2.1.2.1,
 x.1.2.1.2.2)),(x.2.2.1.1,(x.2.2.1.2.1,x.2.2.1.2.2)))) (fun z2=>(cnd (bNot z2) (some false) (cnd (iNe x.1.2.2.1 x.2.2.2.1) (some false) (cnd (iNe x.1.2.2.2
 x.2.2.2.2) (some false) (some true)))))))))
def Zgl:((List UInt8)×(Int×Int))->Option (((List UInt8)×(Int×Int)) ⊕ (((List UInt8)×Int) ⊕ (Int×(List UInt8)))):=fun (z1:((List UInt8)
 × (Int×Int)))=>(cnd (iLt z1.2.2 (lLen z1.1)) (bnd (idx z1.1 z1.2.2) (fun z2=>(some (.inl ((lSet z1.1 (nOf z1.2.2) (u8 (iConv .u8 z1.2.1))),((iAdd .i64 z1.2.1 1),
 (iAdd .i64 z1.2.2 1))))))) (some (.inr (.inl (z1.1,z1.2.1)))))
def Zbh (x:((List UInt8)×Int)):(Option (Int×(List UInt8))):=(joinX (loopX (Zgl) (x.1,(x.2,0))) (fun (z1:((List UInt8)×Int)) =>
 (chk (nEq z1.1.length x.1.length) (some (z1.2,z1.1)))))
def Zfh:((List (List UInt8))×(Int×Int))->Option (((List (List UInt8))×(Int×Int)) ⊕ (((List (List UInt8))×Int) ⊕ (Int×(List (List
 UInt8))))):=fun (z1:((List (List UInt8))×(Int×Int)))=>(cnd (iLt z1.2.2 (lLen z1.1)) (bnd (idx z1.1 z1.2.2) (fun z2=>(bnd (idx z1.1 (Int.ofNat (nOf
 z1.2.2))) (fun z3=>(chk (nEq z3.length z2.length) (bnd (Zbh (z2,z1.2.1)) (fun z4=>(chk (nEq z4.2.length z2.length) (bnd
 (idx z1.1 (Int.ofNat (nOf z1.2.2))) (fun z5=>(some (.inl ((lSet z1.1 (nOf z1.2.2) z4.2),(z4.1,(iAdd .i64 z1.2.2 1))))))))))))))) (some (.inr (.inl (z1.1,
 z1.2.1)))))
def Zdk (x:((List (List UInt8))×Int)):(Option (Int×(List (List UInt8)))):=(joinX (loopX (Zfh) (x.1,(x.2,0))) (fun (z1:((List
 (List UInt8))×Int))=>(chk (nEq z1.1.length x.1.length) (some (z1.2,z1.1)))))
def Zfi:((List (Int×(List UInt8)))×(Int×Int))->Option (((List (Int×(List UInt8)))×(Int×Int)) ⊕ (((List (Int×(List UInt8)))×Int) ⊕ (Int ×
 (List (Int×(List UInt8)))))):=fun (z1:((List (Int×(List UInt8)))×(Int×Int)))=>(cnd (iLt z1.2.2 (lLen z1.1)) (bnd (idx z1.1 z1.2.2) (fun z2
 => (bnd (idx (lSet z1.1 (nOf z1.2.2) (z1.2.1,z2.2)) z1.2.2) (fun z3=>(bnd (idx (lSet z1.1 (nOf z1.2.2) (z1.2.1,z2.2)) (Int.ofNat (nOf z1.2.2))) (fun
 z4=>(chk (nEq z4.2.length z3.2.length) (bnd (Zbh (z3.2,(iAdd .i64 z1.2.1 1))) (fun z5=>(chk (nEq z5.2.length
 z3.2.length) (bnd (idx (lSet z1.1 (nOf z1.2.2) (z1.2.1,z2.2)) (Int.ofNat (nOf z1.2.2))) (fun z6=>(some (.inl ((lSet (lSet z1.1 (nOf z1.2.2) (z1.2.1,
 z2.2)) (nOf z1.2.2) (z6.1,z5.2)),(z5.1,(iAdd .i64 z1.2.2 1))))))))))))))))) (some (.inr (.inl (z1.1,z1.2.1)))))
def Zdl (x:((List (Int×(List UInt8)))×Int)):(Option (Int×(List (Int×(List UInt8))))):=(joinX (loopX (Zfi) (x.1,(x.2,0))) (fun (z1 :
 ((List (Int×(List UInt8)))×Int))=>(chk (nEq z1.1.length x.1.length) (some (z1.2,z1.1)))))
def Zdm (x:(((List (List UInt8))×((List (Int×(List UInt8)))×(Int×Bool)))×Int)):(Option (Int×((List (List UInt8))×(List (Int×(List
 UInt8)))))):=(bnd (Zdk (x.1.1,x.2)) (fun z1=>(chk (nEq z1.2.length x.1.1.length) (bnd (Zdl (x.1.2.1,z1.1)) (fun z2=>(chk (nEq z2.2.length x.1.2.1.length) (chk (nEq z1.2.length x.1.1.length) (chk (nEq z2.2.length x.1.2.1.length) (some (z2.1,(z1.2,
 z2.2)))))))))))
def Zgm:(Int×(List UInt8))->Option ((Int×(List UInt8)) ⊕ ((List UInt8) ⊕ (List UInt8))):=fun (z1:(Int×(List UInt8)))=>(cnd (iGt z1.1 0) (chk
 (small [(u8 (iConv .u8 (iAdd .i64 48 (iRem z1.1 10))))] z1.2) (some (.inl ((iQuo .i64 z1.1 10),(lApp [(u8 (iConv .u8 (iAdd .i64 48 (iRem z1.1 10))))] z1.2))))) (some (.inr (.inl
 z1.2))))
def Zdn (x:Int):(Option (List UInt8)):=(cnd (iLe x 0) (some [109,48]) (joinX (loopX (Zgm) (x,[])) (fun (z1:(List UInt8))=>(chk (small
 [109] z1) (some (lApp [109] z1))))))
def Zfj:((List ((List UInt8)×((Int×(List UInt8))×((Int×(List UInt8))×(Int×Bool)))))×(Int×Int))->Option (((List ((List UInt8)×((Int ×
 (List UInt8))×((Int×(List UInt8))×(Int×Bool)))))×(Int×Int)) ⊕ (((List ((List UInt8)×((Int×(List UInt8))×((Int×(List UInt8))×(Int×Bool)))))×Int) ⊕ (Int ×
 (List ((List UInt8)×((Int×(List UInt8))×((Int×(List UInt8))×(Int×Bool)))))))):=fun (z1:((List ((List UInt8)×((Int×(List UInt8))×((Int×(List UInt8))×(Int
 × Bool)))))×(Int×Int)))=>(cnd (iLt z1.2.2 (lLen z1.1)) (bnd (Zdn z1.2.1) (fun z2=>(bnd (idx z1.1 z1.2.2) (fun z3=>(bnd (idx (lSet z1.1 (nOf z1.2.2) (z2,((z3.2.1.1,z3.2.1.2),((z3.2.2.1.1,z3.2.2.1.2),(z3.2.2.2.1,z3.2.2.2.2)))))
 z1.2.2) (fun z4=>(bnd (idx (lSet (lSet z1.1 (nOf z1.2.2) (z2,((z3.2.1.1,z3.2.1.2),
 ((z3.2.2.1.1,z3.2.2.1.2),(z3.2.2.2.1,z3.2.2.2.2))))) (nOf z1.2.2) (z4.1,(((iAdd .i64 z1.2.1 1),z4.2.1.2),((z4.2.2.1.1,z4.2.2.1.2),(z4.2.2.2.1,z4.2.2.2.2))))) z1.2.2)
 (fun z5=>(bnd (idx (lSet (lSet z1.1 (nOf z1.2.2) (z2,((z3.2.1.1,z3.2.1.2),((z3.2.2.1.1,
 z3.2.2.1.2),(z3.2.2.2.1,z3.2.2.2.2))))) (nOf z1.2.2) (z4.1,(((iAdd .i64 z1.2.1 1),z4.2.1.2),((z4.2.2.1.1,z4.2.2.1.2),(z4.2.2.2.1,z4.2.2.2.2))))) (Int.ofNat (nOf z1.2.2)))
 (fun z6=>(chk (nEq z6.2.1.2.length z5.2.1.2.length) (bnd (Zbh (z5.2.1.2,(iAdd
 .i64 (iAdd .i64 z1.2.1 1) 1))) (fun z7=>(chk (nEq z7.2.length z5.2.1.2.length) (bnd (idx (lSet (lSet z1.1 (nOf z1.2.2) (z2,((z3.2.1.1,z3.2.1.2),
 ((z3.2.2.1.1,z3.2.2.1.2),(z3.2.2.2.1,z3.2.2.2.2))))) (nOf z1.2.2) (z4.1,(((iAdd .i64 z1.2.1 1),z4.2.1.2),((z4.2.2.1.1,z4.2.2.1.2),(z4.2.2.2.1,z4.2.2.2.2))))) (Int.ofNat
 (nOf z1.2.2))) (fun z8=>(bnd (idx (lSet (lSet (lSet z1.1 (nOf z1.2.2) (z2,((z3.2.1.1,
 z3.2.1.2),((z3.2.2.1.1,z3.2.2.1.2),(z3.2.2.2.1,z3.2.2.2.2))))) (nOf z1.2.2) (z4.1,(((iAdd .i64 z1.2.1 1),z4.2.1.2),((z4.2.2.1.1,z4.2.2.1.2),(z4.2.2.2.1,z4.2.2.2.2)))))
 (nOf z1.2.2) (z8.1,((z8.2.1.1,z7.2),z8.2.2))) z1.2.2) (fun z9=>(bnd (idx (lSet (lSet
 (lSet (lSet z1.1 (nOf z1.2.2) (z2,((z3.2.1.1,z3.2.1.2),((z3.2.2.1.1,z3.2.2.1.2),(z3.2.2.2.1,z3.2.2.2.2))))) (nOf z1.2.2) (z4.1,(((iAdd .i64 z1.2.1 1),z4.2.1.2),
 ((z4.2.2.1.1,z4.2.2.1.2),(z4.2.2.2.1,z4.2.2.2.2))))) (nOf z1.2.2) (z8.1,((z8.2.1.1,z7.2),z8.2.2))) (nOf z1.2.2) (z9.1,((z9.2.1.1,z9.2.1.2),((z7.1,z9.2.2.1.2),
 (z9.2.2.2.1,z9.2.2.2.2))))) z1.2.2) (fun z10=>(bnd (idx (lSet (lSet (lSet (lSet z1.1 (nOf
 z1.2.2) (z2,((z3.2.1.1,z3.2.1.2),((z3.2.2.1.1,z3.2.2.1.2),(z3.2.2.2.1,z3.2.2.2.2))))) (nOf z1.2.2) (z4.1,(((iAdd .i64 z1.2.1 1),z4.2.1.2),((z4.2.2.1.1,z4.2.2.1.2),
 (z4.2.2.2.1,z4.2.2.2.2))))) (nOf z1.2.2) (z8.1,((z8.2.1.1,z7.2),z8.2.2))) (nOf z1.2.2) (z9.1,((z9.2.1.1,z9.2.1.2),((z7.1,z9.2.2.1.2),(z9.2.2.2.1,z9.2.2.2.2)))))
 (Int.ofNat (nOf z1.2.2))) (fun z11=>(chk (nEq z11.2.2.1.2.length z10.2.2.1.2.length) (bnd
 (Zbh (z10.2.2.1.2,(iAdd .i64 z7.1 1))) (fun z12=>(chk (nEq z12.2.length z10.2.2.1.2.length) (bnd (idx (lSet (lSet (lSet (lSet z1.1 (nOf
 z1.2.2) (z2,((z3.2.1.1,z3.2.1.2),((z3.2.2.1.1,z3.2.2.1.2),(z3.2.2.2.1,z3.2.2.2.2))))) (nOf z1.2.2) (z4.1,(((iAdd .i64 z1.2.1 1),z4.2.1.2),((z4.2.2.1.1,z4.2.2.1.2),
 (z4.2.2.2.1,z4.2.2.2.2))))) (nOf z1.2.2) (z8.1,((z8.2.1.1,z7.2),z8.2.2))) (nOf z1.2.2) (z9.1,((z9.2.1.1,z9.2.1.2),((z7.1,z9.2.2.1.2),(z9.2.2.2.1,z9.2.2.2.2)))))
 (Int.ofNat (nOf z1.2.2))) (fun z13=>(bnd (idx (lSet (lSet (lSet (lSet (lSet z1.1 (nOf
 z1.2.2) (z2,((z3.2.1.1,z3.2.1.2),((z3.2.2.1.1,z3.2.2.1.2),(z3.2.2.2.1,z3.2.2.2.2))))) (nOf z1.2.2) (z4.1,(((iAdd .i64 z1.2.1 1),z4.2.1.2),((z4.2.2.1.1,z4.2.2.1.2),
 (z4.2.2.2.1,z4.2.2.2.2))))) (nOf z1.2.2) (z8.1,((z8.2.1.1,z7.2),z8.2.2))) (nOf z1.2.2) (z9.1,((z9.2.1.1,z9.2.1.2),((z7.1,z9.2.2.1.2),(z9.2.2.2.1,z9.2.2.2.2))))) (nOf
 z1.2.2) (z13.1,(z13.2.1,((z13.2.2.1.1,z12.2),z13.2.2.2)))) z1.2.2) (fun z14=>(bnd (idx
 (lSet (lSet (lSet (lSet (lSet (lSet z1.1 (nOf z1.2.2) (z2,((z3.2.1.1,z3.2.1.2),((z3.2.2.1.1,z3.2.2.1.2),(z3.2.2.2.1,z3.2.2.2.2))))) (nOf z1.2.2) (z4.1,(((iAdd .i64 z1.2.1
 1),z4.2.1.2),((z4.2.2.1.1,z4.2.2.1.2),(z4.2.2.2.1,z4.2.2.2.2))))) (nOf z1.2.2) (z8.1,((z8.2.1.1,z7.2),z8.2.2))) (nOf z1.2.2) (z9.1,((z9.2.1.1,z9.2.1.2),((z7.1,
 z9.2.2.1.2),(z9.2.2.2.1,z9.2.2.2.2))))) (nOf z1.2.2) (z13.1,(z13.2.1,((z13.2.2.1.1,z12.2),z13.2.2.2)))) (nOf z1.2.2) (z14.1,((z14.2.1.1,z14.2.1.2),((z14.2.2.1.1,
 z14.2.2.1.2),(z12.1,z14.2.2.2.2))))) z1.2.2) (fun z15=>(some (.inl ((lSet (lSet (lSet
 (lSet (lSet (lSet (lSet z1.1 (nOf z1.2.2) (z2,((z3.2.1.1,z3.2.1.2),((z3.2.2.1.1,z3.2.2.1.2),(z3.2.2.2.1,z3.2.2.2.2))))) (nOf z1.2.2) (z4.1,(((iAdd .i64 z1.2.1 1),
 z4.2.1.2),((z4.2.2.1.1,z4.2.2.1.2),(z4.2.2.2.1,z4.2.2.2.2))))) (nOf z1.2.2) (z8.1,((z8.2.1.1,z7.2),z8.2.2))) (nOf z1.2.2) (z9.1,((z9.2.1.1,z9.2.1.2),((z7.1,
 z9.2.2.1.2),(z9.2.2.2.1,z9.2.2.2.2))))) (nOf z1.2.2) (z13.1,(z13.2.1,((z13.2.2.1.1,z12.2),z13.2.2.2)))) (nOf z1.2.2) (z14.1,((z14.2.1.1,z14.2.1.2),((z14.2.2.1.1,
 z14.2.2.1.2),(z12.1,z14.2.2.2.2))))) (nOf z1.2.2) (z15.1,((z15.2.1.1,z15.2.1.2),((z15.2.2.1.1,z15.2.2.1.2),(z15.2.2.2.1,(iEq (iRem (iAdd .i64 z12.1 1) 3) 0)))))),((iAdd
 .i64 (iAdd .i64 z12.1 1) 1),(iAdd .i64 z1.2.2 1))))))))))))))))))))))))))))))))))))) (some (.inr (.inl (z1.1,z1.2.1)))))
def Zdo (x:((List ((List UInt8)×((Int×(List UInt8))×((Int×(List UInt8))×(Int×Bool)))))×Int)):(Option (Int×(List ((List UInt8)×((Int ×
 (List UInt8))×((Int×(List UInt8))×(Int×Bool))))))):=(joinX (loopX (Zfj) (x.1,(x.2,0))) (fun (z1:((List ((List UInt8)×((Int×(List UInt8))×((Int ×
 (List UInt8))×(Int×Bool)))))×Int))=>(chk (nEq z1.1.length x.1.length) (some (z1.2,z1.1)))))
def Zfk:((List (Int×(Int×Int)))×(Int×Int))->Option (((List (Int×(Int×Int)))×(Int×Int)) ⊕ (((List (Int×(Int×Int)))×Int) ⊕ (Int ×
 (List (Int×(Int×Int)))))):=fun (z1:((List (Int×(Int×Int)))×(Int×Int)))=>(cnd (iLt z1.2.2 (lLen z1.1)) (bnd (idx z1.1 z1.2.2) (fun z2 =>
 (bnd (idx (lSet z1.1 (nOf z1.2.2) (z1.2.1,(z2.2.1,z2.2.2))) z1.2.2) (fun z3=>(bnd (idx (lSet (lSet z1.1 (nOf z1.2.2) (z1.2.1,(z2.2.1,z2.2.2))) (nOf
 z1.2.2) (z3.1,((iAdd .i64 z1.2.1 1),z3.2.2))) z1.2.2) (fun z4=>(some (.inl ((lSet (lSet (lSet z1.1 (nOf z1.2.2) (z1.2.1,(z2.2.1,z2.2.2))) (nOf
 z1.2.2) (z3.1,((iAdd .i64 z1.2.1 1),z3.2.2))) (nOf z1.2.2) (z4.1,(z4.2.1,(iAdd .i64 (iAdd .i64 z1.2.1 1) 1)))),((iAdd .i64 (iAdd .i64 (iAdd .i64 z1.2.1 1) 1) 1),(iAdd .i64
 z1.2.2 1))))))))))) (some (.inr (.inl (z1.1,z1.2.1)))))
def Zdp (x:((List (Int×(Int×Int)))×Int)):(Option (Int×(List (Int×(Int×Int))))):=(joinX (loopX (Zfk) (x.1,(x.2,0))) (fun (z1
 : ((List (Int×(Int×Int)))×Int))=>(chk (nEq z1.1.length x.1.length) (some (z1.2,z1.1)))))
def Zdq (x:(((List ((List UInt8)×((Int×(List UInt8))×((Int×(List UInt8))×(Int×Bool)))))×(Int×(List (Int×(Int×Int)))))×Int)):(Option
 (Int×((List ((List UInt8)×((Int×(List UInt8))×((Int×(List UInt8))×(Int×Bool)))))×(List (Int×(Int×Int)))))):=(bnd (Zdo (x.1.1,x.2)) (fun z1=>(chk (nEq z1.2.length x.1.1.length) (bnd (Zdp (x.1.2.2,z1.1)) (fun z2=>(chk (nEq z2.2.length x.1.2.2.length) (chk (nEq z1.2.length x.1.1.length) (chk (nEq z2.2.length x.1.2.2.length) (some (z2.1,(z1.2,
 z2.2)))))))))))
def Zbt (x:((((List (List UInt8))×((List (Int×(List UInt8)))×(Int×Bool)))×(((List ((List UInt8)×((Int×(List UInt8))×((Int×(List UInt8))
 × (Int×Bool)))))×(Int×(List (Int×(Int×Int)))))×(Int×Int)))×Int)):(Option (Int×((List (List UInt8))×((List (Int×(List UInt8)))×((List ((List UInt8) ×
 ((Int×(List UInt8))×((Int×(List UInt8))×(Int×Bool)))))×(List (Int×(Int×Int)))))))):=(bnd (Zdm ((x.1.1.1,(x.1.1.2.1,(x.1.1.2.2.1,x.1.1.2.2.2))),x.2))
 (fun z1=>(chk (nEq z1.2.1.length x.1.1.1.length) (chk (nEq z1.2.2.length x.1.1.2.1.length) (bnd (Zdq
 ((x.1.2.1.1,(x.1.2.1.2.1,x.1.2.1.2.2)),z1.1)) (fun z2=>(chk (nEq z2.2.1.length x.1.2.1.1.length) (chk (nEq z2.2.2.length x.1.2.1.2.2.length) (chk (nEq z1.2.1.length x.1.1.1.length) (chk (nEq z1.2.2.length
 x.1.1.2.1.length) (chk (nEq z2.2.1.length x.1.2.1.1.length) (chk (nEq z2.2.2.length x.1.2.1.2.2.length) (some (z2.1,(z1.2.1,(z1.2.2,(z2.2.1,z2.2.2)))))))))))))))))
def Zhj (x:((List UInt8)×Int)):(Int×Int)->Option ((Int×Int) ⊕ (Int ⊕ Int)):=fun (z1:(Int×Int))=>(cnd (iLt z1.2 (lLen x.1)) (bnd (idx
 x.1 z1.2) (fun z2=>(cnd (iNe (y2i z2) (y2i (u8 (iConv .u8 z1.1)))) (some (.inr (.inr (-1)))) (some (.inl ((iAdd .i64 z1.1 1),(iAdd .i64 z1.2 1))))))) (some (.inr
 (.inl z1.1))))
def Zbc (x:((List UInt8)×Int)):(Option Int):=(joinX (loopX (Zhj x) (x.2,0)) (fun (z1:Int)=>(some z1)))
def Zhk (x:((List (List UInt8))×Int)):(Int×Int)->Option ((Int×Int) ⊕ (Int ⊕ Int)):=fun (z1:(Int×Int))=>(cnd (iLt z1.2 (lLen x.1)) (bnd
 (idx x.1 z1.2) (fun z2=>(bnd (Zbc (z2,z1.1)) (fun z3=>(cnd (iLt z3 0) (some (.inr (.inr (-1)))) (some (.inl (z3,(iAdd .i64 z1.2
 1))))))))) (some (.inr (.inl z1.1))))
def Zdr (x:((List (List UInt8))×Int)):(Option Int):=(joinX (loopX (Zhk x) (x.2,0)) (fun (z1:Int)=>(some z1)))
def Zgn (x:((List (Int×(List UInt8)))×Int)):(Int×Int)->Option ((Int×Int) ⊕ (Int ⊕ Int)):=fun (z1:(Int×Int))=>(cnd (iLt z1.2 (lLen x.1))
 (bnd (idx x.1 z1.2) (fun z2=>(cnd (iNe z2.1 z1.1) (some (.inr (.inr (-1)))) (bnd (idx x.1 z1.2) (fun z3=>(bnd (Zbc
 (z3.2,(iAdd .i64 z1.1 1))) (fun z4=>(cnd (iLt z4 0) (some (.inr (.inr (-1)))) (some (.inl (z4,(iAdd .i64 z1.2 1)))))))))))) (some (.inr (.inl z1.1))))
def Zds (x:((List (Int×(List UInt8)))×Int)):(Option Int):=(joinX (loopX (Zgn x) (x.2,0)) (fun (z1:Int)=>(some z1)))
def Zdt (x:(((List (List UInt8))×((List (Int×(List UInt8)))×(Int×Bool)))×Int)):(Option Int):=(bnd (Zdr (x.1.1,x.2)) (fun z1=>(cnd (iLt z1 0) (some (-1)) (bnd (Zds (x.1.2.1,z1)) (fun z2=>(cnd (iLt z2 0) (some (-1)) (some z2)))))))
def Zgo (x:((List ((List UInt8)×((Int×(List UInt8))×((Int×(List UInt8))×(Int×Bool)))))×Int)):(Int×Int)->Option ((Int×Int) ⊕ (Int ⊕
 Int)):=fun (z1:(Int×Int))=>(cnd (iLt z1.2 (lLen x.1)) (bnd (idx x.1 z1.2) (fun z2 =>
 (bnd (Zdn z1.1) (fun z3=>(cnd (bNot (sEq z2.1 z3)) (some (.inr (.inr (-1)))) (bnd (idx x.1 z1.2) (fun z4=>(cnd (iNe z4.2.1.1 (iAdd .i64 z1.1 1)) (some (.inr (.inr (-1)))) (bnd (idx x.1 z1.2) (fun z5=>(bnd (Zbc (z5.2.1.2,(iAdd .i64 (iAdd .i64 z1.1 1) 1))) (fun z6=>(cnd (iLt z6 0) (some (.inr (.inr (-1)))) (bnd
 (idx x.1 z1.2) (fun z7=>(cnd (iNe z7.2.2.1.1 z6) (some (.inr (.inr (-1)))) (bnd (idx x.1
 z1.2) (fun z8=>(bnd (Zbc (z8.2.2.1.2,(iAdd .i64 z6 1))) (fun z9=>(cnd
 (iLt z9 0) (some (.inr (.inr (-1)))) (bnd (idx x.1 z1.2) (fun z10=>(cnd (iNe z10.2.2.2.1 z9)
 (some (.inr (.inr (-1)))) (bnd (idx x.1 z1.2) (fun z11=>(cnd (bNe z11.2.2.2.2 (iEq (iRem
 (iAdd .i64 z9 1) 3) 0)) (some (.inr (.inr (-1)))) (some (.inl ((iAdd .i64 (iAdd .i64 z9 1) 1),(iAdd .i64 z1.2 1))))))))))))))))))))))))))))))) (some (.inr (.inl z1.1))))
def Zdu (x:((List ((List UInt8)×((Int×(List UInt8))×((Int×(List UInt8))×(Int×Bool)))))×Int)):(Option Int):=(joinX (loopX (Zgo
 x) (x.2,0)) (fun (z1:Int)=>(some z1)))
def Zgp (x:((List (Int×(Int×Int)))×Int)):(Int×Int)->Option ((Int×Int) ⊕ (Int ⊕ Int)):=fun (z1:(Int×Int))=>(cnd (iLt z1.2 (lLen
 x.1)) (bnd (idx x.1 z1.2) (fun z2=>(cnd (iNe z2.1 z1.1) (some (.inr (.inr (-1)))) (bnd (idx x.1 z1.2) (fun z3=>(cnd (iNe
 z3.2.1 (iAdd .i64 z1.1 1)) (some (.inr (.inr (-1)))) (bnd (idx x.1 z1.2) (fun z4=>(cnd (iNe z4.2.2 (iAdd .i64 (iAdd .i64 z1.1 1) 1)) (some (.inr (.inr
 (-1)))) (some (.inl ((iAdd .i64 (iAdd .i64 (iAdd .i64 z1.1 1) 1) 1),(iAdd .i64 z1.2 1))))))))))))) (some (.inr (.inl z1.1))))
def Zdv (x:((List (Int×(Int×Int)))×Int)):(Option Int):=(joinX (loopX (Zgp x) (x.2,0)) (fun (z1:Int)=>(some z1)))
def Zdw (x:(((List ((List UInt8)×((Int×(List UInt8))×((Int×(List UInt8))×(Int×Bool)))))×(Int×(List (Int×(Int×Int)))))×Int)):(Option
 Int):=(bnd (Zdu (x.1.1,x.2)) (fun z1=>(cnd (iLt z1 0) (some (-1)) (bnd (Zdv (x.1.2.2,z1)) (fun z2=>(cnd (iLt z2 0) (some (-1)) (some
 z2)))))))
def Zbu (x:((((List (List UInt8))×((List (Int×(List UInt8)))×(Int×Bool)))×(((List ((List UInt8)×((Int×(List UInt8))×((Int×(List UInt8))
 × (Int×Bool)))))×(Int×(List (Int×(Int×Int)))))×(Int×Int)))×Int)):(Option Int):=(bnd (Zdt ((x.1.1.1,(x.1.1.2.1,(x.1.1.2.2.1,x.1.1.2.2.2))),x.2))
 (fun z1=>(cnd (iLt z1 0) (some (-1)) (bnd (Zdw ((x.1.2.1.1,(x.1.2.1.2.1,x.1.2.1.2.2)),z1)) (fun z2=>(cnd (iLt z2 0) (some (-1)) (some z2)))))))
def Zgq (x:(((List (List UInt8))×((List (Int×(List UInt8)))×(Int×Bool)))×(((List ((List UInt8)×((Int×(List UInt8))×((Int×(List UInt8))
 × (Int×Bool)))))×(Int×(List (Int×(Int×Int)))))×(Int×Int)))):(Option Bool):=(bnd (Zch (((x.1.1,(x.1.2.1,(x.1.2.2.1,x.1.2.2.2))),((x.2.1.1,
 (x.2.1.2.1,x.2.1.2.2)),(x.2.2.1,x.2.2.2))),1048576)) (fun z1=>(cnd (iLt z1 0) (some true) (bnd (Zl ((x.1.1,(x.1.2.1,(x.1.2.2.1,x.1.2.2.2))),((x.2.1.1,
 (x.2.1.2.1,x.2.1.2.2)),(x.2.2.1,x.2.2.2)))) (fun z2=>(bnd (Zcw ((z2.1.1,(z2.1.2.1,(z2.1.2.2.1,z2.1.2.2.2))),((z2.2.1.1,
 (z2.2.1.2.1,z2.2.1.2.2)),(z2.2.2.1,z2.2.2.2)))) (fun z3=>(bnd (Zl ((x.1.1,(x.1.2.1,(x.1.2.2.1,x.1.2.2.2))),
 ((x.2.1.1,(x.2.1.2.1,x.2.1.2.2)),(x.2.2.1,x.2.2.2)))) (fun z4=>(bnd (Zbr ((z4.1.1,(z4.1.2.1,(z4.1.2.2.1,z4.1.2.2.2))),
 ((z4.2.1.1,(z4.2.1.2.1,z4.2.1.2.2)),(z4.2.2.1,z4.2.2.2)))) (fun z5=>(bnd (Zo (((z5.1.1,(z5.1.2.1,(z5.1.2.2.1,
 z5.1.2.2.2))),((z5.2.1.1,(z5.2.1.2.1,z5.2.1.2.2)),(z5.2.2.1,z5.2.2.2))),((z3.1.1,(z3.1.2.1,(z3.1.2.2.1,z3.1.2.2.2))),((z3.2.1.1,(z3.2.1.2.1,z3.2.1.2.2)),(z3.2.2.1,
 z3.2.2.2))))) (fun z6=>(cnd (bNot z6) (some false) (bnd (Zl ((x.1.1,(x.1.2.1,(x.1.2.2.1,x.1.2.2.2))),((x.2.1.1,(x.2.1.2.1,x.2.1.2.2)),(x.2.2.1,
 x.2.2.2)))) (fun z7=>(bnd (Zo (((z4.1.1,(z4.1.2.1,(z4.1.2.2.1,z4.1.2.2.2))),((z4.2.1.1,(z4.2.1.2.1,z4.2.1.2.2)),
 (z4.2.2.1,z4.2.2.2))),((z7.1.1,(z7.1.2.1,(z7.1.2.2.1,z7.1.2.2.2))),((z7.2.1.1,(z7.2.1.2.1,z7.2.1.2.2)),(z7.2.2.1,z7.2.2.2))))) (fun z8=>(cnd (bNot z8) (some
 false) (bnd (Zbt (((z4.1.1,(z4.1.2.1,(z4.1.2.2.1,z4.1.2.2.2))),((z4.2.1.1,(z4.2.1.2.1,z4.2.1.2.2)),(z4.2.2.1,z4.2.2.2))),1)) (fun z9=>(chk (nEq
 z9.2.1.length z4.1.1.length) (chk (nEq z9.2.2.1.length z4.1.2.1.length) (chk (nEq z9.2.2.2.1.length z4.2.1.1.length) (chk (nEq z9.2.2.2.2.length z4.2.1.2.2.length) (cnd (iLt z9.1
 0) (some false) (bnd (Zo (((z5.1.1,(z5.1.2.1,(z5.1.2.2.1,z5.1.2.2.2))),((z5.2.1.1,(z5.2.1.2.1,z5.2.1.2.2)),(z5.2.2.1,z5.2.2.2))),((z3.1.1,(z3.1.2.1,
 (z3.1.2.2.1,z3.1.2.2.2))),((z3.2.1.1,(z3.2.1.2.1,z3.2.1.2.2)),(z3.2.2.1,z3.2.2.2))))) (fun z10=>(cnd (bNot z10) (some false) (bnd (Zbt (((z5.1.1,
 (z5.1.2.1,(z5.1.2.2.1,z5.1.2.2.2))),((z5.2.1.1,(z5.2.1.2.1,z5.2.1.2.2)),(z5.2.2.1,z5.2.2.2))),1)) (fun z11=>(chk (nEq z11.2.1.length z5.1.1.length) (chk (nEq
 z11.2.2.1.length z5.1.2.1.length) (chk (nEq z11.2.2.2.1.length z5.2.1.1.length) (chk (nEq z11.2.2.2.2.length z5.2.1.2.2.length) (bnd (Zbu (((z11.2.1,(z11.2.2.1,
 (z5.1.2.2.1,z5.1.2.2.2))),((z11.2.2.2.1,(z5.2.1.2.1,z11.2.2.2.2)),(z5.2.2.1,z5.2.2.2))),1)) (fun z12=>(cnd (iLt z12 0) (some false) (cnd (iNe z12 z11.1) (some
 false) (bnd (Zl ((x.1.1,(x.1.2.1,(x.1.2.2.1,x.1.2.2.2))),((x.2.1.1,(x.2.1.2.1,x.2.1.2.2)),(x.2.2.1,x.2.2.2)))) (fun z13
 => (bnd (Zbr ((z13.1.1,(z13.1.2.1,(z13.1.2.2.1,z13.1.2.2.2))),((z13.2.1.1,(z13.2.1.2.1,z13.2.1.2.2)),(z13.2.2.1,z13.2.2.2)))) (fun z14=>(bnd (Zo (((z14.1.1,(z14.1.2.1,(z14.1.2.2.1,z14.1.2.2.2))),((z14.2.1.1,(z14.2.1.2.1,z14.2.1.2.2)),(z14.2.2.1,z14.2.2.2))),((z3.1.1,(z3.1.2.1,
 (z3.1.2.2.1,z3.1.2.2.2))),((z3.2.1.1,(z3.2.1.2.1,z3.2.1.2.2)),(z3.2.2.1,z3.2.2.2))))) (fun z15=>(cnd (bNot z15) (some false) (bnd (Zbu (((z11.2.1,
 (z11.2.2.1,(z5.1.2.2.1,z5.1.2.2.2))),((z11.2.2.2.1,(z5.2.1.2.1,z11.2.2.2.2)),(z5.2.2.1,z5.2.2.2))),1)) (fun z16=>(cnd (iLt z16 0) (some false) (cnd (iNe z16
 z11.1) (some false) (some true)))))))))))))))))))))))))))))))))))))))))))))))))))
end
end Go.Vs
