import Derived.Test.YtgleokjlebkdcaaVsW5
set_option linter.all false
namespace Go.Vs
set_option linter.unusedVariables false
instance glbI : Glb := ⟨[]⟩
noncomputable def F_l_big (x : (List UInt8)) : (Option Bool) := (some (iGt (lLen x) 1048576))
noncomputable def S_s_l1New_0 (x : (List UInt8)) : (Int × Int) → Option ((Int × Int) ⊕ (Int ⊕ Int)) := fun (z1 : (Int × Int)) => (cnd (iLt z1.2 (lLen x)) (cnd (iLt z1.2 4000) (bnd
 (idx x z1.2) (fun (z2 : UInt8) => (some (.inl ((iAnd .i64 (iAdd .i64 (iAdd .i64 (iMul .i64 z1.1 137) (iConv .i64 (y2i z2))) 11) 1073741823), (iAdd .i64 z1.2 1)))))) (some (.inr
 (.inl z1.1)))) (some (.inr (.inl z1.1))))
noncomputable def F_s_l1New (x : (List UInt8)) : (Option Int) := (joinX (loopX (S_s_l1New_0 x) ((iAdd .i64 953953 (lLen x)), 0)) (fun (z1 : Int) => (some z1)))
noncomputable def F_s_l1Byte (x : ((List UInt8) × (Int × Int))) : (Option (Int × (Int × Int))) := (joinX (cnd (iLt x.2.1 (lLen x.1)) (bnd (idx x.1 x.2.1) (fun (z1 : UInt8) => (some
 (.inl ((iAdd .i64 x.2.1 1), (iAnd .i64 (iAdd .i64 (iAnd .i64 (iXor .i64 (iShr .i64 (iAdd .i64 (iMul .i64 x.2.2 6364136223846793005) 1442695040888963407) 33) (iShr .i64 (iAdd .i64
 (iMul .i64 x.2.2 6364136223846793005) 1442695040888963407) 47)) 255) (iConv .i64 (y2i z1))) 255)))))) (some (.inl (x.2.1, (iAnd .i64 (iXor .i64 (iShr .i64 (iAdd .i64 (iMul .i64
 x.2.2 6364136223846793005) 1442695040888963407) 33) (iShr .i64 (iAdd .i64 (iMul .i64 x.2.2 6364136223846793005) 1442695040888963407) 47)) 255))))) (fun (z1 : (Int × Int)) =>
 (some (z1.2, (z1.1, (iAdd .i64 (iMul .i64 x.2.2 6364136223846793005) 1442695040888963407))))))
noncomputable def F_s_l1Below (x : (((List UInt8) × (Int × Int)) × Int)) : (Option (Int × (Int × Int))) := (cnd (iLe x.2 0) (some (0, (x.1.2.1, x.1.2.2))) (cnd (iLe x.2 256) (bnd
 (F_s_l1Byte (x.1.1, (x.1.2.1, x.1.2.2))) (fun (z1 : (Int × (Int × Int))) => (chk (iNe x.2 0) (some ((iRem z1.1 x.2), (z1.2.1, z1.2.2)))))) (bnd (F_s_l1Byte (x.1.1, (x.1.2.1,
 x.1.2.2))) (fun (z1 : (Int × (Int × Int))) => (bnd (F_s_l1Byte (x.1.1, (z1.2.1, z1.2.2))) (fun (z2 : (Int × (Int × Int))) => (bnd (F_s_l1Byte (x.1.1, (z2.2.1, z2.2.2))) (fun (z3
 : (Int × (Int × Int))) => (chk (iNe x.2 0) (some ((iRem (iAdd .i64 (iAdd .i64 (iMul .i64 z1.1 65536) (iMul .i64 z2.1 256)) z3.1) x.2), (z3.2.1, z3.2.2))))))))))))
noncomputable def F_s_l1Int (x : (((List UInt8) × (Int × Int)) × (List Int))) : (Option (Int × (Int × Int))) := (bnd (F_s_l1Below ((x.1.1, (x.1.2.1, x.1.2.2)), (lLen x.2))) (fun
 (z1 : (Int × (Int × Int))) => (bnd (idx x.2 z1.1) (fun (z2 : Int) => (some (z2, (z1.2.1, z1.2.2)))))))
noncomputable def F_s_DrawHeadOf (x : (List UInt8)) : (Option (Int × Int)) := (bnd (F_s_l1New x) (fun (z1 : Int) => (bnd (F_s_l1Int ((x, (0, z1)), [0, 1, 2, 60000, 60001, (-1)]))
 (fun (z2 : (Int × (Int × Int))) => (bnd (F_s_l1Int ((x, (z2.2.1, z2.2.2)), [0, 5, 30, 31, (-1)])) (fun (z3 : (Int × (Int × Int))) => (some (z2.1, z3.1))))))))
noncomputable def F_i_within (x : (Int × (Int × Int))) : (Option Bool) := (cnd (iGe x.1 x.2.1) (some (iLe x.1 x.2.2)) (some false))
noncomputable def S_i_joined_0 (x : (List (List UInt8))) : ((List UInt8) × Int) → Option (((List UInt8) × Int) ⊕ ((List UInt8) ⊕ (List UInt8))) := fun (z1 : ((List UInt8) × Int))
 => (cnd (iLt z1.2 (lLen x)) (bnd (idx x z1.2) (fun (z2 : (List UInt8)) => (chk (room (z1.1.length + z2.length) 1) (some (.inl ((lApp z1.1 z2), (iAdd .i64 z1.2 1))))))) (some
 (.inr (.inl z1.1))))
noncomputable def F_i_joined (x : (List (List UInt8))) : (Option (List UInt8)) := (joinX (loopX (S_i_joined_0 x) ([], 0)) (fun (z1 : (List UInt8)) => (some z1)))
noncomputable def F_i_PutW (x : ((List UInt8) × Int)) : (Option (List UInt8)) := (bnd (F_i_joined [x.1, [(u8 (iConv .u8 (iAnd .i64 (iShr .i64 x.2 8) 255))), (u8 (iConv .u8 (iAnd
 .i64 x.2 255)))]]) (fun (z1 : (List UInt8)) => (some z1)))
noncomputable def S_i_Sum_0 : (Int × Int) → Option ((Int × Int) ⊕ (Int ⊕ ((Int × Int) ⊕ (Int ⊕ Int)))) := fun (z3 : (Int × Int)) => (cnd (iLt z3.2 8) (joinX (cnd (iGt (iMul .i64
 z3.1 2) 65535) (some (.inl (iXor .i64 (iMul .i64 z3.1 2) 69665))) (some (.inl (iMul .i64 z3.1 2)))) (fun (z4 : Int) => (some (.inl (z4, (iAdd .i64 z3.2 1)))))) (some (.inr (.inl
 z3.1))))
noncomputable def S_i_Sum_1 (x : (List UInt8)) : (Int × Int) → Option ((Int × Int) ⊕ (Int ⊕ Int)) := fun (z1 : (Int × Int)) => (cnd (iLt z1.2 (lLen x)) (joinX (bnd (idx x z1.2)
 (fun (z2 : UInt8) => (loopX (S_i_Sum_0) ((iXor .i64 z1.1 (iMul .i64 256 (iConv .i64 (y2i z2)))), 0)))) (fun (z2 : Int) => (some (.inl (z2, (iAdd .i64 z1.2 1)))))) (some (.inr
 (.inl z1.1))))
noncomputable def F_i_Sum (x : (List UInt8)) : (Option Int) := (joinX (loopX (S_i_Sum_1 x) (65535, 0)) (fun (z1 : Int) => (some (iAnd .i64 z1 65535))))
noncomputable def F_i_HeadOf (x : (Int × Int)) : (Option (List UInt8)) := (bnd (F_i_within (x.1, (1, 60000))) (fun (z1 : Bool) => (cnd (bNot z1) (some []) (bnd (F_i_within (x.2,
 (0, 30))) (fun (z2 : Bool) => (cnd (bNot z2) (some []) (bnd (F_i_PutW ([], x.1)) (fun (z3 : (List UInt8)) => (bnd (F_i_PutW (z3, x.2)) (fun (z4 : (List UInt8)) => (bnd (F_i_Sum
 z4) (fun (z5 : Int) => (bnd (F_i_PutW (z4, z5)) (fun (z6 : (List UInt8)) => (some z6)))))))))))))))
noncomputable def F_s_l1In (x : (Int × (Int × Int))) : (Option Bool) := (cnd (iGe x.1 x.2.1) (some (iLe x.1 x.2.2)) (some false))
noncomputable def F_s_PutW (x : ((List UInt8) × Int)) : (Option (List UInt8)) := (chk (room (0 + x.1.length) 1) (chk (room ((lApp [] x.1).length + 2) 1) (some (lApp (lApp [] x.1)
 [(u8 (iConv .u8 (iShr .i64 x.2 8))), (u8 (iConv .u8 x.2))]))))
noncomputable def S_s_Sum_0 : (Int × Int) → Option ((Int × Int) ⊕ (Int ⊕ ((Int × Int) ⊕ (Int ⊕ Int)))) := fun (z3 : (Int × Int)) => (cnd (iLt z3.2 8) (joinX (cnd (iGt (iShl .i64
 z3.1 1) 65535) (some (.inl (iXor .i64 (iShl .i64 z3.1 1) 69665))) (some (.inl (iShl .i64 z3.1 1)))) (fun (z4 : Int) => (some (.inl (z4, (iAdd .i64 z3.2 1)))))) (some (.inr (.inl
 z3.1))))
noncomputable def S_s_Sum_1 (x : (List UInt8)) : (Int × Int) → Option ((Int × Int) ⊕ (Int ⊕ Int)) := fun (z1 : (Int × Int)) => (cnd (iLt z1.2 (lLen x)) (joinX (bnd (idx x z1.2)
 (fun (z2 : UInt8) => (loopX (S_s_Sum_0) ((iXor .i64 z1.1 (iShl .i64 (iConv .i64 (y2i z2)) 8)), 0)))) (fun (z2 : Int) => (some (.inl (z2, (iAdd .i64 z1.2 1)))))) (some (.inr (.inl
 z1.1))))
noncomputable def F_s_Sum (x : (List UInt8)) : (Option Int) := (joinX (loopX (S_s_Sum_1 x) (65535, 0)) (fun (z1 : Int) => (some (iAnd .i64 z1 65535))))
noncomputable def F_s_HeadOf (x : (Int × Int)) : (Option (List UInt8)) := (bnd (F_s_l1In (x.1, (1, 60000))) (fun (z1 : Bool) => (cnd (bNot z1) (some []) (bnd (F_s_l1In (x.2, (0,
 30))) (fun (z2 : Bool) => (cnd (bNot z2) (some []) (bnd (F_s_PutW ([], x.1)) (fun (z3 : (List UInt8)) => (bnd (F_s_PutW (z3, x.2)) (fun (z4 : (List UInt8)) => (bnd (F_s_Sum z4)
 (fun (z5 : Int) => (bnd (F_s_PutW (z4, z5)) (fun (z6 : (List UInt8)) => (some z6)))))))))))))))
noncomputable def F_s_l1Bend (x : (((List UInt8) × (Int × Int)) × (List UInt8))) : (Option ((List UInt8) × (Int × Int))) := (chk (room (0 + x.2.length) 1) (joinX (bnd (F_s_l1Below
 ((x.1.1, (x.1.2.1, x.1.2.2)), 5)) (fun (z1 : (Int × (Int × Int))) => (cnd (iEq z1.1 0) (bnd (F_s_l1Below ((x.1.1, (z1.2.1, z1.2.2)), (iAdd .i64 (lLen (lApp [] x.2)) 1))) (fun (z2
 : (Int × (Int × Int))) => (chk (within 0 z2.1 (lLen (lApp [] x.2))) (outX (chk (fits 0 ((nOf z2.1) - 0) (lApp [] x.2).length) (some ((lTake ((nOf z2.1) - 0) (lApp [] x.2)),
 (z2.2.1, z2.2.2)))))))) (cnd (iEq z1.1 1) (cnd (iGt (lLen (lApp [] x.2)) 0) (bnd (F_s_l1Below ((x.1.1, (z1.2.1, z1.2.2)), (lLen (lApp [] x.2)))) (fun (z2 : (Int × (Int × Int)))
 => (bnd (idx (lApp [] x.2) z2.1) (fun (z3 : UInt8) => (bnd (F_s_l1Below ((x.1.1, (z2.2.1, z2.2.2)), 255)) (fun (z4 : (Int × (Int × Int))) => (bnd (idx (lApp [] x.2) z2.1) (fun
 (z5 : UInt8) => (some (.inl (z4.2.1, (z4.2.2, (lSet (lApp [] x.2) (nOf z2.1) (u8 (iXor .u8 (y2i z3) (y2i (u8 (iConv .u8 (iAdd .i64 1 z4.1))))))))))))))))))) (some (.inl (z1.2.1,
 (z1.2.2, (lApp [] x.2)))))) (some (.inl (z1.2.1, (z1.2.2, (lApp [] x.2))))))))) (fun (z1 : (Int × (Int × (List UInt8)))) => (some (z1.2.2, (z1.1, z1.2.1))))))
noncomputable def F_s_l1Once (x : (((List UInt8) × (Int × Int)) × Int)) : (Option (Bool × (Int × Int))) := (bnd (F_s_l1Below ((x.1.1, (x.1.2.1, x.1.2.2)), x.2)) (fun (z1 : (Int ×
 (Int × Int))) => (some ((iEq z1.1 0), (z1.2.1, z1.2.2)))))
noncomputable def F_s_DrawGetHead (x : (List UInt8)) : (Option (List UInt8)) := (bnd (F_s_l1New x) (fun (z1 : Int) => (bnd (F_s_l1Below ((x, (0, z1)), 5)) (fun (z2 : (Int × (Int ×
 Int))) => (bnd (F_s_l1Below ((x, (z2.2.1, z2.2.2)), 31)) (fun (z3 : (Int × (Int × Int))) => (bnd (F_s_HeadOf ((iAdd .i64 1 z2.1), z3.1)) (fun (z4 : (List UInt8)) => (bnd
 (F_s_l1Bend ((x, (z3.2.1, z3.2.2)), z4)) (fun (z5 : ((List UInt8) × (Int × Int))) => (bnd (F_s_l1Once ((x, (z5.2.1, z5.2.2)), 5)) (fun (z6 : (Bool × (Int × Int))) => (cnd z6.1
 (cnd (iEq (lLen z5.1) 6) (chk (within 0 4 (lLen z5.1)) (bnd (F_s_l1Below ((x, (z6.2.1, z6.2.2)), 4)) (fun (z7 : (Int × (Int × Int))) => (bnd (F_s_l1Int ((x, (z7.2.1, z7.2.2)),
 [0, 31, 255])) (fun (z8 : (Int × (Int × Int))) => (chk (iLt z7.1 (Int.ofNat ((nOf 4) - 0))) (bnd (idx z5.1 z7.1) (fun (z9 : UInt8) => (chk (fits 0 ((nOf 4) - 0) (lSet z5.1 (0 +
 (nOf z7.1)) (u8 (iConv .u8 z8.1))).length) (bnd (F_s_Sum (lTake ((nOf 4) - 0) (lSet z5.1 (0 + (nOf z7.1)) (u8 (iConv .u8 z8.1))))) (fun (z10 : Int) => (chk (fits 0 ((nOf 4) - 0)
 (lSet z5.1 (0 + (nOf z7.1)) (u8 (iConv .u8 z8.1))).length) (bnd (F_s_PutW ((lTake ((nOf 4) - 0) (lSet z5.1 (0 + (nOf z7.1)) (u8 (iConv .u8 z8.1)))), z10)) (fun (z11 : (List
 UInt8)) => (some z11))))))))))))))) (some z5.1)) (some z5.1))))))))))))))
noncomputable def F_i_GetW (x : ((List UInt8) × Int)) : (Option (Int × (Int × Bool))) := (cnd (iLt x.2 0) (some (0, (0, false))) (cnd (iGt x.2 (iSub .i64 (lLen x.1) 2)) (some (0,
 (0, false))) (bnd (idx x.1 x.2) (fun (z1 : UInt8) => (bnd (idx x.1 (iAdd .i64 x.2 1)) (fun (z2 : UInt8) => (some ((iOr .i64 (iShl .i64 (iConv .i64 (y2i z1)) 8) (iConv .i64 (y2i
 z2))), ((iAdd .i64 x.2 2), true)))))))))
noncomputable def F_i_scan_word (x : ((List UInt8) × (Int × Bool))) : (Option (Int × (Int × Bool))) := (bnd (F_i_GetW (x.1, x.2.1)) (fun (z1 : (Int × (Int × Bool))) => (cnd x.2.2
 (some (0, (x.2.1, true))) (cnd (bNot z1.2.2) (some (0, (x.2.1, true))) (some (z1.1, (z1.2.1, x.2.2)))))))
noncomputable def F_i_scan_sum (x : ((List UInt8) × (Int × Bool))) : (Option (Bool × (Int × Bool))) := (bnd (F_i_scan_word (x.1, (x.2.1, x.2.2))) (fun (z1 : (Int × (Int × Bool)))
 => (cnd (bNot z1.2.2) (chk (within 0 x.2.1 (lLen x.1)) (bnd (F_i_Sum (lTake ((nOf x.2.1) - 0) x.1)) (fun (z2 : Int) => (cnd (iEq z1.1 z2) (some ((iEq z1.2.1 (lLen x.1)), (z1.2.1,
 z1.2.2))) (some (false, (z1.2.1, z1.2.2))))))) (some (false, (z1.2.1, z1.2.2))))))
noncomputable def F_i_GetHead (x : (List UInt8)) : (Option (Int × (Int × Bool))) := (bnd (F_i_scan_word (x, (0, false))) (fun (z1 : (Int × (Int × Bool))) => (bnd (F_i_scan_word (x,
 (z1.2.1, z1.2.2))) (fun (z2 : (Int × (Int × Bool))) => (bnd (F_i_scan_sum (x, (z2.2.1, z2.2.2))) (fun (z3 : (Bool × (Int × Bool))) => (cnd (bNot z3.1) (some (0, (0, false))) (bnd
 (F_i_within (z1.1, (1, 60000))) (fun (z4 : Bool) => (cnd (bNot z4) (some (0, (0, false))) (bnd (F_i_within (z2.1, (0, 30))) (fun (z5 : Bool) => (cnd (bNot z5) (some (0, (0,
 false))) (some (z1.1, (z2.1, true))))))))))))))))
noncomputable def F_s_GetW (x : ((List UInt8) × Int)) : (Option (Int × (Int × Bool))) := (bnd (F_s_l1In (x.2, (0, (iSub .i64 (lLen x.1) 2)))) (fun (z1 : Bool) => (cnd (bNot z1)
 (some (0, (0, false))) (bnd (idx x.1 x.2) (fun (z2 : UInt8) => (bnd (idx x.1 (iAdd .i64 x.2 1)) (fun (z3 : UInt8) => (some ((iOr .i64 (iShl .i64 (iConv .i64 (y2i z2)) 8) (iConv
 .i64 (y2i z3))), ((iAdd .i64 x.2 2), true))))))))))
noncomputable def F_s_GetHead (x : (List UInt8)) : (Option (Int × (Int × Bool))) := (bnd (F_s_GetW (x, 0)) (fun (z1 : (Int × (Int × Bool))) => (bnd (F_s_GetW (x, 2)) (fun (z2 :
 (Int × (Int × Bool))) => (bnd (F_s_GetW (x, 4)) (fun (z3 : (Int × (Int × Bool))) => (cnd (bNot z3.2.2) (some (0, (0, false))) (cnd (iNe (lLen x) 6) (some (0, (0, false))) (chk
 (within 0 4 (lLen x)) (bnd (F_s_Sum (lTake ((nOf 4) - 0) x)) (fun (z4 : Int) => (cnd (iNe z3.1 z4) (some (0, (0, false))) (bnd (F_s_l1In (z1.1, (1, 60000))) (fun (z5 : Bool) =>
 (cnd (bNot z5) (some (0, (0, false))) (cnd (iGt z2.1 30) (some (0, (0, false))) (some (z1.1, (z2.1, true)))))))))))))))))))
noncomputable def F_l_at (x : ((List UInt8) × Int)) : (Option Int) := (cnd (iLt x.2 (lLen x.1)) (bnd (idx x.1 x.2) (fun (z1 : UInt8) => (some (iConv .i64 (y2i z1))))) (some (iRem
 (iAdd .i64 (iMul .i64 x.2 31) (iMul .i64 (lLen x.1) 7)) 256)))
noncomputable def F_l_FnHeads (x : (List UInt8)) : (Option Bool) := (bnd (F_l_big x) (fun (z1 : Bool) => (cnd z1 (some true) (bnd (F_s_DrawHeadOf x) (fun (z2 : (Int × Int)) => (bnd
 (F_i_HeadOf (z2.1, z2.2)) (fun (z3 : (List UInt8)) => (bnd (F_s_DrawGetHead x) (fun (z4 : (List UInt8)) => (bnd (F_i_GetHead z4) (fun (z5 : (Int × (Int × Bool))) => (bnd
 (F_s_GetHead z4) (fun (z6 : (Int × (Int × Bool))) => (cnd (bNe z5.2.2 z6.2.2) (some false) (cnd z5.2.2 (bnd (F_i_HeadOf (z5.1, z5.2.1)) (fun (z7 : (List UInt8)) => (cnd (bNot
 (sEq z7 z4)) (some false) (bnd (F_s_HeadOf (z2.1, z2.2)) (fun (z8 : (List UInt8)) => (cnd (bNot (sEq z3 z8)) (some false) (cnd (iEq (lLen z3) 0) (cnd (iLt z2.1 1) (some true)
 (cnd (iGt z2.1 60000) (some true) (cnd (iLt z2.2 0) (some true) (some (iGt z2.2 30))))) (bnd (F_i_GetHead z3) (fun (z9 : (Int × (Int × Bool))) => (bnd (F_l_at (x, 2)) (fun (z10 :
 Int) => (chk (iNe (lLen z3) 0) (bnd (idx z3 (iRem z10 (lLen z3))) (fun (z11 : UInt8) => (bnd (F_l_at (x, 3)) (fun (z12 : Int) => (bnd (idx z3 (iRem z10 (lLen z3))) (fun (z13 :
 UInt8) => (bnd (F_i_GetHead (lSet z3 (nOf (iRem z10 (lLen z3))) (u8 (iXor .u8 (y2i z11) (y2i (u8 (iConv .u8 (iAdd .i64 1 (iRem z12 255))))))))) (fun (z14 : (Int × (Int × Bool)))
 => (cnd z9.2.2 (cnd (iEq z9.1 z2.1) (cnd (iEq z9.2.1 z2.2) (some (bNot z14.2.2)) (some false)) (some false)) (some false)))))))))))))))))))))) (bnd (F_s_HeadOf (z2.1, z2.2)) (fun
 (z7 : (List UInt8)) => (cnd (bNot (sEq z3 z7)) (some false) (cnd (iEq (lLen z3) 0) (cnd (iLt z2.1 1) (some true) (cnd (iGt z2.1 60000) (some true) (cnd (iLt z2.2 0) (some true)
 (some (iGt z2.2 30))))) (bnd (F_i_GetHead z3) (fun (z8 : (Int × (Int × Bool))) => (bnd (F_l_at (x, 2)) (fun (z9 : Int) => (chk (iNe (lLen z3) 0) (bnd (idx z3 (iRem z9 (lLen z3)))
 (fun (z10 : UInt8) => (bnd (F_l_at (x, 3)) (fun (z11 : Int) => (bnd (idx z3 (iRem z9 (lLen z3))) (fun (z12 : UInt8) => (bnd (F_i_GetHead (lSet z3 (nOf (iRem z9 (lLen z3))) (u8
 (iXor .u8 (y2i z10) (y2i (u8 (iConv .u8 (iAdd .i64 1 (iRem z11 255))))))))) (fun (z13 : (Int × (Int × Bool))) => (cnd z8.2.2 (cnd (iEq z8.1 z2.1) (cnd (iEq z8.2.1 z2.2) (some
 (bNot z13.2.2)) (some false)) (some false)) (some false))))))))))))))))))))))))))))))))))
end Go.Vs
