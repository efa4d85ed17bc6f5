import Derived.Test.YtgleokjlebkdcaaVsW5
set_option linter.all false
namespace Go.Vs
set_option linter.unusedVariables false
instance glbI : Glb := ⟨[]⟩
noncomputable def F_l_big (x : (List UInt8)) : (Option Bool) := (some (iGt (lLen x) 1048576))
noncomputable def S_s_l1New_0 (x : (List UInt8)) : (Int × Int) → Option ((Int × Int) ⊕ (Int ⊕ Int)) := fun (z1 : (Int × Int)) => (cnd (iLt z1.2 (lLen x)) (cnd (iLt z1.2 4000) (bnd
 (idx x z1.2) (fun (z2 : UInt8) => (some (.inl ((iAnd .i64 (iAdd .i64 (iAdd .i64 (iMul .i64 z1.1 137) (iConv .i64 (y2i z2))) 11) 1073741823), (iAdd .i64 z1.2 1)))))) (some (.inr
 (.inl z1.1)))) (some (.inr (.inl z1.1))))
noncomputable def F_s_l1New (x : (List UInt8)) : (Option Int) := (joinX (loopX (S_s_l1New_0 x) ((iAdd .i64 953953 (lLen x)), 0)) (fun (z1 : Int) => (some z1)))
noncomputable def F_s_l1Byte (x : ((List UInt8) × (Int × Int))) : (Option (Int × (Int × Int))) := (joinX (cnd (iLt x.2.1 (lLen x.1)) (bnd (idx x.1 x.2.1) (fun (z1 : UInt8) => (some
 (.inl ((iAdd .i64 x.2.1 1), (iAnd .i64 (iAdd .i64 (iAnd .i64 (iXor .i64 (iShr .i64 (iAdd .i64 (iMul .i64 x.2.2 6364136223846793005) 1442695040888963407) 33) (iShr .i64 (iAdd .i64
 (iMul .i64 x.2.2 6364136223846793005) 1442695040888963407) 47)) 255) (iConv .i64 (y2i z1))) 255)))))) (some (.inl (x.2.1, (iAnd .i64 (iXor .i64 (iShr .i64 (iAdd .i64 (iMul .i64
 x.2.2 6364136223846793005) 1442695040888963407) 33) (iShr .i64 (iAdd .i64 (iMul .i64 x.2.2 6364136223846793005) 1442695040888963407) 47)) 255))))) (fun (z1 : (Int × Int)) =>
 (some (z1.2, (z1.1, (iAdd .i64 (iMul .i64 x.2.2 6364136223846793005) 1442695040888963407))))))
noncomputable def F_s_l1Below (x : (((List UInt8) × (Int × Int)) × Int)) : (Option (Int × (Int × Int))) := (cnd (iLe x.2 0) (some (0, (x.1.2.1, x.1.2.2))) (cnd (iLe x.2 256) (bnd
 (F_s_l1Byte (x.1.1, (x.1.2.1, x.1.2.2))) (fun (z1 : (Int × (Int × Int))) => (chk (iNe x.2 0) (some ((iRem z1.1 x.2), (z1.2.1, z1.2.2)))))) (bnd (F_s_l1Byte (x.1.1, (x.1.2.1,
 x.1.2.2))) (fun (z1 : (Int × (Int × Int))) => (bnd (F_s_l1Byte (x.1.1, (z1.2.1, z1.2.2))) (fun (z2 : (Int × (Int × Int))) => (bnd (F_s_l1Byte (x.1.1, (z2.2.1, z2.2.2))) (fun (z3
 : (Int × (Int × Int))) => (chk (iNe x.2 0) (some ((iRem (iAdd .i64 (iAdd .i64 (iMul .i64 z1.1 65536) (iMul .i64 z2.1 256)) z3.1) x.2), (z3.2.1, z3.2.2))))))))))))
noncomputable def F_s_l1In (x : (Int × (Int × Int))) : (Option Bool) := (cnd (iGe x.1 x.2.1) (some (iLe x.1 x.2.2)) (some false))
noncomputable def S_s_DevNew_0 (x : Int) : ((List (List UInt8)) × Int) → Option (((List (List UInt8)) × Int) ⊕ ((List (List UInt8)) ⊕ ((List (List UInt8)) × ((List (Int × (List
 UInt8))) × (Int × Bool))))) := fun (z2 : ((List (List UInt8)) × Int)) => (cnd (iLt z2.2 x) (chk (room (z2.1.length + 1) 24) (some (.inl ((lApp z2.1 [[]]), (iAdd .i64 z2.2 1)))))
 (some (.inr (.inl z2.1))))
noncomputable def F_s_DevNew (x : Int) : (Option ((List (List UInt8)) × ((List (Int × (List UInt8))) × (Int × Bool)))) := (bnd (F_s_l1In (x, (1, 64))) (fun (z1 : Bool) => (cnd
 (bNot z1) (some ([], ([], (0, false)))) (joinX (loopX (S_s_DevNew_0 x) ([], 0)) (fun (z2 : (List (List UInt8))) => (some (z2, ([], ((-1), false)))))))))
noncomputable def F_s_l1Once (x : (((List UInt8) × (Int × Int)) × Int)) : (Option (Bool × (Int × Int))) := (bnd (F_s_l1Below ((x.1.1, (x.1.2.1, x.1.2.2)), x.2)) (fun (z1 : (Int ×
 (Int × Int))) => (some ((iEq z1.1 0), (z1.2.1, z1.2.2)))))
noncomputable def F_s_l10Op (x : ((List (List UInt8)) × ((List (Int × (List UInt8))) × (Int × Bool)))) : (Option (Bool × (Int × Bool))) := (cnd (iEq x.2.2.1 0) (some (false, ((-1),
 true))) (cnd (iGt x.2.2.1 0) (some (true, ((iSub .i64 x.2.2.1 1), x.2.2.2))) (some (true, (x.2.2.1, x.2.2.2)))))
noncomputable def F_s_l10Flush (x : (List (List UInt8)) × (List (Int × (List UInt8))) × Int × Bool) : Option ((List (List UInt8)) × (List (Int × (List UInt8))) × Int × Bool) := chk (decide ((-1 ≤ x.2.2.1 ∧ x.2.2.1 ≤ 1000) ∧ x.1.length < 2 ^ 40 ∧ x.2.1.length < 2 ^ 40 ∧ ∀ w ∈ x.2.1, 0 ≤ w.1 ∧ w.1 ≤ (x.1.length : Int) - 1)) (some (flC x.1 x.2.1 x.2.2.1 x.2.2.2))
noncomputable def S_s_l1Bytes_0 (x : (((List UInt8) × (Int × Int)) × Int)) : (Int × (Int × ((List UInt8) × Int))) → Option ((Int × (Int × ((List UInt8) × Int))) ⊕ ((Int × (Int ×
 (List UInt8))) ⊕ ((List UInt8) × (Int × Int)))) := fun (z1 : (Int × (Int × ((List UInt8) × Int)))) => (cnd (iLt z1.2.2.2 x.2) (bnd (F_s_l1Byte (x.1.1, (z1.1, z1.2.1))) (fun (z2 :
 (Int × (Int × Int))) => (chk (room (z1.2.2.1.length + 1) 1) (some (.inl (z2.2.1, (z2.2.2, ((lApp z1.2.2.1 [(u8 (iConv .u8 z2.1))]), (iAdd .i64 z1.2.2.2 1))))))))) (some (.inr
 (.inl (z1.1, (z1.2.1, z1.2.2.1))))))
noncomputable def F_s_l1Bytes (x : (((List UInt8) × (Int × Int)) × Int)) : (Option ((List UInt8) × (Int × Int))) := (joinX (loopX (S_s_l1Bytes_0 x) (x.1.2.1, (x.1.2.2, ([], 0))))
 (fun (z1 : (Int × (Int × (List UInt8)))) => (some (z1.2.2, (z1.1, z1.2.1)))))
noncomputable def F_s_l10Write (x : (((List (List UInt8)) × ((List (Int × (List UInt8))) × (Int × Bool))) × (Int × (List UInt8)))) : (Option ((List (Int × (List UInt8))) × (Int ×
 Bool))) := (cnd x.1.2.2.2 (some (x.1.2.1, (x.1.2.2.1, x.1.2.2.2))) (bnd (F_s_l1In (x.2.1, (0, (iSub .i64 (lLen x.1.1) 1)))) (fun (z1 : Bool) => (cnd (bNot z1) (some (x.1.2.1,
 (x.1.2.2.1, x.1.2.2.2))) (cnd (iGt (lLen x.2.2) 120) (some (x.1.2.1, (x.1.2.2.1, x.1.2.2.2))) (cnd (iGe (lLen x.1.2.1) 40) (some (x.1.2.1, (x.1.2.2.1, x.1.2.2.2))) (bnd
 (F_s_l10Op (x.1.1, (x.1.2.1, (x.1.2.2.1, x.1.2.2.2)))) (fun (z2 : (Bool × (Int × Bool))) => (cnd (bNot z2.1) (some (x.1.2.1, (z2.2.1, z2.2.2))) (chk (room (0 + x.2.2.length) 1)
 (chk (room (x.1.2.1.length + 1) 32) (some ((lApp x.1.2.1 [(x.2.1, (lApp [] x.2.2))]), (z2.2.1, z2.2.2))))))))))))))
noncomputable def S_s_l10Draw_0 (x : ((List UInt8) × (Int × Int))) : (Int × (Int × ((List (List UInt8)) × ((List (Int × (List UInt8))) × (Int × (Bool × Int)))))) → Option ((Int ×
 (Int × ((List (List UInt8)) × ((List (Int × (List UInt8))) × (Int × (Bool × Int)))))) ⊕ ((Int × (Int × ((List (List UInt8)) × ((List (Int × (List UInt8))) × (Int × Bool))))) ⊕
 (((List (List UInt8)) × ((List (Int × (List UInt8))) × (Int × Bool))) × (Int × Int)))) := fun (z4 : (Int × (Int × ((List (List UInt8)) × ((List (Int × (List UInt8))) × (Int ×
 (Bool × Int))))))) => (cnd (iGt z4.2.2.2.2.2.2 0) (joinX (bnd (F_s_l1Once ((x.1, (z4.1, z4.2.1)), 4)) (fun (z5 : (Bool × (Int × Int))) => (cnd z5.1 (bnd (F_s_l10Flush (z4.2.2.1,
 (z4.2.2.2.1, (z4.2.2.2.2.1, z4.2.2.2.2.2.1)))) (fun (z6 : ((List (List UInt8)) × ((List (Int × (List UInt8))) × (Int × Bool)))) => (some (.inl (z5.2.1, (z5.2.2, (z6.1, (z6.2.1,
 (z6.2.2.1, z6.2.2.2))))))))) (bnd (F_s_l1Below ((x.1, (z5.2.1, z5.2.2)), (lLen z4.2.2.1))) (fun (z6 : (Int × (Int × Int))) => (bnd (F_s_l1Below ((x.1, (z6.2.1, z6.2.2)), 4)) (fun
 (z7 : (Int × (Int × Int))) => (bnd (F_s_l1Bytes ((x.1, (z7.2.1, z7.2.2)), z7.1)) (fun (z8 : ((List UInt8) × (Int × Int))) => (bnd (F_s_l10Write ((z4.2.2.1, (z4.2.2.2.1,
 (z4.2.2.2.2.1, z4.2.2.2.2.2.1))), (z6.1, z8.1))) (fun (z9 : ((List (Int × (List UInt8))) × (Int × Bool))) => (some (.inl (z8.2.1, (z8.2.2, (z4.2.2.1, (z9.1, (z9.2.1,
 z9.2.2)))))))))))))))))) (fun (z5 : (Int × (Int × ((List (List UInt8)) × ((List (Int × (List UInt8))) × (Int × Bool)))))) => (some (.inl (z5.1, (z5.2.1, (z5.2.2.1, (z5.2.2.2.1,
 (z5.2.2.2.2.1, (z5.2.2.2.2.2, (iSub .i64 z4.2.2.2.2.2.2 1))))))))))) (some (.inr (.inl (z4.1, (z4.2.1, (z4.2.2.1, (z4.2.2.2.1, (z4.2.2.2.2.1, z4.2.2.2.2.2.1)))))))))
noncomputable def F_s_l10Draw (x : ((List UInt8) × (Int × Int))) : (Option (((List (List UInt8)) × ((List (Int × (List UInt8))) × (Int × Bool))) × (Int × Int))) := (bnd
 (F_s_l1Below ((x.1, (x.2.1, x.2.2)), 6)) (fun (z1 : (Int × (Int × Int))) => (bnd (F_s_DevNew (iAdd .i64 2 z1.1)) (fun (z2 : ((List (List UInt8)) × ((List (Int × (List UInt8))) ×
 (Int × Bool)))) => (joinX (bnd (F_s_l1Below ((x.1, (z1.2.1, z1.2.2)), 8)) (fun (z3 : (Int × (Int × Int))) => (loopX (S_s_l10Draw_0 x) (z3.2.1, (z3.2.2, (z2.1, (z2.2.1, (z2.2.2.1,
 (z2.2.2.2, z3.1))))))))) (fun (z3 : (Int × (Int × ((List (List UInt8)) × ((List (Int × (List UInt8))) × (Int × Bool)))))) => (some ((z3.2.2.1, (z3.2.2.2.1, (z3.2.2.2.2.1,
 z3.2.2.2.2.2))), (z3.1, z3.2.1)))))))))
noncomputable def F_s_DrawDev (x : (List UInt8)) : (Option ((List (List UInt8)) × ((List (Int × (List UInt8))) × (Int × Bool)))) := (bnd (F_s_l1New x) (fun (z1 : Int) => (bnd
 (F_s_l10Draw (x, (0, z1))) (fun (z2 : (((List (List UInt8)) × ((List (Int × (List UInt8))) × (Int × Bool))) × (Int × Int))) => (some (z2.1.1, (z2.1.2.1, (z2.1.2.2.1,
 z2.1.2.2.2))))))))
noncomputable def F_l_at (x : ((List UInt8) × Int)) : (Option Int) := (cnd (iLt x.2 (lLen x.1)) (bnd (idx x.1 x.2) (fun (z1 : UInt8) => (some (iConv .i64 (y2i z1))))) (some (iRem
 (iAdd .i64 (iMul .i64 x.2 31) (iMul .i64 (lLen x.1) 7)) 256)))
noncomputable def S_i_joined_0 (x : (List (List UInt8))) : ((List UInt8) × Int) → Option (((List UInt8) × Int) ⊕ ((List UInt8) ⊕ (List UInt8))) := fun (z1 : ((List UInt8) × Int))
 => (cnd (iLt z1.2 (lLen x)) (bnd (idx x z1.2) (fun (z2 : (List UInt8)) => (chk (room (z1.1.length + z2.length) 1) (some (.inl ((lApp z1.1 z2), (iAdd .i64 z1.2 1))))))) (some
 (.inr (.inl z1.1))))
noncomputable def F_i_joined (x : (List (List UInt8))) : (Option (List UInt8)) := (joinX (loopX (S_i_joined_0 x) ([], 0)) (fun (z1 : (List UInt8)) => (some z1)))
noncomputable def S_i_copyDev_0 (x : ((List (List UInt8)) × ((List (Int × (List UInt8))) × (Int × Bool)))) : ((List (List UInt8)) × Int) → Option (((List (List UInt8)) × Int) ⊕
 ((List (List UInt8)) ⊕ ((List (List UInt8)) × ((List (Int × (List UInt8))) × (Int × Bool))))) := fun (z1 : ((List (List UInt8)) × Int)) => (cnd (iLt z1.2 (lLen x.1)) (bnd (idx
 x.1 z1.2) (fun (z2 : (List UInt8)) => (bnd (F_i_joined [z2]) (fun (z3 : (List UInt8)) => (chk (room (z1.1.length + 1) 24) (some (.inl ((lApp z1.1 [z3]), (iAdd .i64 z1.2
 1))))))))) (some (.inr (.inl z1.1))))
noncomputable def S_i_copyDev_1 (x : ((List (List UInt8)) × ((List (Int × (List UInt8))) × (Int × Bool)))) : ((List (Int × (List UInt8))) × Int) → Option (((List (Int × (List
 UInt8))) × Int) ⊕ ((List (Int × (List UInt8))) ⊕ ((List (List UInt8)) × ((List (Int × (List UInt8))) × (Int × Bool))))) := fun (z2 : ((List (Int × (List UInt8))) × Int)) => (cnd
 (iLt z2.2 (lLen x.2.1)) (bnd (idx x.2.1 z2.2) (fun (z3 : (Int × (List UInt8))) => (bnd (F_i_joined [z3.2]) (fun (z4 : (List UInt8)) => (chk (room (z2.1.length + 1) 32) (some
 (.inl ((lApp z2.1 [(z3.1, z4)]), (iAdd .i64 z2.2 1))))))))) (some (.inr (.inl z2.1))))
noncomputable def F_i_copyDev (x : ((List (List UInt8)) × ((List (Int × (List UInt8))) × (Int × Bool)))) : (Option ((List (List UInt8)) × ((List (Int × (List UInt8))) × (Int ×
 Bool)))) := (joinX (loopX (S_i_copyDev_0 x) ([], 0)) (fun (z1 : (List (List UInt8))) => (joinX (loopX (S_i_copyDev_1 x) ([], 0)) (fun (z2 : (List (Int × (List UInt8)))) => (some
 (z1, (z2, (x.2.2.1, x.2.2.2))))))))
noncomputable def F_i_within (x : (Int × (Int × Int))) : (Option Bool) := (cnd (iGe x.1 x.2.1) (some (iLe x.1 x.2.2)) (some false))
noncomputable def S_i_DevOk_0 (x : ((List (List UInt8)) × ((List (Int × (List UInt8))) × (Int × Bool)))) : (Int) → Option ((Int) ⊕ (Unit ⊕ Bool)) := fun (z3 : Int) => (cnd (iLt z3
 (lLen x.1)) (bnd (idx x.1 z3) (fun (z4 : (List UInt8)) => (cnd (iGt (lLen z4) 120) (some (.inr (.inr false))) (some (.inl (iAdd .i64 z3 1)))))) (some (.inr (.inl ()))))
noncomputable def S_i_DevOk_1 (x : ((List (List UInt8)) × ((List (Int × (List UInt8))) × (Int × Bool)))) : (Int) → Option ((Int) ⊕ Bool) := fun (z4 : Int) => (cnd (iLt z4 (lLen
 x.2.1)) (bnd (idx x.2.1 z4) (fun (z5 : (Int × (List UInt8))) => (bnd (F_i_within (z5.1, (0, (iSub .i64 (lLen x.1) 1)))) (fun (z6 : Bool) => (cnd (bNot z6) (some (.inr false))
 (cnd (iGt (lLen z5.2) 120) (some (.inr false)) (some (.inl (iAdd .i64 z4 1))))))))) (some (.inr true)))
noncomputable def F_i_DevOk (x : ((List (List UInt8)) × ((List (Int × (List UInt8))) × (Int × Bool)))) : (Option Bool) := (bnd (F_i_within ((lLen x.1), (1, 64))) (fun (z1 : Bool)
 => (cnd (bNot z1) (some false) (cnd (iGt (lLen x.2.1) 40) (some false) (bnd (F_i_within (x.2.2.1, ((-1), 1000))) (fun (z2 : Bool) => (cnd (bNot z2) (some false) (joinX (loopX
 (S_i_DevOk_0 x) 0) (fun (z3 : Unit) => (loopX (S_i_DevOk_1 x) 0))))))))))
noncomputable def F_i_burn (x : ((List (List UInt8)) × ((List (Int × (List UInt8))) × (Int × Bool)))) : (Option (((List (List UInt8)) × ((List (Int × (List UInt8))) × (Int ×
 Bool))) × Bool)) := (cnd (iEq x.2.2.1 0) (some ((x.1, (x.2.1, ((-1), true))), false)) (joinX (cnd (iGt x.2.2.1 0) (some (.inl (iSub .i64 x.2.2.1 1))) (some (.inl x.2.2.1))) (fun
 (z1 : Int) => (some ((x.1, (x.2.1, (z1, x.2.2.2))), true)))))
noncomputable def F_i_WriteSec (x : (((List (List UInt8)) × ((List (Int × (List UInt8))) × (Int × Bool))) × (Int × (List UInt8)))) : (Option ((List (List UInt8)) × ((List (Int ×
 (List UInt8))) × (Int × Bool)))) := (bnd (F_i_copyDev (x.1.1, (x.1.2.1, (x.1.2.2.1, x.1.2.2.2)))) (fun (z1 : ((List (List UInt8)) × ((List (Int × (List UInt8))) × (Int × Bool))))
 => (bnd (F_i_DevOk (x.1.1, (x.1.2.1, (x.1.2.2.1, x.1.2.2.2)))) (fun (z2 : Bool) => (cnd (bNot z2) (some (z1.1, (z1.2.1, (z1.2.2.1, z1.2.2.2)))) (cnd x.1.2.2.2 (some (z1.1,
 (z1.2.1, (z1.2.2.1, z1.2.2.2)))) (bnd (F_i_within (x.2.1, (0, (iSub .i64 (lLen x.1.1) 1)))) (fun (z3 : Bool) => (cnd (bNot z3) (some (z1.1, (z1.2.1, (z1.2.2.1, z1.2.2.2)))) (cnd
 (iGt (lLen x.2.2) 120) (some (z1.1, (z1.2.1, (z1.2.2.1, z1.2.2.2)))) (cnd (iEq (lLen x.1.2.1) 40) (some (z1.1, (z1.2.1, (z1.2.2.1, z1.2.2.2)))) (bnd (F_i_burn (z1.1, (z1.2.1,
 (z1.2.2.1, z1.2.2.2)))) (fun (z4 : (((List (List UInt8)) × ((List (Int × (List UInt8))) × (Int × Bool))) × Bool)) => (joinX (cnd z4.2 (bnd (F_i_joined [x.2.2]) (fun (z5 : (List
 UInt8)) => (chk (room (z4.1.2.1.length + 1) 32) (some (.inl (lApp z4.1.2.1 [(x.2.1, z5)])))))) (some (.inl z4.1.2.1))) (fun (z5 : (List (Int × (List UInt8)))) => (some (z4.1.1,
 (z5, (z4.1.2.2.1, z4.1.2.2.2)))))))))))))))))))
noncomputable def S_i_FlushDev_0 (z3 : (((List (List UInt8)) × ((List (Int × (List UInt8))) × (Int × Bool))) × Bool)) : ((List (List UInt8)) × Int) → Option (((List (List UInt8)) ×
 Int) ⊕ ((List (List UInt8)) ⊕ ((List (List UInt8)) × ((List (Int × (List UInt8))) × (Int × Bool))))) := fun (z4 : ((List (List UInt8)) × Int)) => (cnd (iLt z4.2 (lLen z3.1.2.1))
 (bnd (idx z3.1.2.1 z4.2) (fun (z5 : (Int × (List UInt8))) => (bnd (F_i_joined [z5.2]) (fun (z6 : (List UInt8)) => (bnd (idx z4.1 z5.1) (fun (z7 : (List UInt8)) => (some (.inl
 ((lSet z4.1 (nOf z5.1) z6), (iAdd .i64 z4.2 1)))))))))) (some (.inr (.inl z4.1))))
noncomputable def F_i_FlushDev (x : ((List (List UInt8)) × ((List (Int × (List UInt8))) × (Int × Bool)))) : (Option ((List (List UInt8)) × ((List (Int × (List UInt8))) × (Int ×
 Bool)))) := (bnd (F_i_copyDev (x.1, (x.2.1, (x.2.2.1, x.2.2.2)))) (fun (z1 : ((List (List UInt8)) × ((List (Int × (List UInt8))) × (Int × Bool)))) => (bnd (F_i_DevOk (x.1,
 (x.2.1, (x.2.2.1, x.2.2.2)))) (fun (z2 : Bool) => (cnd (bNot z2) (some (z1.1, (z1.2.1, (z1.2.2.1, z1.2.2.2)))) (cnd x.2.2.2 (some (z1.1, (z1.2.1, (z1.2.2.1, z1.2.2.2)))) (bnd
 (F_i_burn (z1.1, (z1.2.1, (z1.2.2.1, z1.2.2.2)))) (fun (z3 : (((List (List UInt8)) × ((List (Int × (List UInt8))) × (Int × Bool))) × Bool)) => (cnd (bNot z3.2) (some (z3.1.1,
 (z3.1.2.1, (z3.1.2.2.1, z3.1.2.2.2)))) (joinX (loopX (S_i_FlushDev_0 z3) (z3.1.1, 0)) (fun (z4 : (List (List UInt8))) => (some (z4, ([], (z3.1.2.2.1, z3.1.2.2.2)))))))))))))))
noncomputable def S_i_FallDev_0 (z1 : ((List (List UInt8)) × ((List (Int × (List UInt8))) × (Int × Bool)))) (z3 : Int) : ((List (List UInt8)) × Int) → Option (((List (List UInt8))
 × Int) ⊕ ((List (List UInt8)) ⊕ ((List (List UInt8)) × ((List (Int × (List UInt8))) × (Int × Bool))))) := fun (z4 : ((List (List UInt8)) × Int)) => (cnd (iLt z4.2 (lLen z1.2.1))
 (joinX (bnd (idx z1.2.1 z4.2) (fun (z5 : (Int × (List UInt8))) => (cnd (iLt z4.2 30) (chk (iLe 0 z4.2) (cnd (iEq (iAnd .i64 (iShr .i64 z3 z4.2) 1) 1) (bnd (F_i_joined [z5.2])
 (fun (z6 : (List UInt8)) => (bnd (idx z4.1 z5.1) (fun (z7 : (List UInt8)) => (some (.inl (lSet z4.1 (nOf z5.1) z6))))))) (some (.inl z4.1)))) (some (.inl z4.1))))) (fun (z5 :
 (List (List UInt8))) => (some (.inl (z5, (iAdd .i64 z4.2 1)))))) (some (.inr (.inl z4.1))))
noncomputable def F_i_FallDev (x : (((List (List UInt8)) × ((List (Int × (List UInt8))) × (Int × Bool))) × Int)) : (Option ((List (List UInt8)) × ((List (Int × (List UInt8))) ×
 (Int × Bool)))) := (bnd (F_i_copyDev (x.1.1, (x.1.2.1, (x.1.2.2.1, x.1.2.2.2)))) (fun (z1 : ((List (List UInt8)) × ((List (Int × (List UInt8))) × (Int × Bool)))) => (bnd
 (F_i_DevOk (x.1.1, (x.1.2.1, (x.1.2.2.1, x.1.2.2.2)))) (fun (z2 : Bool) => (cnd (bNot z2) (some (z1.1, (z1.2.1, (z1.2.2.1, z1.2.2.2)))) (joinX (bnd (F_i_within (x.2, (0,
 1073741823))) (fun (z3 : Bool) => (cnd (bNot z3) (some (.inl 0)) (some (.inl x.2))))) (fun (z3 : Int) => (joinX (loopX (S_i_FallDev_0 z1 z3) (z1.1, 0)) (fun (z4 : (List (List
 UInt8))) => (some (z4, ([], ((-1), false)))))))))))))
noncomputable def S_i_ReadSec_0 (x : (((List (List UInt8)) × ((List (Int × (List UInt8))) × (Int × Bool))) × Int)) : (Int) → Option ((Int) ⊕ (Unit ⊕ (List UInt8))) := fun (z3 :
 Int) => (cnd (iGe z3 0) (bnd (idx x.1.2.1 z3) (fun (z4 : (Int × (List UInt8))) => (cnd (iEq z4.1 x.2) (bnd (idx x.1.2.1 z3) (fun (z5 : (Int × (List UInt8))) => (bnd (F_i_joined
 [z5.2]) (fun (z6 : (List UInt8)) => (some (.inr (.inr z6))))))) (some (.inl (iSub .i64 z3 1)))))) (some (.inr (.inl ()))))
noncomputable def F_i_ReadSec (x : (((List (List UInt8)) × ((List (Int × (List UInt8))) × (Int × Bool))) × Int)) : (Option (List UInt8)) := (bnd (F_i_DevOk (x.1.1, (x.1.2.1,
 (x.1.2.2.1, x.1.2.2.2)))) (fun (z1 : Bool) => (cnd (bNot z1) (some []) (bnd (F_i_within (x.2, (0, (iSub .i64 (lLen x.1.1) 1)))) (fun (z2 : Bool) => (cnd (bNot z2) (some [])
 (joinX (loopX (S_i_ReadSec_0 x) (iSub .i64 (lLen x.1.2.1) 1)) (fun (z3 : Unit) => (bnd (idx x.1.1 x.2) (fun (z4 : (List UInt8)) => (bnd (F_i_joined [z4]) (fun (z5 : (List UInt8))
 => (some z5)))))))))))))
noncomputable def S_l_FnDevs_0 (z6 : ((List (List UInt8)) × ((List (Int × (List UInt8))) × (Int × Bool)))) (z10 : ((List (List UInt8)) × ((List (Int × (List UInt8))) × (Int ×
 Bool)))) (z11 : Int) : (Bool × Int) → Option ((Bool × Int) ⊕ (Bool ⊕ (Unit ⊕ (Int ⊕ (Unit ⊕ Bool))))) := fun (z18 : (Bool × Int)) => (cnd (iLt z18.2 (lLen z6.2.1)) (cnd z18.1
 (some (.inl (true, (iAdd .i64 z18.2 1)))) (bnd (idx z6.2.1 z18.2) (fun (z19 : (Int × (List UInt8))) => (cnd (iEq z19.1 z11) (bnd (idx z6.2.1 z18.2) (fun (z20 : (Int × (List
 UInt8))) => (bnd (idx z10.1 z11) (fun (z21 : (List UInt8)) => (some (.inl ((sEq z20.2 z21), (iAdd .i64 z18.2 1)))))))) (some (.inl (false, (iAdd .i64 z18.2 1)))))))) (some (.inr
 (.inl z18.1))))
noncomputable def S_l_FnDevs_1 (z6 : ((List (List UInt8)) × ((List (Int × (List UInt8))) × (Int × Bool)))) (z10 : ((List (List UInt8)) × ((List (Int × (List UInt8))) × (Int ×
 Bool)))) (z11 : Int) : (Bool × Int) → Option ((Bool × Int) ⊕ (Bool ⊕ (Unit ⊕ (Int ⊕ (Unit ⊕ Bool))))) := fun (z16 : (Bool × Int)) => (cnd (iLt z16.2 (lLen z6.2.1)) (cnd z16.1
 (some (.inl (true, (iAdd .i64 z16.2 1)))) (bnd (idx z6.2.1 z16.2) (fun (z17 : (Int × (List UInt8))) => (cnd (iEq z17.1 z11) (bnd (idx z6.2.1 z16.2) (fun (z18 : (Int × (List
 UInt8))) => (bnd (idx z10.1 z11) (fun (z19 : (List UInt8)) => (some (.inl ((sEq z18.2 z19), (iAdd .i64 z16.2 1)))))))) (some (.inl (false, (iAdd .i64 z16.2 1)))))))) (some (.inr
 (.inl z16.1))))
noncomputable def S_l_FnDevs_2 (z2 : ((List (List UInt8)) × ((List (Int × (List UInt8))) × (Int × Bool)))) (z3 : Int) (z6 : ((List (List UInt8)) × ((List (Int × (List UInt8))) ×
 (Int × Bool)))) (z7 : ((List (List UInt8)) × ((List (Int × (List UInt8))) × (Int × Bool)))) (z10 : ((List (List UInt8)) × ((List (Int × (List UInt8))) × (Int × Bool)))) : (Int) →
 Option ((Int) ⊕ (Unit ⊕ Bool)) := fun (z11 : Int) => (cnd (iLt z11 (lLen z2.1)) (joinX (bnd (F_i_ReadSec ((z7.1, (z7.2.1, (z7.2.2.1, z7.2.2.2))), z11)) (fun (z12 : (List UInt8))
 => (bnd (F_i_ReadSec ((z6.1, (z6.2.1, (z6.2.2.1, z6.2.2.2))), z11)) (fun (z13 : (List UInt8)) => (cnd (bNot (sEq z12 z13)) (some (.inr (.inr (.inr false)))) (cnd (iNe z11 (iRem
 z3 (lLen z2.1))) (bnd (F_i_ReadSec ((z6.1, (z6.2.1, (z6.2.2.1, z6.2.2.2))), z11)) (fun (z14 : (List UInt8)) => (bnd (F_i_ReadSec ((z2.1, (z2.2.1, (z2.2.2.1, z2.2.2.2))), z11))
 (fun (z15 : (List UInt8)) => (cnd (bNot (sEq z14 z15)) (some (.inr (.inr (.inr false)))) (bnd (idx z10.1 z11) (fun (z16 : (List UInt8)) => (bnd (idx z6.1 z11) (fun (z17 : (List
 UInt8)) => (joinX (loopX (S_l_FnDevs_0 z6 z10 z11) ((sEq z16 z17), 0)) (fun (z18 : Bool) => (cnd (bNot z18) (some (.inr (.inr (.inr false)))) (some (.inl ())))))))))))))) (bnd
 (idx z10.1 z11) (fun (z14 : (List UInt8)) => (bnd (idx z6.1 z11) (fun (z15 : (List UInt8)) => (joinX (loopX (S_l_FnDevs_1 z6 z10 z11) ((sEq z14 z15), 0)) (fun (z16 : Bool) =>
 (cnd (bNot z16) (some (.inr (.inr (.inr false)))) (some (.inl ()))))))))))))))) (fun (z12 : Unit) => (some (.inl (iAdd .i64 z11 1))))) (some (.inr (.inl ()))))
noncomputable def S_l_FnDevs_3 (z6 : ((List (List UInt8)) × ((List (Int × (List UInt8))) × (Int × Bool)))) (z10 : ((List (List UInt8)) × ((List (Int × (List UInt8))) × (Int ×
 Bool)))) (z11 : Int) : (Bool × Int) → Option ((Bool × Int) ⊕ (Bool ⊕ (Unit ⊕ (Int ⊕ (Unit ⊕ Bool))))) := fun (z18 : (Bool × Int)) => (cnd (iLt z18.2 (lLen z6.2.1)) (cnd z18.1
 (some (.inl (true, (iAdd .i64 z18.2 1)))) (bnd (idx z6.2.1 z18.2) (fun (z19 : (Int × (List UInt8))) => (cnd (iEq z19.1 z11) (bnd (idx z6.2.1 z18.2) (fun (z20 : (Int × (List
 UInt8))) => (bnd (idx z10.1 z11) (fun (z21 : (List UInt8)) => (some (.inl ((sEq z20.2 z21), (iAdd .i64 z18.2 1)))))))) (some (.inl (false, (iAdd .i64 z18.2 1)))))))) (some (.inr
 (.inl z18.1))))
noncomputable def S_l_FnDevs_4 (z6 : ((List (List UInt8)) × ((List (Int × (List UInt8))) × (Int × Bool)))) (z10 : ((List (List UInt8)) × ((List (Int × (List UInt8))) × (Int ×
 Bool)))) (z11 : Int) : (Bool × Int) → Option ((Bool × Int) ⊕ (Bool ⊕ (Unit ⊕ (Int ⊕ (Unit ⊕ Bool))))) := fun (z16 : (Bool × Int)) => (cnd (iLt z16.2 (lLen z6.2.1)) (cnd z16.1
 (some (.inl (true, (iAdd .i64 z16.2 1)))) (bnd (idx z6.2.1 z16.2) (fun (z17 : (Int × (List UInt8))) => (cnd (iEq z17.1 z11) (bnd (idx z6.2.1 z16.2) (fun (z18 : (Int × (List
 UInt8))) => (bnd (idx z10.1 z11) (fun (z19 : (List UInt8)) => (some (.inl ((sEq z18.2 z19), (iAdd .i64 z16.2 1)))))))) (some (.inl (false, (iAdd .i64 z16.2 1)))))))) (some (.inr
 (.inl z16.1))))
noncomputable def S_l_FnDevs_5 (z2 : ((List (List UInt8)) × ((List (Int × (List UInt8))) × (Int × Bool)))) (z3 : Int) (z6 : ((List (List UInt8)) × ((List (Int × (List UInt8))) ×
 (Int × Bool)))) (z7 : ((List (List UInt8)) × ((List (Int × (List UInt8))) × (Int × Bool)))) (z10 : ((List (List UInt8)) × ((List (Int × (List UInt8))) × (Int × Bool)))) : (Int) →
 Option ((Int) ⊕ (Unit ⊕ Bool)) := fun (z11 : Int) => (cnd (iLt z11 (lLen z2.1)) (joinX (bnd (F_i_ReadSec ((z7.1, (z7.2.1, (z7.2.2.1, z7.2.2.2))), z11)) (fun (z12 : (List UInt8))
 => (bnd (F_i_ReadSec ((z6.1, (z6.2.1, (z6.2.2.1, z6.2.2.2))), z11)) (fun (z13 : (List UInt8)) => (cnd (bNot (sEq z12 z13)) (some (.inr (.inr (.inr false)))) (cnd (iNe z11 (iRem
 z3 (lLen z2.1))) (bnd (F_i_ReadSec ((z6.1, (z6.2.1, (z6.2.2.1, z6.2.2.2))), z11)) (fun (z14 : (List UInt8)) => (bnd (F_i_ReadSec ((z2.1, (z2.2.1, (z2.2.2.1, z2.2.2.2))), z11))
 (fun (z15 : (List UInt8)) => (cnd (bNot (sEq z14 z15)) (some (.inr (.inr (.inr false)))) (bnd (idx z10.1 z11) (fun (z16 : (List UInt8)) => (bnd (idx z6.1 z11) (fun (z17 : (List
 UInt8)) => (joinX (loopX (S_l_FnDevs_3 z6 z10 z11) ((sEq z16 z17), 0)) (fun (z18 : Bool) => (cnd (bNot z18) (some (.inr (.inr (.inr false)))) (some (.inl ())))))))))))))) (bnd
 (idx z10.1 z11) (fun (z14 : (List UInt8)) => (bnd (idx z6.1 z11) (fun (z15 : (List UInt8)) => (joinX (loopX (S_l_FnDevs_4 z6 z10 z11) ((sEq z14 z15), 0)) (fun (z16 : Bool) =>
 (cnd (bNot z16) (some (.inr (.inr (.inr false)))) (some (.inl ()))))))))))))))) (fun (z12 : Unit) => (some (.inl (iAdd .i64 z11 1))))) (some (.inr (.inl ()))))
noncomputable def S_l_FnDevs_6 (z6 : ((List (List UInt8)) × ((List (Int × (List UInt8))) × (Int × Bool)))) (z10 : ((List (List UInt8)) × ((List (Int × (List UInt8))) × (Int ×
 Bool)))) (z11 : Int) : (Bool × Int) → Option ((Bool × Int) ⊕ (Bool ⊕ (Unit ⊕ (Int ⊕ (Unit ⊕ Bool))))) := fun (z18 : (Bool × Int)) => (cnd (iLt z18.2 (lLen z6.2.1)) (cnd z18.1
 (some (.inl (true, (iAdd .i64 z18.2 1)))) (bnd (idx z6.2.1 z18.2) (fun (z19 : (Int × (List UInt8))) => (cnd (iEq z19.1 z11) (bnd (idx z6.2.1 z18.2) (fun (z20 : (Int × (List
 UInt8))) => (bnd (idx z10.1 z11) (fun (z21 : (List UInt8)) => (some (.inl ((sEq z20.2 z21), (iAdd .i64 z18.2 1)))))))) (some (.inl (false, (iAdd .i64 z18.2 1)))))))) (some (.inr
 (.inl z18.1))))
noncomputable def S_l_FnDevs_7 (z6 : ((List (List UInt8)) × ((List (Int × (List UInt8))) × (Int × Bool)))) (z10 : ((List (List UInt8)) × ((List (Int × (List UInt8))) × (Int ×
 Bool)))) (z11 : Int) : (Bool × Int) → Option ((Bool × Int) ⊕ (Bool ⊕ (Unit ⊕ (Int ⊕ (Unit ⊕ Bool))))) := fun (z16 : (Bool × Int)) => (cnd (iLt z16.2 (lLen z6.2.1)) (cnd z16.1
 (some (.inl (true, (iAdd .i64 z16.2 1)))) (bnd (idx z6.2.1 z16.2) (fun (z17 : (Int × (List UInt8))) => (cnd (iEq z17.1 z11) (bnd (idx z6.2.1 z16.2) (fun (z18 : (Int × (List
 UInt8))) => (bnd (idx z10.1 z11) (fun (z19 : (List UInt8)) => (some (.inl ((sEq z18.2 z19), (iAdd .i64 z16.2 1)))))))) (some (.inl (false, (iAdd .i64 z16.2 1)))))))) (some (.inr
 (.inl z16.1))))
noncomputable def S_l_FnDevs_8 (z2 : ((List (List UInt8)) × ((List (Int × (List UInt8))) × (Int × Bool)))) (z3 : Int) (z6 : ((List (List UInt8)) × ((List (Int × (List UInt8))) ×
 (Int × Bool)))) (z7 : ((List (List UInt8)) × ((List (Int × (List UInt8))) × (Int × Bool)))) (z10 : ((List (List UInt8)) × ((List (Int × (List UInt8))) × (Int × Bool)))) : (Int) →
 Option ((Int) ⊕ (Unit ⊕ Bool)) := fun (z11 : Int) => (cnd (iLt z11 (lLen z2.1)) (joinX (bnd (F_i_ReadSec ((z7.1, (z7.2.1, (z7.2.2.1, z7.2.2.2))), z11)) (fun (z12 : (List UInt8))
 => (bnd (F_i_ReadSec ((z6.1, (z6.2.1, (z6.2.2.1, z6.2.2.2))), z11)) (fun (z13 : (List UInt8)) => (cnd (bNot (sEq z12 z13)) (some (.inr (.inr (.inr false)))) (cnd (iNe z11 (iRem
 z3 (lLen z2.1))) (bnd (F_i_ReadSec ((z6.1, (z6.2.1, (z6.2.2.1, z6.2.2.2))), z11)) (fun (z14 : (List UInt8)) => (bnd (F_i_ReadSec ((z2.1, (z2.2.1, (z2.2.2.1, z2.2.2.2))), z11))
 (fun (z15 : (List UInt8)) => (cnd (bNot (sEq z14 z15)) (some (.inr (.inr (.inr false)))) (bnd (idx z10.1 z11) (fun (z16 : (List UInt8)) => (bnd (idx z6.1 z11) (fun (z17 : (List
 UInt8)) => (joinX (loopX (S_l_FnDevs_6 z6 z10 z11) ((sEq z16 z17), 0)) (fun (z18 : Bool) => (cnd (bNot z18) (some (.inr (.inr (.inr false)))) (some (.inl ())))))))))))))) (bnd
 (idx z10.1 z11) (fun (z14 : (List UInt8)) => (bnd (idx z6.1 z11) (fun (z15 : (List UInt8)) => (joinX (loopX (S_l_FnDevs_7 z6 z10 z11) ((sEq z14 z15), 0)) (fun (z16 : Bool) =>
 (cnd (bNot z16) (some (.inr (.inr (.inr false)))) (some (.inl ()))))))))))))))) (fun (z12 : Unit) => (some (.inl (iAdd .i64 z11 1))))) (some (.inr (.inl ()))))
noncomputable def S_l_FnDevs_9 (z6 : ((List (List UInt8)) × ((List (Int × (List UInt8))) × (Int × Bool)))) (z10 : ((List (List UInt8)) × ((List (Int × (List UInt8))) × (Int ×
 Bool)))) (z11 : Int) : (Bool × Int) → Option ((Bool × Int) ⊕ (Bool ⊕ (Unit ⊕ (Int ⊕ (Unit ⊕ Bool))))) := fun (z18 : (Bool × Int)) => (cnd (iLt z18.2 (lLen z6.2.1)) (cnd z18.1
 (some (.inl (true, (iAdd .i64 z18.2 1)))) (bnd (idx z6.2.1 z18.2) (fun (z19 : (Int × (List UInt8))) => (cnd (iEq z19.1 z11) (bnd (idx z6.2.1 z18.2) (fun (z20 : (Int × (List
 UInt8))) => (bnd (idx z10.1 z11) (fun (z21 : (List UInt8)) => (some (.inl ((sEq z20.2 z21), (iAdd .i64 z18.2 1)))))))) (some (.inl (false, (iAdd .i64 z18.2 1)))))))) (some (.inr
 (.inl z18.1))))
noncomputable def S_l_FnDevs_10 (z6 : ((List (List UInt8)) × ((List (Int × (List UInt8))) × (Int × Bool)))) (z10 : ((List (List UInt8)) × ((List (Int × (List UInt8))) × (Int ×
 Bool)))) (z11 : Int) : (Bool × Int) → Option ((Bool × Int) ⊕ (Bool ⊕ (Unit ⊕ (Int ⊕ (Unit ⊕ Bool))))) := fun (z16 : (Bool × Int)) => (cnd (iLt z16.2 (lLen z6.2.1)) (cnd z16.1
 (some (.inl (true, (iAdd .i64 z16.2 1)))) (bnd (idx z6.2.1 z16.2) (fun (z17 : (Int × (List UInt8))) => (cnd (iEq z17.1 z11) (bnd (idx z6.2.1 z16.2) (fun (z18 : (Int × (List
 UInt8))) => (bnd (idx z10.1 z11) (fun (z19 : (List UInt8)) => (some (.inl ((sEq z18.2 z19), (iAdd .i64 z16.2 1)))))))) (some (.inl (false, (iAdd .i64 z16.2 1)))))))) (some (.inr
 (.inl z16.1))))
noncomputable def S_l_FnDevs_11 (z2 : ((List (List UInt8)) × ((List (Int × (List UInt8))) × (Int × Bool)))) (z3 : Int) (z6 : ((List (List UInt8)) × ((List (Int × (List UInt8))) ×
 (Int × Bool)))) (z7 : ((List (List UInt8)) × ((List (Int × (List UInt8))) × (Int × Bool)))) (z10 : ((List (List UInt8)) × ((List (Int × (List UInt8))) × (Int × Bool)))) : (Int) →
 Option ((Int) ⊕ (Unit ⊕ Bool)) := fun (z11 : Int) => (cnd (iLt z11 (lLen z2.1)) (joinX (bnd (F_i_ReadSec ((z7.1, (z7.2.1, (z7.2.2.1, z7.2.2.2))), z11)) (fun (z12 : (List UInt8))
 => (bnd (F_i_ReadSec ((z6.1, (z6.2.1, (z6.2.2.1, z6.2.2.2))), z11)) (fun (z13 : (List UInt8)) => (cnd (bNot (sEq z12 z13)) (some (.inr (.inr (.inr false)))) (cnd (iNe z11 (iRem
 z3 (lLen z2.1))) (bnd (F_i_ReadSec ((z6.1, (z6.2.1, (z6.2.2.1, z6.2.2.2))), z11)) (fun (z14 : (List UInt8)) => (bnd (F_i_ReadSec ((z2.1, (z2.2.1, (z2.2.2.1, z2.2.2.2))), z11))
 (fun (z15 : (List UInt8)) => (cnd (bNot (sEq z14 z15)) (some (.inr (.inr (.inr false)))) (bnd (idx z10.1 z11) (fun (z16 : (List UInt8)) => (bnd (idx z6.1 z11) (fun (z17 : (List
 UInt8)) => (joinX (loopX (S_l_FnDevs_9 z6 z10 z11) ((sEq z16 z17), 0)) (fun (z18 : Bool) => (cnd (bNot z18) (some (.inr (.inr (.inr false)))) (some (.inl ())))))))))))))) (bnd
 (idx z10.1 z11) (fun (z14 : (List UInt8)) => (bnd (idx z6.1 z11) (fun (z15 : (List UInt8)) => (joinX (loopX (S_l_FnDevs_10 z6 z10 z11) ((sEq z14 z15), 0)) (fun (z16 : Bool) =>
 (cnd (bNot z16) (some (.inr (.inr (.inr false)))) (some (.inl ()))))))))))))))) (fun (z12 : Unit) => (some (.inl (iAdd .i64 z11 1))))) (some (.inr (.inl ()))))
noncomputable def F_l_FnDevs (x : (List UInt8)) : (Option Bool) := (bnd (F_l_big x) (fun (z1 : Bool) => (cnd z1 (some true) (bnd (F_s_DrawDev x) (fun (z2 : ((List (List UInt8)) ×
 ((List (Int × (List UInt8))) × (Int × Bool)))) => (bnd (F_l_at (x, 2)) (fun (z3 : Int) => (chk (iNe (lLen z2.1) 0) (bnd (F_l_at (x, 3)) (fun (z4 : Int) => (bnd (F_l_at (x, 4))
 (fun (z5 : Int) => (bnd (F_i_WriteSec ((z2.1, (z2.2.1, (z2.2.2.1, z2.2.2.2))), ((iRem z3 (lLen z2.1)), [(u8 (iConv .u8 z4)), (u8 (iConv .u8 z5))]))) (fun (z6 : ((List (List
 UInt8)) × ((List (Int × (List UInt8))) × (Int × Bool)))) => (bnd (F_i_FlushDev (z6.1, (z6.2.1, (z6.2.2.1, z6.2.2.2)))) (fun (z7 : ((List (List UInt8)) × ((List (Int × (List
 UInt8))) × (Int × Bool)))) => (alt2 (bnd (F_l_at (x, 5)) (fun (z8 : Int) => (bnd (F_l_at (x, 6)) (fun (z9 : Int) => (bnd (F_i_FallDev ((z6.1, (z6.2.1, (z6.2.2.1, z6.2.2.2))),
 (iAdd .i64 (iMul .i64 z8 256) z9))) (fun (z10 : ((List (List UInt8)) × ((List (Int × (List UInt8))) × (Int × Bool)))) => (joinX (loopX (S_l_FnDevs_2 z2 z3 z6 z7 z10) 0) (fun (z11
 : Unit) => (bnd (F_i_ReadSec ((z6.1, (z6.2.1, (z6.2.2.1, z6.2.2.2))), (iRem z3 (lLen z2.1)))) (fun (z12 : (List UInt8)) => (cnd (sEq z12 [(u8 (iConv .u8 z4)), (u8 (iConv .u8
 z5))]) (bnd (F_i_DevOk (z6.1, (z6.2.1, (z6.2.2.1, z6.2.2.2)))) (fun (z13 : Bool) => (cnd z13 (cnd (iEq (lLen z7.2.1) 0) (bnd (F_i_DevOk (z10.1, (z10.2.1, (z10.2.2.1,
 z10.2.2.2)))) (fun (z14 : Bool) => (cnd z14 (some (bNot z10.2.2.2)) (some false)))) (some false)) (some false)))) (some false)))))))))))) (alt2 (bnd (F_l_at (x, 5)) (fun (z8 :
 Int) => (bnd (F_l_at (x, 6)) (fun (z9 : Int) => (bnd (F_i_FallDev ((z6.1, (z6.2.1, (z6.2.2.1, z6.2.2.2))), (iAdd .i64 (iMul .i64 z8 256) z9))) (fun (z10 : ((List (List UInt8)) ×
 ((List (Int × (List UInt8))) × (Int × Bool)))) => (joinX (loopX (S_l_FnDevs_5 z2 z3 z6 z7 z10) 0) (fun (z11 : Unit) => (bnd (F_i_ReadSec ((z6.1, (z6.2.1, (z6.2.2.1, z6.2.2.2))),
 (iRem z3 (lLen z2.1)))) (fun (z12 : (List UInt8)) => (cnd (sEq z12 [(u8 (iConv .u8 z4)), (u8 (iConv .u8 z5))]) (bnd (F_i_DevOk (z6.1, (z6.2.1, (z6.2.2.1, z6.2.2.2)))) (fun (z13 :
 Bool) => (cnd z13 (cnd (iEq (lLen z7.2.1) 0) (bnd (F_i_DevOk (z10.1, (z10.2.1, (z10.2.2.1, z10.2.2.2)))) (fun (z14 : Bool) => (cnd z14 (some (bNot z10.2.2.2)) (some false))))
 (some false)) (some false)))) (some false)))))))))))) (alt2 (bnd (F_l_at (x, 5)) (fun (z8 : Int) => (bnd (F_l_at (x, 6)) (fun (z9 : Int) => (bnd (F_i_FallDev ((z6.1, (z6.2.1,
 (z6.2.2.1, z6.2.2.2))), (iAdd .i64 (iMul .i64 z8 256) z9))) (fun (z10 : ((List (List UInt8)) × ((List (Int × (List UInt8))) × (Int × Bool)))) => (joinX (loopX (S_l_FnDevs_8 z2 z3
 z6 z7 z10) 0) (fun (z11 : Unit) => (bnd (F_i_ReadSec ((z6.1, (z6.2.1, (z6.2.2.1, z6.2.2.2))), (iRem z3 (lLen z2.1)))) (fun (z12 : (List UInt8)) => (cnd (sEq z12 [(u8 (iConv .u8
 z4)), (u8 (iConv .u8 z5))]) (bnd (F_i_DevOk (z6.1, (z6.2.1, (z6.2.2.1, z6.2.2.2)))) (fun (z13 : Bool) => (cnd z13 (cnd (iEq (lLen z7.2.1) 0) (bnd (F_i_DevOk (z10.1, (z10.2.1,
 (z10.2.2.1, z10.2.2.2)))) (fun (z14 : Bool) => (cnd z14 (some (bNot z10.2.2.2)) (some false)))) (some false)) (some false)))) (some false)))))))))))) (bnd (F_l_at (x, 5)) (fun
 (z8 : Int) => (bnd (F_l_at (x, 6)) (fun (z9 : Int) => (bnd (F_i_FallDev ((z6.1, (z6.2.1, (z6.2.2.1, z6.2.2.2))), (iAdd .i64 (iMul .i64 z8 256) z9))) (fun (z10 : ((List (List
 UInt8)) × ((List (Int × (List UInt8))) × (Int × Bool)))) => (joinX (loopX (S_l_FnDevs_11 z2 z3 z6 z7 z10) 0) (fun (z11 : Unit) => (bnd (F_i_ReadSec ((z6.1, (z6.2.1, (z6.2.2.1,
 z6.2.2.2))), (iRem z3 (lLen z2.1)))) (fun (z12 : (List UInt8)) => (cnd (sEq z12 [(u8 (iConv .u8 z4)), (u8 (iConv .u8 z5))]) (bnd (F_i_DevOk (z6.1, (z6.2.1, (z6.2.2.1,
 z6.2.2.2)))) (fun (z13 : Bool) => (cnd z13 (cnd (iEq (lLen z7.2.1) 0) (bnd (F_i_DevOk (z10.1, (z10.2.1, (z10.2.2.1, z10.2.2.2)))) (fun (z14 : Bool) => (cnd z14 (some (bNot
 z10.2.2.2)) (some false)))) (some false)) (some false)))) (some false)))))))))))))))))))))))))))))))
end Go.Vs
