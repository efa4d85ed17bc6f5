import Derived.Test.YtgleokjlebkdcaaVsW5
set_option linter.all false
namespace Go.Vs
set_option linter.unusedVariables false
instance glbI : Glb := ⟨[]⟩
noncomputable def F_l_szByteS (x : ((List UInt8) × Int)) : (Option Int) := (cnd (iLt (iSub .i64 x.2 (lLen x.1)) 0) (some (-1)) (some (iSub .i64 x.2 (lLen x.1))))
noncomputable def F_l_szCell (x : ((Int × (List UInt8)) × Int)) : (Option Int) := (bnd (F_l_szByteS (x.1.2, x.2)) (fun (z1 : Int) => (cnd (iLt z1 0) (some (-1)) (some z1))))
noncomputable def F_l_szRow (x : (((List UInt8) × ((Int × (List UInt8)) × ((Int × (List UInt8)) × (Int × Bool)))) × Int)) : (Option Int) := (cnd (iLt (iSub .i64 x.2 (lLen x.1.1))
 0) (some (-1)) (bnd (F_l_szCell ((x.1.2.1.1, x.1.2.1.2), (iSub .i64 x.2 (lLen x.1.1)))) (fun (z1 : Int) => (cnd (iLt z1 0) (some (-1)) (bnd (F_l_szCell ((x.1.2.2.1.1,
 x.1.2.2.1.2), z1)) (fun (z2 : Int) => (cnd (iLt z2 0) (some (-1)) (some z2))))))))
noncomputable def S_l_szRowS_0 (x : ((List ((List UInt8) × ((Int × (List UInt8)) × ((Int × (List UInt8)) × (Int × Bool))))) × Int)) : (Int × Int) → Option ((Int × Int) ⊕ (Int ⊕
 Int)) := fun (z1 : (Int × Int)) => (cnd (iLt z1.2 (lLen x.1)) (bnd (idx x.1 z1.2) (fun (z2 : ((List UInt8) × ((Int × (List UInt8)) × ((Int × (List UInt8)) × (Int × Bool))))) =>
 (bnd (F_l_szRow ((z2.1, ((z2.2.1.1, z2.2.1.2), ((z2.2.2.1.1, z2.2.2.1.2), (z2.2.2.2.1, z2.2.2.2.2)))), z1.1)) (fun (z3 : Int) => (cnd (iLt z3 0) (some (.inr (.inr (-1)))) (some
 (.inl (z3, (iAdd .i64 z1.2 1))))))))) (some (.inr (.inl z1.1))))
noncomputable def F_l_szRowS (x : ((List ((List UInt8) × ((Int × (List UInt8)) × ((Int × (List UInt8)) × (Int × Bool))))) × Int)) : (Option Int) := (cnd (iLt (iSub .i64 x.2 (lLen
 x.1)) 0) (some (-1)) (joinX (loopX (S_l_szRowS_0 x) ((iSub .i64 x.2 (lLen x.1)), 0)) (fun (z1 : Int) => (some z1))))
noncomputable def F_l_szMarkS (x : ((List (Int × (Int × Int))) × Int)) : (Option Int) := (cnd (iLt (iSub .i64 x.2 (lLen x.1)) 0) (some (-1)) (some (iSub .i64 x.2 (lLen x.1))))
noncomputable def F_l_szTab (x : (((List ((List UInt8) × ((Int × (List UInt8)) × ((Int × (List UInt8)) × (Int × Bool))))) × (Int × (List (Int × (Int × Int))))) × Int)) : (Option
 Int) := (bnd (F_l_szRowS (x.1.1, x.2)) (fun (z1 : Int) => (cnd (iLt z1 0) (some (-1)) (bnd (F_l_szMarkS (x.1.2.2, z1)) (fun (z2 : Int) => (cnd (iLt z2 0) (some (-1)) (some
 z2)))))))
noncomputable def S_l_toByteS_0 (x : (List UInt8)) : ((List UInt8) × Int) → Option (((List UInt8) × Int) ⊕ ((List UInt8) ⊕ (List UInt8))) := fun (z1 : ((List UInt8) × Int)) => (cnd
 (iLt z1.2 (lLen x)) (bnd (idx x z1.2) (fun (z2 : UInt8) => (bnd (idx z1.1 z1.2) (fun (z3 : UInt8) => (some (.inl ((lSet z1.1 (nOf z1.2) z2), (iAdd .i64 z1.2 1)))))))) (some (.inr
 (.inl z1.1))))
noncomputable def F_l_toByteS (x : (List UInt8)) : (Option (List UInt8)) := (chk (iEq (lLen x) (lLen x)) (chk (mkOk (lLen x) 1) (joinX (loopX (S_l_toByteS_0 x) ((lRep (nOf (lLen
 x)) 0), 0)) (fun (z1 : (List UInt8)) => (some z1)))))
noncomputable def F_l_toCell (x : (Int × (List UInt8))) : (Option (Int × (List UInt8))) := (bnd (F_l_toByteS x.2) (fun (z1 : (List UInt8)) => (some (x.1, z1))))
noncomputable def F_l_toRow (x : ((List UInt8) × ((Int × (List UInt8)) × ((Int × (List UInt8)) × (Int × Bool))))) : (Option ((List UInt8) × ((Int × (List UInt8)) × ((Int × (List
 UInt8)) × (Int × Bool))))) := (bnd (F_l_toCell (x.2.1.1, x.2.1.2)) (fun (z1 : (Int × (List UInt8))) => (bnd (F_l_toCell (x.2.2.1.1, x.2.2.1.2)) (fun (z2 : (Int × (List UInt8)))
 => (some (x.1, ((z1.1, z1.2), ((z2.1, z2.2), (x.2.2.2.1, x.2.2.2.2)))))))))
noncomputable def S_l_toRowS_0 (x : (List ((List UInt8) × ((Int × (List UInt8)) × ((Int × (List UInt8)) × (Int × Bool)))))) : ((List ((List UInt8) × ((Int × (List UInt8)) × ((Int ×
 (List UInt8)) × (Int × Bool))))) × Int) → Option (((List ((List UInt8) × ((Int × (List UInt8)) × ((Int × (List UInt8)) × (Int × Bool))))) × Int) ⊕ ((List ((List UInt8) × ((Int ×
 (List UInt8)) × ((Int × (List UInt8)) × (Int × Bool))))) ⊕ (List ((List UInt8) × ((Int × (List UInt8)) × ((Int × (List UInt8)) × (Int × Bool))))))) := fun (z1 : ((List ((List
 UInt8) × ((Int × (List UInt8)) × ((Int × (List UInt8)) × (Int × Bool))))) × Int)) => (cnd (iLt z1.2 (lLen x)) (bnd (idx x z1.2) (fun (z2 : ((List UInt8) × ((Int × (List UInt8)) ×
 ((Int × (List UInt8)) × (Int × Bool))))) => (bnd (F_l_toRow (z2.1, ((z2.2.1.1, z2.2.1.2), ((z2.2.2.1.1, z2.2.2.1.2), (z2.2.2.2.1, z2.2.2.2.2))))) (fun (z3 : ((List UInt8) × ((Int
 × (List UInt8)) × ((Int × (List UInt8)) × (Int × Bool))))) => (bnd (idx z1.1 z1.2) (fun (z4 : ((List UInt8) × ((Int × (List UInt8)) × ((Int × (List UInt8)) × (Int × Bool))))) =>
 (some (.inl ((lSet z1.1 (nOf z1.2) (z3.1, ((z3.2.1.1, z3.2.1.2), ((z3.2.2.1.1, z3.2.2.1.2), (z3.2.2.2.1, z3.2.2.2.2))))), (iAdd .i64 z1.2 1)))))))))) (some (.inr (.inl z1.1))))
noncomputable def F_l_toRowS (x : (List ((List UInt8) × ((Int × (List UInt8)) × ((Int × (List UInt8)) × (Int × Bool)))))) : (Option (List ((List UInt8) × ((Int × (List UInt8)) ×
 ((Int × (List UInt8)) × (Int × Bool)))))) := (chk (iEq (lLen x) (lLen x)) (chk (mkOk (lLen x) 96) (joinX (loopX (S_l_toRowS_0 x) ((lRep (nOf (lLen x)) ([], ((0, []), ((0, []),
 (0, false))))), 0)) (fun (z1 : (List ((List UInt8) × ((Int × (List UInt8)) × ((Int × (List UInt8)) × (Int × Bool)))))) => (some z1)))))
noncomputable def F_l_toMark (x : (Int × (Int × Int))) : (Option (Int × (Int × Int))) := (some (x.1, (x.2.1, x.2.2)))
noncomputable def S_l_toMarkS_0 (x : (List (Int × (Int × Int)))) : ((List (Int × (Int × Int))) × Int) → Option (((List (Int × (Int × Int))) × Int) ⊕ ((List (Int × (Int × Int))) ⊕
 (List (Int × (Int × Int))))) := fun (z1 : ((List (Int × (Int × Int))) × Int)) => (cnd (iLt z1.2 (lLen x)) (bnd (idx x z1.2) (fun (z2 : (Int × (Int × Int))) => (bnd (F_l_toMark
 (z2.1, (z2.2.1, z2.2.2))) (fun (z3 : (Int × (Int × Int))) => (bnd (idx z1.1 z1.2) (fun (z4 : (Int × (Int × Int))) => (some (.inl ((lSet z1.1 (nOf z1.2) (z3.1, (z3.2.1, z3.2.2))),
 (iAdd .i64 z1.2 1)))))))))) (some (.inr (.inl z1.1))))
noncomputable def F_l_toMarkS (x : (List (Int × (Int × Int)))) : (Option (List (Int × (Int × Int)))) := (chk (iEq (lLen x) (lLen x)) (chk (mkOk (lLen x) 24) (joinX (loopX
 (S_l_toMarkS_0 x) ((lRep (nOf (lLen x)) (0, (0, 0))), 0)) (fun (z1 : (List (Int × (Int × Int)))) => (some z1)))))
noncomputable def F_l_toTab (x : ((List ((List UInt8) × ((Int × (List UInt8)) × ((Int × (List UInt8)) × (Int × Bool))))) × (Int × (List (Int × (Int × Int)))))) : (Option ((List
 ((List UInt8) × ((Int × (List UInt8)) × ((Int × (List UInt8)) × (Int × Bool))))) × (Int × (List (Int × (Int × Int)))))) := (bnd (F_l_toRowS x.1) (fun (z1 : (List ((List UInt8) ×
 ((Int × (List UInt8)) × ((Int × (List UInt8)) × (Int × Bool)))))) => (bnd (F_l_toMarkS x.2.2) (fun (z2 : (List (Int × (Int × Int)))) => (some (z1, (x.2.1, z2)))))))
noncomputable def S_l_eqByteS_0 (x : ((List UInt8) × (List UInt8))) : (Int) → Option ((Int) ⊕ Bool) := fun (z1 : Int) => (cnd (iLt z1 (lLen x.1)) (bnd (idx x.1 z1) (fun (z2 :
 UInt8) => (bnd (idx x.2 z1) (fun (z3 : UInt8) => (cnd (iNe (y2i z2) (y2i z3)) (some (.inr false)) (some (.inl (iAdd .i64 z1 1)))))))) (some (.inr true)))
noncomputable def F_l_eqByteS (x : ((List UInt8) × (List UInt8))) : (Option Bool) := (cnd (iNe (lLen x.1) (lLen x.2)) (some false) (loopX (S_l_eqByteS_0 x) 0))
noncomputable def F_l_eqCell (x : ((Int × (List UInt8)) × (Int × (List UInt8)))) : (Option Bool) := (cnd (iNe x.1.1 x.2.1) (some false) (bnd (F_l_eqByteS (x.1.2, x.2.2)) (fun (z1 :
 Bool) => (cnd (bNot z1) (some false) (some true)))))
noncomputable def F_l_eqRow (x : (((List UInt8) × ((Int × (List UInt8)) × ((Int × (List UInt8)) × (Int × Bool)))) × ((List UInt8) × ((Int × (List UInt8)) × ((Int × (List UInt8)) ×
 (Int × Bool)))))) : (Option Bool) := (cnd (bNot (sEq x.1.1 x.2.1)) (some false) (bnd (F_l_eqCell ((x.1.2.1.1, x.1.2.1.2), (x.2.2.1.1, x.2.2.1.2))) (fun (z1 : Bool) => (cnd (bNot
 z1) (some false) (bnd (F_l_eqCell ((x.1.2.2.1.1, x.1.2.2.1.2), (x.2.2.2.1.1, x.2.2.2.1.2))) (fun (z2 : Bool) => (cnd (bNot z2) (some false) (cnd (iNe x.1.2.2.2.1 x.2.2.2.2.1)
 (some false) (cnd (bNe x.1.2.2.2.2 x.2.2.2.2.2) (some false) (some true))))))))))
noncomputable def S_l_eqRowS_0 (x : ((List ((List UInt8) × ((Int × (List UInt8)) × ((Int × (List UInt8)) × (Int × Bool))))) × (List ((List UInt8) × ((Int × (List UInt8)) × ((Int ×
 (List UInt8)) × (Int × Bool))))))) : (Int) → Option ((Int) ⊕ Bool) := fun (z1 : Int) => (cnd (iLt z1 (lLen x.1)) (bnd (idx x.1 z1) (fun (z2 : ((List UInt8) × ((Int × (List
 UInt8)) × ((Int × (List UInt8)) × (Int × Bool))))) => (bnd (idx x.2 z1) (fun (z3 : ((List UInt8) × ((Int × (List UInt8)) × ((Int × (List UInt8)) × (Int × Bool))))) => (bnd
 (F_l_eqRow ((z2.1, ((z2.2.1.1, z2.2.1.2), ((z2.2.2.1.1, z2.2.2.1.2), (z2.2.2.2.1, z2.2.2.2.2)))), (z3.1, ((z3.2.1.1, z3.2.1.2), ((z3.2.2.1.1, z3.2.2.1.2), (z3.2.2.2.1,
 z3.2.2.2.2)))))) (fun (z4 : Bool) => (cnd (bNot z4) (some (.inr false)) (some (.inl (iAdd .i64 z1 1)))))))))) (some (.inr true)))
noncomputable def F_l_eqRowS (x : ((List ((List UInt8) × ((Int × (List UInt8)) × ((Int × (List UInt8)) × (Int × Bool))))) × (List ((List UInt8) × ((Int × (List UInt8)) × ((Int ×
 (List UInt8)) × (Int × Bool))))))) : (Option Bool) := (cnd (iNe (lLen x.1) (lLen x.2)) (some false) (loopX (S_l_eqRowS_0 x) 0))
noncomputable def F_l_eqMark (x : ((Int × (Int × Int)) × (Int × (Int × Int)))) : (Option Bool) := (cnd (iNe x.1.1 x.2.1) (some false) (cnd (iNe x.1.2.1 x.2.2.1) (some false) (cnd
 (iNe x.1.2.2 x.2.2.2) (some false) (some true))))
noncomputable def S_l_eqMarkS_0 (x : ((List (Int × (Int × Int))) × (List (Int × (Int × Int))))) : (Int) → Option ((Int) ⊕ Bool) := fun (z1 : Int) => (cnd (iLt z1 (lLen x.1)) (bnd
 (idx x.1 z1) (fun (z2 : (Int × (Int × Int))) => (bnd (idx x.2 z1) (fun (z3 : (Int × (Int × Int))) => (bnd (F_l_eqMark ((z2.1, (z2.2.1, z2.2.2)), (z3.1, (z3.2.1, z3.2.2)))) (fun
 (z4 : Bool) => (cnd (bNot z4) (some (.inr false)) (some (.inl (iAdd .i64 z1 1)))))))))) (some (.inr true)))
noncomputable def F_l_eqMarkS (x : ((List (Int × (Int × Int))) × (List (Int × (Int × Int))))) : (Option Bool) := (cnd (iNe (lLen x.1) (lLen x.2)) (some false) (loopX (S_l_eqMarkS_0
 x) 0))
noncomputable def F_l_eqTab (x : (((List ((List UInt8) × ((Int × (List UInt8)) × ((Int × (List UInt8)) × (Int × Bool))))) × (Int × (List (Int × (Int × Int))))) × ((List ((List
 UInt8) × ((Int × (List UInt8)) × ((Int × (List UInt8)) × (Int × Bool))))) × (Int × (List (Int × (Int × Int))))))) : (Option Bool) := (bnd (F_l_eqRowS (x.1.1, x.2.1)) (fun (z1 :
 Bool) => (cnd (bNot z1) (some false) (cnd (iNe x.1.2.1 x.2.2.1) (some false) (bnd (F_l_eqMarkS (x.1.2.2, x.2.2.2)) (fun (z2 : Bool) => (cnd (bNot z2) (some false) (some
 true))))))))
noncomputable def F_s_l12SameCell (x : ((Int × (List UInt8)) × (Int × (List UInt8)))) : (Option Bool) := (cnd (iEq x.1.1 x.2.1) (some (sEq x.1.2 x.2.2)) (some false))
noncomputable def F_s_l12SameRow (x : (((List UInt8) × ((Int × (List UInt8)) × ((Int × (List UInt8)) × (Int × Bool)))) × ((List UInt8) × ((Int × (List UInt8)) × ((Int × (List
 UInt8)) × (Int × Bool)))))) : (Option Bool) := (cnd (sEq x.1.1 x.2.1) (bnd (F_s_l12SameCell ((x.1.2.1.1, x.1.2.1.2), (x.2.2.1.1, x.2.2.1.2))) (fun (z1 : Bool) => (cnd z1 (bnd
 (F_s_l12SameCell ((x.1.2.2.1.1, x.1.2.2.1.2), (x.2.2.2.1.1, x.2.2.2.1.2))) (fun (z2 : Bool) => (cnd z2 (cnd (iEq x.1.2.2.2.1 x.2.2.2.2.1) (some (bEq x.1.2.2.2.2 x.2.2.2.2.2))
 (some false)) (some false)))) (some false)))) (some false))
noncomputable def S_s_SameTab_0 (x : (((List ((List UInt8) × ((Int × (List UInt8)) × ((Int × (List UInt8)) × (Int × Bool))))) × (Int × (List (Int × (Int × Int))))) × ((List ((List
 UInt8) × ((Int × (List UInt8)) × ((Int × (List UInt8)) × (Int × Bool))))) × (Int × (List (Int × (Int × Int))))))) : (Int) → Option ((Int) ⊕ (Unit ⊕ Bool)) := fun (z1 : Int) =>
 (cnd (iLt z1 (lLen x.1.1)) (bnd (idx x.1.1 z1) (fun (z2 : ((List UInt8) × ((Int × (List UInt8)) × ((Int × (List UInt8)) × (Int × Bool))))) => (bnd (idx x.2.1 z1) (fun (z3 :
 ((List UInt8) × ((Int × (List UInt8)) × ((Int × (List UInt8)) × (Int × Bool))))) => (bnd (F_s_l12SameRow ((z2.1, ((z2.2.1.1, z2.2.1.2), ((z2.2.2.1.1, z2.2.2.1.2), (z2.2.2.2.1,
 z2.2.2.2.2)))), (z3.1, ((z3.2.1.1, z3.2.1.2), ((z3.2.2.1.1, z3.2.2.1.2), (z3.2.2.2.1, z3.2.2.2.2)))))) (fun (z4 : Bool) => (cnd (bNot z4) (some (.inr (.inr false))) (some (.inl
 (iAdd .i64 z1 1)))))))))) (some (.inr (.inl ()))))
noncomputable def S_s_SameTab_1 (x : (((List ((List UInt8) × ((Int × (List UInt8)) × ((Int × (List UInt8)) × (Int × Bool))))) × (Int × (List (Int × (Int × Int))))) × ((List ((List
 UInt8) × ((Int × (List UInt8)) × ((Int × (List UInt8)) × (Int × Bool))))) × (Int × (List (Int × (Int × Int))))))) : (Int) → Option ((Int) ⊕ Bool) := fun (z2 : Int) => (cnd (iLt
 z2 (lLen x.1.2.2)) (bnd (idx x.1.2.2 z2) (fun (z3 : (Int × (Int × Int))) => (bnd (idx x.2.2.2 z2) (fun (z4 : (Int × (Int × Int))) => (cnd (bNot (zEq [z3.1, z3.2.1, z3.2.2] [z4.1,
 z4.2.1, z4.2.2])) (some (.inr false)) (some (.inl (iAdd .i64 z2 1)))))))) (some (.inr true)))
noncomputable def F_s_SameTab (x : (((List ((List UInt8) × ((Int × (List UInt8)) × ((Int × (List UInt8)) × (Int × Bool))))) × (Int × (List (Int × (Int × Int))))) × ((List ((List
 UInt8) × ((Int × (List UInt8)) × ((Int × (List UInt8)) × (Int × Bool))))) × (Int × (List (Int × (Int × Int))))))) : (Option Bool) := (cnd (iNe (lLen x.1.1) (lLen x.2.1)) (some
 false) (cnd (iNe x.1.2.1 x.2.2.1) (some false) (cnd (iNe (lLen x.1.2.2) (lLen x.2.2.2)) (some false) (joinX (loopX (S_s_SameTab_0 x) 0) (fun (z1 : Unit) => (loopX (S_s_SameTab_1
 x) 0))))))
noncomputable def F_i_sameCell (x : ((Int × (List UInt8)) × (Int × (List UInt8)))) : (Option Bool) := (cnd (iEq x.1.1 x.2.1) (some (sEq x.1.2 x.2.2)) (some false))
noncomputable def F_i_sameRow (x : (((List UInt8) × ((Int × (List UInt8)) × ((Int × (List UInt8)) × (Int × Bool)))) × ((List UInt8) × ((Int × (List UInt8)) × ((Int × (List UInt8))
 × (Int × Bool)))))) : (Option Bool) := (cnd (sEq x.1.1 x.2.1) (bnd (F_i_sameCell ((x.1.2.1.1, x.1.2.1.2), (x.2.2.1.1, x.2.2.1.2))) (fun (z1 : Bool) => (cnd z1 (bnd (F_i_sameCell
 ((x.1.2.2.1.1, x.1.2.2.1.2), (x.2.2.2.1.1, x.2.2.2.1.2))) (fun (z2 : Bool) => (cnd z2 (cnd (iEq x.1.2.2.2.1 x.2.2.2.2.1) (some (bEq x.1.2.2.2.2 x.2.2.2.2.2)) (some false)) (some
 false)))) (some false)))) (some false))
noncomputable def S_slices_EqualFunc_i_sameRow_0 (x : ((List ((List UInt8) × ((Int × (List UInt8)) × ((Int × (List UInt8)) × (Int × Bool))))) × (List ((List UInt8) × ((Int × (List
 UInt8)) × ((Int × (List UInt8)) × (Int × Bool))))))) : (Int) → Option ((Int) ⊕ Bool) := fun (z1 : Int) => (cnd (iLt z1 (lLen x.1)) (bnd (idx x.1 z1) (fun (z2 : ((List UInt8) ×
 ((Int × (List UInt8)) × ((Int × (List UInt8)) × (Int × Bool))))) => (bnd (idx x.2 z1) (fun (z3 : ((List UInt8) × ((Int × (List UInt8)) × ((Int × (List UInt8)) × (Int × Bool)))))
 => (bnd (F_i_sameRow ((z2.1, ((z2.2.1.1, z2.2.1.2), ((z2.2.2.1.1, z2.2.2.1.2), (z2.2.2.2.1, z2.2.2.2.2)))), (z3.1, ((z3.2.1.1, z3.2.1.2), ((z3.2.2.1.1, z3.2.2.1.2), (z3.2.2.2.1,
 z3.2.2.2.2)))))) (fun (z4 : Bool) => (cnd (bNot z4) (some (.inr false)) (some (.inl (iAdd .i64 z1 1)))))))))) (some (.inr true)))
noncomputable def F_slices_EqualFunc_i_sameRow (x : ((List ((List UInt8) × ((Int × (List UInt8)) × ((Int × (List UInt8)) × (Int × Bool))))) × (List ((List UInt8) × ((Int × (List
 UInt8)) × ((Int × (List UInt8)) × (Int × Bool))))))) : (Option Bool) := (cnd (iNe (lLen x.1) (lLen x.2)) (some false) (loopX (S_slices_EqualFunc_i_sameRow_0 x) 0))
noncomputable def S_slices_Equal_0 (x : ((List (Int × (Int × Int))) × (List (Int × (Int × Int))))) : (Int) → Option ((Int) ⊕ Bool) := fun (z1 : Int) => (cnd (iLt z1 (lLen x.1))
 (bnd (idx x.1 z1) (fun (z2 : (Int × (Int × Int))) => (bnd (idx x.2 z1) (fun (z3 : (Int × (Int × Int))) => (cnd (bNot (zEq [z2.1, z2.2.1, z2.2.2] [z3.1, z3.2.1, z3.2.2])) (some
 (.inr false)) (some (.inl (iAdd .i64 z1 1)))))))) (some (.inr true)))
noncomputable def F_slices_Equal (x : ((List (Int × (Int × Int))) × (List (Int × (Int × Int))))) : (Option Bool) := (cnd (iNe (lLen x.1) (lLen x.2)) (some false) (loopX
 (S_slices_Equal_0 x) 0))
noncomputable def F_i_SameTab (x : (((List ((List UInt8) × ((Int × (List UInt8)) × ((Int × (List UInt8)) × (Int × Bool))))) × (Int × (List (Int × (Int × Int))))) × ((List ((List
 UInt8) × ((Int × (List UInt8)) × ((Int × (List UInt8)) × (Int × Bool))))) × (Int × (List (Int × (Int × Int))))))) : (Option Bool) := (bnd (F_slices_EqualFunc_i_sameRow (x.1.1,
 x.2.1)) (fun (z1 : Bool) => (cnd z1 (cnd (iEq x.1.2.1 x.2.2.1) (bnd (F_slices_Equal (x.1.2.2, x.2.2.2)) (fun (z2 : Bool) => (some z2))) (some false)) (some false))))
noncomputable def F_l_FnExactSameTab (x : (((List ((List UInt8) × ((Int × (List UInt8)) × ((Int × (List UInt8)) × (Int × Bool))))) × (Int × (List (Int × (Int × Int))))) × ((List
 ((List UInt8) × ((Int × (List UInt8)) × ((Int × (List UInt8)) × (Int × Bool))))) × (Int × (List (Int × (Int × Int))))))) : (Option Bool) := (bnd (F_l_szTab ((x.1.1, (x.1.2.1,
 x.1.2.2)), 1048576)) (fun (z1 : Int) => (cnd (iLt z1 0) (some true) (bnd (F_l_szTab ((x.2.1, (x.2.2.1, x.2.2.2)), z1)) (fun (z2 : Int) => (cnd (iLt z2 0) (some true) (bnd
 (F_l_toTab (x.1.1, (x.1.2.1, x.1.2.2))) (fun (z3 : ((List ((List UInt8) × ((Int × (List UInt8)) × ((Int × (List UInt8)) × (Int × Bool))))) × (Int × (List (Int × (Int × Int))))))
 => (bnd (F_l_toTab (x.2.1, (x.2.2.1, x.2.2.2))) (fun (z4 : ((List ((List UInt8) × ((Int × (List UInt8)) × ((Int × (List UInt8)) × (Int × Bool))))) × (Int × (List (Int × (Int ×
 Int)))))) => (bnd (F_s_SameTab ((z3.1, (z3.2.1, z3.2.2)), (z4.1, (z4.2.1, z4.2.2)))) (fun (z5 : Bool) => (bnd (F_l_toTab (x.1.1, (x.1.2.1, x.1.2.2))) (fun (z6 : ((List ((List
 UInt8) × ((Int × (List UInt8)) × ((Int × (List UInt8)) × (Int × Bool))))) × (Int × (List (Int × (Int × Int)))))) => (bnd (F_l_toTab (x.2.1, (x.2.2.1, x.2.2.2))) (fun (z7 : ((List
 ((List UInt8) × ((Int × (List UInt8)) × ((Int × (List UInt8)) × (Int × Bool))))) × (Int × (List (Int × (Int × Int)))))) => (bnd (F_i_SameTab ((z6.1, (z6.2.1, z6.2.2)), (z7.1,
 (z7.2.1, z7.2.2)))) (fun (z8 : Bool) => (cnd (bNe z8 z5) (some false) (bnd (F_l_toTab (x.1.1, (x.1.2.1, x.1.2.2))) (fun (z9 : ((List ((List UInt8) × ((Int × (List UInt8)) × ((Int
 × (List UInt8)) × (Int × Bool))))) × (Int × (List (Int × (Int × Int)))))) => (bnd (F_l_eqTab ((z6.1, (z6.2.1, z6.2.2)), (z9.1, (z9.2.1, z9.2.2)))) (fun (z10 : Bool) => (cnd (bNot
 z10) (some false) (bnd (F_l_toTab (x.2.1, (x.2.2.1, x.2.2.2))) (fun (z11 : ((List ((List UInt8) × ((Int × (List UInt8)) × ((Int × (List UInt8)) × (Int × Bool))))) × (Int × (List
 (Int × (Int × Int)))))) => (bnd (F_l_eqTab ((z7.1, (z7.2.1, z7.2.2)), (z11.1, (z11.2.1, z11.2.2)))) (fun (z12 : Bool) => (cnd (bNot z12) (some false) (some
 true))))))))))))))))))))))))))))))
end Go.Vs
