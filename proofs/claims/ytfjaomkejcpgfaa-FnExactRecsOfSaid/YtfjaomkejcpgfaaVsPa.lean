import Derived.Test.YtfjaomkejcpgfaaVsW5
set_option linter.unusedVariables false
set_option linter.unusedSimpArgs false
namespace Go.Vs
set_option linter.unusedVariables false
/-! What the functions compute, as the machine of X tells it. -/
noncomputable def F_l_szByteS (x : ((List UInt8) × Int)) : (Option Int) := (cnd (iLt (iSub .i64 x.2 (lLen x.1)) 0) (some (-1)) (some (iSub .i64 x.2 (lLen x.1))))
noncomputable def F_l_szCell (x : ((Int × (List UInt8)) × Int)) : (Option Int) := (bnd (F_l_szByteS (x.1.2, x.2)) (fun (z1 : Int) => (cnd (iLt z1 0) (some (-1)) (some z1))))
noncomputable def F_l_szRow (x : (((List UInt8) × ((Int × (List UInt8)) × ((Int × (List UInt8)) × (Int × Bool)))) × Int)) : (Option Int) := (cnd (iLt (iSub .i64 x.2 (lLen x.1.1))
  0) (some (-1)) (bnd (F_l_szCell ((x.1.2.1.1, x.1.2.1.2), (iSub .i64 x.2 (lLen x.1.1)))) (fun (z1 : Int) => (cnd (iLt z1 0) (some (-1)) (bnd (F_l_szCell ((x.1.2.2.1.1,
  x.1.2.2.1.2), z1)) (fun (z2 : Int) => (cnd (iLt z2 0) (some (-1)) (some z2))))))))
noncomputable def S_l_szRowS_0 (x : ((List ((List UInt8) × ((Int × (List UInt8)) × ((Int × (List UInt8)) × (Int × Bool))))) × Int)) : (Int × Int) → Option ((Int × Int) ⊕ (Int ⊕
  Int)) := fun (z1 : (Int × Int)) => (cnd (iLt z1.2 (lLen x.1)) (bnd (idx x.1 z1.2) (fun (z2 : ((List UInt8) × ((Int × (List UInt8)) × ((Int × (List UInt8)) × (Int × Bool))))) =>
  (bnd (F_l_szRow ((z2.1, ((z2.2.1.1, z2.2.1.2), ((z2.2.2.1.1, z2.2.2.1.2), (z2.2.2.2.1, z2.2.2.2.2)))), z1.1)) (fun (z3 : Int) => (cnd (iLt z3 0) (some (.inr (.inr (-1)))) (some
  (.inl (z3, (iAdd .i64 z1.2 1))))))))) (some (.inr (.inl z1.1))))
noncomputable def F_l_szRowS (x : ((List ((List UInt8) × ((Int × (List UInt8)) × ((Int × (List UInt8)) × (Int × Bool))))) × Int)) : (Option Int) := (cnd (iLt (iSub .i64 x.2 (lLen
  x.1)) 0) (some (-1)) (joinX (loopX (S_l_szRowS_0 x) ((iSub .i64 x.2 (lLen x.1)), 0)) (fun (z1 : Int) => (some z1))))
noncomputable def F_l_szMarkS (x : ((List (Int × (Int × Int))) × Int)) : (Option Int) := (cnd (iLt (iSub .i64 x.2 (lLen x.1)) 0) (some (-1)) (some (iSub .i64 x.2 (lLen x.1))))
noncomputable def F_l_szTab (x : (((List ((List UInt8) × ((Int × (List UInt8)) × ((Int × (List UInt8)) × (Int × Bool))))) × (Int × (List (Int × (Int × Int))))) × Int)) : (Option
  Int) := (bnd (F_l_szRowS (x.1.1, x.2)) (fun (z1 : Int) => (cnd (iLt z1 0) (some (-1)) (bnd (F_l_szMarkS (x.1.2.2, z1)) (fun (z2 : Int) => (cnd (iLt z2 0) (some (-1)) (some
  z2)))))))
noncomputable def S_l_toByteS_0 (x : (List UInt8)) : ((List UInt8) × Int) → Option (((List UInt8) × Int) ⊕ ((List UInt8) ⊕ (List UInt8))) := fun (z1 : ((List UInt8) × Int)) => (cnd
  (iLt z1.2 (lLen x)) (bnd (idx x z1.2) (fun (z2 : UInt8) => (bnd (idx z1.1 z1.2) (fun (z3 : UInt8) => (some (.inl ((lSet z1.1 (nOf z1.2) z2), (iAdd .i64 z1.2 1)))))))) (some (.inr
  (.inl z1.1))))
noncomputable def F_l_toByteS (x : (List UInt8)) : (Option (List UInt8)) := (chk (iEq (lLen x) (lLen x)) (chk (mkOk (lLen x) 1) (joinX (loopX (S_l_toByteS_0 x) ((lRep (nOf (lLen
  x)) 0), 0)) (fun (z1 : (List UInt8)) => (some z1)))))
noncomputable def F_l_toCell (x : (Int × (List UInt8))) : (Option (Int × (List UInt8))) := (bnd (F_l_toByteS x.2) (fun (z1 : (List UInt8)) => (some (x.1, z1))))
noncomputable def F_l_toRow (x : ((List UInt8) × ((Int × (List UInt8)) × ((Int × (List UInt8)) × (Int × Bool))))) : (Option ((List UInt8) × ((Int × (List UInt8)) × ((Int × (List
  UInt8)) × (Int × Bool))))) := (bnd (F_l_toCell (x.2.1.1, x.2.1.2)) (fun (z1 : (Int × (List UInt8))) => (bnd (F_l_toCell (x.2.2.1.1, x.2.2.1.2)) (fun (z2 : (Int × (List UInt8)))
  => (some (x.1, ((z1.1, z1.2), ((z2.1, z2.2), (x.2.2.2.1, x.2.2.2.2)))))))))
noncomputable def S_l_toRowS_0 (x : (List ((List UInt8) × ((Int × (List UInt8)) × ((Int × (List UInt8)) × (Int × Bool)))))) : ((List ((List UInt8) × ((Int × (List UInt8)) × ((Int ×
  (List UInt8)) × (Int × Bool))))) × Int) → Option (((List ((List UInt8) × ((Int × (List UInt8)) × ((Int × (List UInt8)) × (Int × Bool))))) × Int) ⊕ ((List ((List UInt8) × ((Int ×
  (List UInt8)) × ((Int × (List UInt8)) × (Int × Bool))))) ⊕ (List ((List UInt8) × ((Int × (List UInt8)) × ((Int × (List UInt8)) × (Int × Bool))))))) := fun (z1 : ((List ((List
  UInt8) × ((Int × (List UInt8)) × ((Int × (List UInt8)) × (Int × Bool))))) × Int)) => (cnd (iLt z1.2 (lLen x)) (bnd (idx x z1.2) (fun (z2 : ((List UInt8) × ((Int × (List UInt8)) ×
  ((Int × (List UInt8)) × (Int × Bool))))) => (bnd (F_l_toRow (z2.1, ((z2.2.1.1, z2.2.1.2), ((z2.2.2.1.1, z2.2.2.1.2), (z2.2.2.2.1, z2.2.2.2.2))))) (fun (z3 : ((List UInt8) × ((Int
  × (List UInt8)) × ((Int × (List UInt8)) × (Int × Bool))))) => (bnd (idx z1.1 z1.2) (fun (z4 : ((List UInt8) × ((Int × (List UInt8)) × ((Int × (List UInt8)) × (Int × Bool))))) =>
  (some (.inl ((lSet z1.1 (nOf z1.2) (z3.1, ((z3.2.1.1, z3.2.1.2), ((z3.2.2.1.1, z3.2.2.1.2), (z3.2.2.2.1, z3.2.2.2.2))))), (iAdd .i64 z1.2 1)))))))))) (some (.inr (.inl z1.1))))
noncomputable def F_l_toRowS (x : (List ((List UInt8) × ((Int × (List UInt8)) × ((Int × (List UInt8)) × (Int × Bool)))))) : (Option (List ((List UInt8) × ((Int × (List UInt8)) ×
  ((Int × (List UInt8)) × (Int × Bool)))))) := (chk (iEq (lLen x) (lLen x)) (chk (mkOk (lLen x) 96) (joinX (loopX (S_l_toRowS_0 x) ((lRep (nOf (lLen x)) ([], ((0, []), ((0, []),
  (0, false))))), 0)) (fun (z1 : (List ((List UInt8) × ((Int × (List UInt8)) × ((Int × (List UInt8)) × (Int × Bool)))))) => (some z1)))))
noncomputable def F_l_toMark (x : (Int × (Int × Int))) : (Option (Int × (Int × Int))) := (some (x.1, (x.2.1, x.2.2)))
noncomputable def S_l_toMarkS_0 (x : (List (Int × (Int × Int)))) : ((List (Int × (Int × Int))) × Int) → Option (((List (Int × (Int × Int))) × Int) ⊕ ((List (Int × (Int × Int))) ⊕
  (List (Int × (Int × Int))))) := fun (z1 : ((List (Int × (Int × Int))) × Int)) => (cnd (iLt z1.2 (lLen x)) (bnd (idx x z1.2) (fun (z2 : (Int × (Int × Int))) => (bnd (F_l_toMark
  (z2.1, (z2.2.1, z2.2.2))) (fun (z3 : (Int × (Int × Int))) => (bnd (idx z1.1 z1.2) (fun (z4 : (Int × (Int × Int))) => (some (.inl ((lSet z1.1 (nOf z1.2) (z3.1, (z3.2.1, z3.2.2))),
  (iAdd .i64 z1.2 1)))))))))) (some (.inr (.inl z1.1))))
noncomputable def F_l_toMarkS (x : (List (Int × (Int × Int)))) : (Option (List (Int × (Int × Int)))) := (chk (iEq (lLen x) (lLen x)) (chk (mkOk (lLen x) 24) (joinX (loopX
  (S_l_toMarkS_0 x) ((lRep (nOf (lLen x)) (0, (0, 0))), 0)) (fun (z1 : (List (Int × (Int × Int)))) => (some z1)))))
noncomputable def F_l_toTab (x : ((List ((List UInt8) × ((Int × (List UInt8)) × ((Int × (List UInt8)) × (Int × Bool))))) × (Int × (List (Int × (Int × Int)))))) : (Option ((List
  ((List UInt8) × ((Int × (List UInt8)) × ((Int × (List UInt8)) × (Int × Bool))))) × (Int × (List (Int × (Int × Int)))))) := (bnd (F_l_toRowS x.1) (fun (z1 : (List ((List UInt8) ×
  ((Int × (List UInt8)) × ((Int × (List UInt8)) × (Int × Bool)))))) => (bnd (F_l_toMarkS x.2.2) (fun (z2 : (List (Int × (Int × Int)))) => (some (z1, (x.2.1, z2)))))))
noncomputable def F_s_l8Copy (x : (Int × (List UInt8))) : (Option (Int × (List UInt8))) := (chk (room (0 + x.2.length) 1) (some (x.1, (lApp [] x.2))))
noncomputable def F_s_l9Copy (x : ((List UInt8) × ((Int × (List UInt8)) × ((Int × (List UInt8)) × (Int × Bool))))) : (Option ((List UInt8) × ((Int × (List UInt8)) × ((Int × (List
  UInt8)) × (Int × Bool))))) := (bnd (F_s_l8Copy (x.2.1.1, x.2.1.2)) (fun (z1 : (Int × (List UInt8))) => (bnd (F_s_l8Copy (x.2.2.1.1, x.2.2.1.2)) (fun (z2 : (Int × (List UInt8)))
  => (some (x.1, ((z1.1, z1.2), ((z2.1, z2.2), (x.2.2.2.1, x.2.2.2.2)))))))))
noncomputable def S_s_RecsOf_0 (x : ((List ((List UInt8) × ((Int × (List UInt8)) × ((Int × (List UInt8)) × (Int × Bool))))) × (Int × (List (Int × (Int × Int)))))) : ((List (Int ×
  (((List UInt8) × ((Int × (List UInt8)) × ((Int × (List UInt8)) × (Int × Bool)))) × ((List UInt8) × (Int × (Int × (Int × Int))))))) × Int) → Option (((List (Int × (((List UInt8) ×
  ((Int × (List UInt8)) × ((Int × (List UInt8)) × (Int × Bool)))) × ((List UInt8) × (Int × (Int × (Int × Int))))))) × Int) ⊕ ((List (Int × (((List UInt8) × ((Int × (List UInt8)) ×
  ((Int × (List UInt8)) × (Int × Bool)))) × ((List UInt8) × (Int × (Int × (Int × Int))))))) ⊕ (List (Int × (((List UInt8) × ((Int × (List UInt8)) × ((Int × (List UInt8)) × (Int ×
  Bool)))) × ((List UInt8) × (Int × (Int × (Int × Int))))))))) := fun (z1 : ((List (Int × (((List UInt8) × ((Int × (List UInt8)) × ((Int × (List UInt8)) × (Int × Bool)))) × ((List
  UInt8) × (Int × (Int × (Int × Int))))))) × Int)) => (cnd (iLt z1.2 (lLen x.1)) (bnd (idx x.1 z1.2) (fun (z2 : ((List UInt8) × ((Int × (List UInt8)) × ((Int × (List UInt8)) × (Int
  × Bool))))) => (bnd (F_s_l9Copy (z2.1, ((z2.2.1.1, z2.2.1.2), ((z2.2.2.1.1, z2.2.2.1.2), (z2.2.2.2.1, z2.2.2.2.2))))) (fun (z3 : ((List UInt8) × ((Int × (List UInt8)) × ((Int ×
  (List UInt8)) × (Int × Bool))))) => (chk (room (z1.1.length + 1) 152) (some (.inl ((lApp z1.1 [(1, ((z3.1, ((z3.2.1.1, z3.2.1.2), ((z3.2.2.1.1, z3.2.2.1.2), (z3.2.2.2.1,
  z3.2.2.2.2)))), ([], (0, (0, (0, 0))))))]), (iAdd .i64 z1.2 1))))))))) (some (.inr (.inl z1.1))))
noncomputable def S_s_RecsOf_1 (x : ((List ((List UInt8) × ((Int × (List UInt8)) × ((Int × (List UInt8)) × (Int × Bool))))) × (Int × (List (Int × (Int × Int)))))) : ((List (Int ×
  (((List UInt8) × ((Int × (List UInt8)) × ((Int × (List UInt8)) × (Int × Bool)))) × ((List UInt8) × (Int × (Int × (Int × Int))))))) × Int) → Option (((List (Int × (((List UInt8) ×
  ((Int × (List UInt8)) × ((Int × (List UInt8)) × (Int × Bool)))) × ((List UInt8) × (Int × (Int × (Int × Int))))))) × Int) ⊕ ((List (Int × (((List UInt8) × ((Int × (List UInt8)) ×
  ((Int × (List UInt8)) × (Int × Bool)))) × ((List UInt8) × (Int × (Int × (Int × Int))))))) ⊕ (List (Int × (((List UInt8) × ((Int × (List UInt8)) × ((Int × (List UInt8)) × (Int ×
  Bool)))) × ((List UInt8) × (Int × (Int × (Int × Int))))))))) := fun (z2 : ((List (Int × (((List UInt8) × ((Int × (List UInt8)) × ((Int × (List UInt8)) × (Int × Bool)))) × ((List
  UInt8) × (Int × (Int × (Int × Int))))))) × Int)) => (cnd (iLt z2.2 (lLen x.2.2)) (bnd (idx x.2.2 z2.2) (fun (z3 : (Int × (Int × Int))) => (bnd (idx x.2.2 z2.2) (fun (z4 : (Int ×
  (Int × Int))) => (bnd (idx x.2.2 z2.2) (fun (z5 : (Int × (Int × Int))) => (chk (room (z2.1.length + 1) 152) (some (.inl ((lApp z2.1 [(4, (([], ((0, []), ((0, []), (0, false)))),
  ([], (0, (z3.1, (z4.2.1, z5.2.2))))))]), (iAdd .i64 z2.2 1))))))))))) (some (.inr (.inl z2.1))))
noncomputable def F_s_RecsOf (x : ((List ((List UInt8) × ((Int × (List UInt8)) × ((Int × (List UInt8)) × (Int × Bool))))) × (Int × (List (Int × (Int × Int)))))) : (Option (List
  (Int × (((List UInt8) × ((Int × (List UInt8)) × ((Int × (List UInt8)) × (Int × Bool)))) × ((List UInt8) × (Int × (Int × (Int × Int)))))))) := (joinX (loopX (S_s_RecsOf_0 x) ([(3,
  (([], ((0, []), ((0, []), (0, false)))), ([], (x.2.1, (0, (0, 0))))))], 0)) (fun (z1 : (List (Int × (((List UInt8) × ((Int × (List UInt8)) × ((Int × (List UInt8)) × (Int ×
  Bool)))) × ((List UInt8) × (Int × (Int × (Int × Int)))))))) => (joinX (loopX (S_s_RecsOf_1 x) (z1, 0)) (fun (z2 : (List (Int × (((List UInt8) × ((Int × (List UInt8)) × ((Int ×
  (List UInt8)) × (Int × Bool)))) × ((List UInt8) × (Int × (Int × (Int × Int)))))))) => (some z2)))))
noncomputable def S_i_joined_0 (x : (List (List UInt8))) : ((List UInt8) × Int) → Option (((List UInt8) × Int) ⊕ ((List UInt8) ⊕ (List UInt8))) := fun (z1 : ((List UInt8) × Int))
  => (cnd (iLt z1.2 (lLen x)) (bnd (idx x z1.2) (fun (z2 : (List UInt8)) => (chk (room (z1.1.length + z2.length) 1) (some (.inl ((lApp z1.1 z2), (iAdd .i64 z1.2 1))))))) (some
  (.inr (.inl z1.1))))
noncomputable def F_i_joined (x : (List (List UInt8))) : (Option (List UInt8)) := (joinX (loopX (S_i_joined_0 x) ([], 0)) (fun (z1 : (List UInt8)) => (some z1)))
noncomputable def F_i_copyCell (x : (Int × (List UInt8))) : (Option (Int × (List UInt8))) := (bnd (F_i_joined [x.2]) (fun (z1 : (List UInt8)) => (some (x.1, z1))))
noncomputable def F_i_copyRow (x : ((List UInt8) × ((Int × (List UInt8)) × ((Int × (List UInt8)) × (Int × Bool))))) : (Option ((List UInt8) × ((Int × (List UInt8)) × ((Int × (List
  UInt8)) × (Int × Bool))))) := (bnd (F_i_copyCell (x.2.1.1, x.2.1.2)) (fun (z1 : (Int × (List UInt8))) => (bnd (F_i_copyCell (x.2.2.1.1, x.2.2.1.2)) (fun (z2 : (Int × (List
  UInt8))) => (some (x.1, ((z1.1, z1.2), ((z2.1, z2.2), (x.2.2.2.1, x.2.2.2.2)))))))))
noncomputable def S_i_RecsOf_0 (x : ((List ((List UInt8) × ((Int × (List UInt8)) × ((Int × (List UInt8)) × (Int × Bool))))) × (Int × (List (Int × (Int × Int)))))) : ((List (Int ×
  (((List UInt8) × ((Int × (List UInt8)) × ((Int × (List UInt8)) × (Int × Bool)))) × ((List UInt8) × (Int × (Int × (Int × Int))))))) × Int) → Option (((List (Int × (((List UInt8) ×
  ((Int × (List UInt8)) × ((Int × (List UInt8)) × (Int × Bool)))) × ((List UInt8) × (Int × (Int × (Int × Int))))))) × Int) ⊕ ((List (Int × (((List UInt8) × ((Int × (List UInt8)) ×
  ((Int × (List UInt8)) × (Int × Bool)))) × ((List UInt8) × (Int × (Int × (Int × Int))))))) ⊕ (List (Int × (((List UInt8) × ((Int × (List UInt8)) × ((Int × (List UInt8)) × (Int ×
  Bool)))) × ((List UInt8) × (Int × (Int × (Int × Int))))))))) := fun (z1 : ((List (Int × (((List UInt8) × ((Int × (List UInt8)) × ((Int × (List UInt8)) × (Int × Bool)))) × ((List
  UInt8) × (Int × (Int × (Int × Int))))))) × Int)) => (cnd (iLt z1.2 (lLen x.1)) (bnd (idx x.1 z1.2) (fun (z2 : ((List UInt8) × ((Int × (List UInt8)) × ((Int × (List UInt8)) × (Int
  × Bool))))) => (bnd (F_i_copyRow (z2.1, ((z2.2.1.1, z2.2.1.2), ((z2.2.2.1.1, z2.2.2.1.2), (z2.2.2.2.1, z2.2.2.2.2))))) (fun (z3 : ((List UInt8) × ((Int × (List UInt8)) × ((Int ×
  (List UInt8)) × (Int × Bool))))) => (chk (room (z1.1.length + 1) 152) (some (.inl ((lApp z1.1 [(1, ((z3.1, ((z3.2.1.1, z3.2.1.2), ((z3.2.2.1.1, z3.2.2.1.2), (z3.2.2.2.1,
  z3.2.2.2.2)))), ([], (0, (0, (0, 0))))))]), (iAdd .i64 z1.2 1))))))))) (some (.inr (.inl z1.1))))
noncomputable def S_i_RecsOf_1 (x : ((List ((List UInt8) × ((Int × (List UInt8)) × ((Int × (List UInt8)) × (Int × Bool))))) × (Int × (List (Int × (Int × Int)))))) : ((List (Int ×
  (((List UInt8) × ((Int × (List UInt8)) × ((Int × (List UInt8)) × (Int × Bool)))) × ((List UInt8) × (Int × (Int × (Int × Int))))))) × Int) → Option (((List (Int × (((List UInt8) ×
  ((Int × (List UInt8)) × ((Int × (List UInt8)) × (Int × Bool)))) × ((List UInt8) × (Int × (Int × (Int × Int))))))) × Int) ⊕ ((List (Int × (((List UInt8) × ((Int × (List UInt8)) ×
  ((Int × (List UInt8)) × (Int × Bool)))) × ((List UInt8) × (Int × (Int × (Int × Int))))))) ⊕ (List (Int × (((List UInt8) × ((Int × (List UInt8)) × ((Int × (List UInt8)) × (Int ×
  Bool)))) × ((List UInt8) × (Int × (Int × (Int × Int))))))))) := fun (z2 : ((List (Int × (((List UInt8) × ((Int × (List UInt8)) × ((Int × (List UInt8)) × (Int × Bool)))) × ((List
  UInt8) × (Int × (Int × (Int × Int))))))) × Int)) => (cnd (iLt z2.2 (lLen x.2.2)) (bnd (idx x.2.2 z2.2) (fun (z3 : (Int × (Int × Int))) => (chk (room (z2.1.length + 1) 152) (some
  (.inl ((lApp z2.1 [(4, (([], ((0, []), ((0, []), (0, false)))), ([], (0, (z3.1, (z3.2.1, z3.2.2))))))]), (iAdd .i64 z2.2 1))))))) (some (.inr (.inl z2.1))))
noncomputable def F_i_RecsOf (x : ((List ((List UInt8) × ((Int × (List UInt8)) × ((Int × (List UInt8)) × (Int × Bool))))) × (Int × (List (Int × (Int × Int)))))) : (Option (List
  (Int × (((List UInt8) × ((Int × (List UInt8)) × ((Int × (List UInt8)) × (Int × Bool)))) × ((List UInt8) × (Int × (Int × (Int × Int)))))))) := (joinX (loopX (S_i_RecsOf_0 x) ([(3,
  (([], ((0, []), ((0, []), (0, false)))), ([], (x.2.1, (0, (0, 0))))))], 0)) (fun (z1 : (List (Int × (((List UInt8) × ((Int × (List UInt8)) × ((Int × (List UInt8)) × (Int ×
  Bool)))) × ((List UInt8) × (Int × (Int × (Int × Int)))))))) => (joinX (loopX (S_i_RecsOf_1 x) (z1, 0)) (fun (z2 : (List (Int × (((List UInt8) × ((Int × (List UInt8)) × ((Int ×
  (List UInt8)) × (Int × Bool)))) × ((List UInt8) × (Int × (Int × (Int × Int)))))))) => (some z2)))))
noncomputable def S_l_eqByteS_0 (x : ((List UInt8) × (List UInt8))) : (Int) → Option ((Int) ⊕ Bool) := fun (z1 : Int) => (cnd (iLt z1 (lLen x.1)) (bnd (idx x.1 z1) (fun (z2 :
  UInt8) => (bnd (idx x.2 z1) (fun (z3 : UInt8) => (cnd (iNe (y2i z2) (y2i z3)) (some (.inr false)) (some (.inl (iAdd .i64 z1 1)))))))) (some (.inr true)))
noncomputable def F_l_eqByteS (x : ((List UInt8) × (List UInt8))) : (Option Bool) := (cnd (iNe (lLen x.1) (lLen x.2)) (some false) (loopX (S_l_eqByteS_0 x) 0))
noncomputable def F_l_eqCell (x : ((Int × (List UInt8)) × (Int × (List UInt8)))) : (Option Bool) := (cnd (iNe x.1.1 x.2.1) (some false) (bnd (F_l_eqByteS (x.1.2, x.2.2)) (fun (z1 :
  Bool) => (cnd (bNot z1) (some false) (some true)))))
noncomputable def F_l_eqRow (x : (((List UInt8) × ((Int × (List UInt8)) × ((Int × (List UInt8)) × (Int × Bool)))) × ((List UInt8) × ((Int × (List UInt8)) × ((Int × (List UInt8)) ×
  (Int × Bool)))))) : (Option Bool) := (cnd (bNot (sEq x.1.1 x.2.1)) (some false) (bnd (F_l_eqCell ((x.1.2.1.1, x.1.2.1.2), (x.2.2.1.1, x.2.2.1.2))) (fun (z1 : Bool) => (cnd (bNot
  z1) (some false) (bnd (F_l_eqCell ((x.1.2.2.1.1, x.1.2.2.1.2), (x.2.2.2.1.1, x.2.2.2.1.2))) (fun (z2 : Bool) => (cnd (bNot z2) (some false) (cnd (iNe x.1.2.2.2.1 x.2.2.2.2.1)
  (some false) (cnd (bNe x.1.2.2.2.2 x.2.2.2.2.2) (some false) (some true))))))))))
noncomputable def F_l_eqRec (x : ((Int × (((List UInt8) × ((Int × (List UInt8)) × ((Int × (List UInt8)) × (Int × Bool)))) × ((List UInt8) × (Int × (Int × (Int × Int)))))) × (Int ×
  (((List UInt8) × ((Int × (List UInt8)) × ((Int × (List UInt8)) × (Int × Bool)))) × ((List UInt8) × (Int × (Int × (Int × Int)))))))) : (Option Bool) := (cnd (iNe x.1.1 x.2.1)
  (some false) (bnd (F_l_eqRow ((x.1.2.1.1, ((x.1.2.1.2.1.1, x.1.2.1.2.1.2), ((x.1.2.1.2.2.1.1, x.1.2.1.2.2.1.2), (x.1.2.1.2.2.2.1, x.1.2.1.2.2.2.2)))), (x.2.2.1.1,
  ((x.2.2.1.2.1.1, x.2.2.1.2.1.2), ((x.2.2.1.2.2.1.1, x.2.2.1.2.2.1.2), (x.2.2.1.2.2.2.1, x.2.2.1.2.2.2.2)))))) (fun (z1 : Bool) => (cnd (bNot z1) (some false) (cnd (bNot (sEq
  x.1.2.2.1 x.2.2.2.1)) (some false) (cnd (iNe x.1.2.2.2.1 x.2.2.2.2.1) (some false) (cnd (iNe x.1.2.2.2.2.1 x.2.2.2.2.2.1) (some false) (cnd (iNe x.1.2.2.2.2.2.1 x.2.2.2.2.2.2.1)
  (some false) (cnd (iNe x.1.2.2.2.2.2.2 x.2.2.2.2.2.2.2) (some false) (some true))))))))))
noncomputable def S_l_eqRecS_0 (x : ((List (Int × (((List UInt8) × ((Int × (List UInt8)) × ((Int × (List UInt8)) × (Int × Bool)))) × ((List UInt8) × (Int × (Int × (Int × Int)))))))
  × (List (Int × (((List UInt8) × ((Int × (List UInt8)) × ((Int × (List UInt8)) × (Int × Bool)))) × ((List UInt8) × (Int × (Int × (Int × Int))))))))) : (Int) → Option ((Int) ⊕
  Bool) := fun (z1 : Int) => (cnd (iLt z1 (lLen x.1)) (bnd (idx x.1 z1) (fun (z2 : (Int × (((List UInt8) × ((Int × (List UInt8)) × ((Int × (List UInt8)) × (Int × Bool)))) × ((List
  UInt8) × (Int × (Int × (Int × Int))))))) => (bnd (idx x.2 z1) (fun (z3 : (Int × (((List UInt8) × ((Int × (List UInt8)) × ((Int × (List UInt8)) × (Int × Bool)))) × ((List UInt8) ×
  (Int × (Int × (Int × Int))))))) => (bnd (F_l_eqRec ((z2.1, ((z2.2.1.1, ((z2.2.1.2.1.1, z2.2.1.2.1.2), ((z2.2.1.2.2.1.1, z2.2.1.2.2.1.2), (z2.2.1.2.2.2.1, z2.2.1.2.2.2.2)))),
  (z2.2.2.1, (z2.2.2.2.1, (z2.2.2.2.2.1, (z2.2.2.2.2.2.1, z2.2.2.2.2.2.2)))))), (z3.1, ((z3.2.1.1, ((z3.2.1.2.1.1, z3.2.1.2.1.2), ((z3.2.1.2.2.1.1, z3.2.1.2.2.1.2),
  (z3.2.1.2.2.2.1, z3.2.1.2.2.2.2)))), (z3.2.2.1, (z3.2.2.2.1, (z3.2.2.2.2.1, (z3.2.2.2.2.2.1, z3.2.2.2.2.2.2)))))))) (fun (z4 : Bool) => (cnd (bNot z4) (some (.inr false)) (some
  (.inl (iAdd .i64 z1 1)))))))))) (some (.inr true)))
noncomputable def F_l_eqRecS (x : ((List (Int × (((List UInt8) × ((Int × (List UInt8)) × ((Int × (List UInt8)) × (Int × Bool)))) × ((List UInt8) × (Int × (Int × (Int × Int))))))) ×
  (List (Int × (((List UInt8) × ((Int × (List UInt8)) × ((Int × (List UInt8)) × (Int × Bool)))) × ((List UInt8) × (Int × (Int × (Int × Int))))))))) : (Option Bool) := (cnd (iNe
  (lLen x.1) (lLen x.2)) (some false) (loopX (S_l_eqRecS_0 x) 0))
noncomputable def S_l_eqRowS_0 (x : ((List ((List UInt8) × ((Int × (List UInt8)) × ((Int × (List UInt8)) × (Int × Bool))))) × (List ((List UInt8) × ((Int × (List UInt8)) × ((Int ×
  (List UInt8)) × (Int × Bool))))))) : (Int) → Option ((Int) ⊕ Bool) := fun (z1 : Int) => (cnd (iLt z1 (lLen x.1)) (bnd (idx x.1 z1) (fun (z2 : ((List UInt8) × ((Int × (List
  UInt8)) × ((Int × (List UInt8)) × (Int × Bool))))) => (bnd (idx x.2 z1) (fun (z3 : ((List UInt8) × ((Int × (List UInt8)) × ((Int × (List UInt8)) × (Int × Bool))))) => (bnd
  (F_l_eqRow ((z2.1, ((z2.2.1.1, z2.2.1.2), ((z2.2.2.1.1, z2.2.2.1.2), (z2.2.2.2.1, z2.2.2.2.2)))), (z3.1, ((z3.2.1.1, z3.2.1.2), ((z3.2.2.1.1, z3.2.2.1.2), (z3.2.2.2.1,
  z3.2.2.2.2)))))) (fun (z4 : Bool) => (cnd (bNot z4) (some (.inr false)) (some (.inl (iAdd .i64 z1 1)))))))))) (some (.inr true)))
noncomputable def F_l_eqRowS (x : ((List ((List UInt8) × ((Int × (List UInt8)) × ((Int × (List UInt8)) × (Int × Bool))))) × (List ((List UInt8) × ((Int × (List UInt8)) × ((Int ×
  (List UInt8)) × (Int × Bool))))))) : (Option Bool) := (cnd (iNe (lLen x.1) (lLen x.2)) (some false) (loopX (S_l_eqRowS_0 x) 0))
noncomputable def F_l_eqMark (x : ((Int × (Int × Int)) × (Int × (Int × Int)))) : (Option Bool) := (cnd (iNe x.1.1 x.2.1) (some false) (cnd (iNe x.1.2.1 x.2.2.1) (some false) (cnd
  (iNe x.1.2.2 x.2.2.2) (some false) (some true))))
noncomputable def S_l_eqMarkS_0 (x : ((List (Int × (Int × Int))) × (List (Int × (Int × Int))))) : (Int) → Option ((Int) ⊕ Bool) := fun (z1 : Int) => (cnd (iLt z1 (lLen x.1)) (bnd
  (idx x.1 z1) (fun (z2 : (Int × (Int × Int))) => (bnd (idx x.2 z1) (fun (z3 : (Int × (Int × Int))) => (bnd (F_l_eqMark ((z2.1, (z2.2.1, z2.2.2)), (z3.1, (z3.2.1, z3.2.2)))) (fun
  (z4 : Bool) => (cnd (bNot z4) (some (.inr false)) (some (.inl (iAdd .i64 z1 1)))))))))) (some (.inr true)))
noncomputable def F_l_eqMarkS (x : ((List (Int × (Int × Int))) × (List (Int × (Int × Int))))) : (Option Bool) := (cnd (iNe (lLen x.1) (lLen x.2)) (some false) (loopX (S_l_eqMarkS_0
  x) 0))
noncomputable def F_l_eqTab (x : (((List ((List UInt8) × ((Int × (List UInt8)) × ((Int × (List UInt8)) × (Int × Bool))))) × (Int × (List (Int × (Int × Int))))) × ((List ((List
  UInt8) × ((Int × (List UInt8)) × ((Int × (List UInt8)) × (Int × Bool))))) × (Int × (List (Int × (Int × Int))))))) : (Option Bool) := (bnd (F_l_eqRowS (x.1.1, x.2.1)) (fun (z1 :
  Bool) => (cnd (bNot z1) (some false) (cnd (iNe x.1.2.1 x.2.2.1) (some false) (bnd (F_l_eqMarkS (x.1.2.2, x.2.2.2)) (fun (z2 : Bool) => (cnd (bNot z2) (some false) (some
  true))))))))
noncomputable def S_l_markText_0 : (Int × (List UInt8)) → Option ((Int × (List UInt8)) ⊕ ((List UInt8) ⊕ (List UInt8))) := fun (z1 : (Int × (List UInt8))) => (cnd (iGt z1.1 0) (chk
  (small [(u8 (iConv .u8 (iAdd .i64 48 (iRem z1.1 10))))] z1.2) (some (.inl ((iQuo .i64 z1.1 10), (lApp [(u8 (iConv .u8 (iAdd .i64 48 (iRem z1.1 10))))] z1.2))))) (some (.inr (.inl
  z1.2))))
noncomputable def F_l_markText (x : Int) : (Option (List UInt8)) := (cnd (iLe x 0) (some [109, 48]) (joinX (loopX (S_l_markText_0) (x, [])) (fun (z1 : (List UInt8)) => (chk (small
  [109] z1) (some (lApp [109] z1))))))
noncomputable def S_l_markByteS_0 : ((List UInt8) × (Int × Int)) → Option (((List UInt8) × (Int × Int)) ⊕ (((List UInt8) × Int) ⊕ (Int × (List UInt8)))) := fun (z1 : ((List UInt8)
  × (Int × Int))) => (cnd (iLt z1.2.2 (lLen z1.1)) (bnd (idx z1.1 z1.2.2) (fun (z2 : UInt8) => (some (.inl ((lSet z1.1 (nOf z1.2.2) (u8 (iConv .u8 z1.2.1))), ((iAdd .i64 z1.2.1 1),
  (iAdd .i64 z1.2.2 1))))))) (some (.inr (.inl (z1.1, z1.2.1)))))
noncomputable def F_l_markByteS (x : ((List UInt8) × Int)) : (Option (Int × (List UInt8))) := (joinX (loopX (S_l_markByteS_0) (x.1, (x.2, 0))) (fun (z1 : ((List UInt8) × Int)) =>
  (chk (nEq z1.1.length x.1.length) (some (z1.2, z1.1)))))
noncomputable def S_l_markRowS_0 : ((List ((List UInt8) × ((Int × (List UInt8)) × ((Int × (List UInt8)) × (Int × Bool))))) × (Int × Int)) → Option (((List ((List UInt8) × ((Int ×
  (List UInt8)) × ((Int × (List UInt8)) × (Int × Bool))))) × (Int × Int)) ⊕ (((List ((List UInt8) × ((Int × (List UInt8)) × ((Int × (List UInt8)) × (Int × Bool))))) × Int) ⊕ (Int ×
  (List ((List UInt8) × ((Int × (List UInt8)) × ((Int × (List UInt8)) × (Int × Bool)))))))) := fun (z1 : ((List ((List UInt8) × ((Int × (List UInt8)) × ((Int × (List UInt8)) × (Int
  × Bool))))) × (Int × Int))) => (cnd (iLt z1.2.2 (lLen z1.1)) (bnd (F_l_markText z1.2.1) (fun (z2 : (List UInt8)) => (bnd (idx z1.1 z1.2.2) (fun (z3 : ((List UInt8) × ((Int ×
  (List UInt8)) × ((Int × (List UInt8)) × (Int × Bool))))) => (bnd (idx (lSet z1.1 (nOf z1.2.2) (z2, ((z3.2.1.1, z3.2.1.2), ((z3.2.2.1.1, z3.2.2.1.2), (z3.2.2.2.1, z3.2.2.2.2)))))
  z1.2.2) (fun (z4 : ((List UInt8) × ((Int × (List UInt8)) × ((Int × (List UInt8)) × (Int × Bool))))) => (bnd (idx (lSet (lSet z1.1 (nOf z1.2.2) (z2, ((z3.2.1.1, z3.2.1.2),
  ((z3.2.2.1.1, z3.2.2.1.2), (z3.2.2.2.1, z3.2.2.2.2))))) (nOf z1.2.2) (z4.1, (((iAdd .i64 z1.2.1 1), z4.2.1.2), ((z4.2.2.1.1, z4.2.2.1.2), (z4.2.2.2.1, z4.2.2.2.2))))) z1.2.2)
  (fun (z5 : ((List UInt8) × ((Int × (List UInt8)) × ((Int × (List UInt8)) × (Int × Bool))))) => (bnd (idx (lSet (lSet z1.1 (nOf z1.2.2) (z2, ((z3.2.1.1, z3.2.1.2), ((z3.2.2.1.1,
  z3.2.2.1.2), (z3.2.2.2.1, z3.2.2.2.2))))) (nOf z1.2.2) (z4.1, (((iAdd .i64 z1.2.1 1), z4.2.1.2), ((z4.2.2.1.1, z4.2.2.1.2), (z4.2.2.2.1, z4.2.2.2.2))))) (Int.ofNat (nOf z1.2.2)))
  (fun (z6 : ((List UInt8) × ((Int × (List UInt8)) × ((Int × (List UInt8)) × (Int × Bool))))) => (chk (nEq z6.2.1.2.length z5.2.1.2.length) (bnd (F_l_markByteS (z5.2.1.2, (iAdd
  .i64 (iAdd .i64 z1.2.1 1) 1))) (fun (z7 : (Int × (List UInt8))) => (chk (nEq z7.2.length z5.2.1.2.length) (bnd (idx (lSet (lSet z1.1 (nOf z1.2.2) (z2, ((z3.2.1.1, z3.2.1.2),
  ((z3.2.2.1.1, z3.2.2.1.2), (z3.2.2.2.1, z3.2.2.2.2))))) (nOf z1.2.2) (z4.1, (((iAdd .i64 z1.2.1 1), z4.2.1.2), ((z4.2.2.1.1, z4.2.2.1.2), (z4.2.2.2.1, z4.2.2.2.2))))) (Int.ofNat
  (nOf z1.2.2))) (fun (z8 : ((List UInt8) × ((Int × (List UInt8)) × ((Int × (List UInt8)) × (Int × Bool))))) => (bnd (idx (lSet (lSet (lSet z1.1 (nOf z1.2.2) (z2, ((z3.2.1.1,
  z3.2.1.2), ((z3.2.2.1.1, z3.2.2.1.2), (z3.2.2.2.1, z3.2.2.2.2))))) (nOf z1.2.2) (z4.1, (((iAdd .i64 z1.2.1 1), z4.2.1.2), ((z4.2.2.1.1, z4.2.2.1.2), (z4.2.2.2.1, z4.2.2.2.2)))))
  (nOf z1.2.2) (z8.1, ((z8.2.1.1, z7.2), z8.2.2))) z1.2.2) (fun (z9 : ((List UInt8) × ((Int × (List UInt8)) × ((Int × (List UInt8)) × (Int × Bool))))) => (bnd (idx (lSet (lSet
  (lSet (lSet z1.1 (nOf z1.2.2) (z2, ((z3.2.1.1, z3.2.1.2), ((z3.2.2.1.1, z3.2.2.1.2), (z3.2.2.2.1, z3.2.2.2.2))))) (nOf z1.2.2) (z4.1, (((iAdd .i64 z1.2.1 1), z4.2.1.2),
  ((z4.2.2.1.1, z4.2.2.1.2), (z4.2.2.2.1, z4.2.2.2.2))))) (nOf z1.2.2) (z8.1, ((z8.2.1.1, z7.2), z8.2.2))) (nOf z1.2.2) (z9.1, ((z9.2.1.1, z9.2.1.2), ((z7.1, z9.2.2.1.2),
  (z9.2.2.2.1, z9.2.2.2.2))))) z1.2.2) (fun (z10 : ((List UInt8) × ((Int × (List UInt8)) × ((Int × (List UInt8)) × (Int × Bool))))) => (bnd (idx (lSet (lSet (lSet (lSet z1.1 (nOf
  z1.2.2) (z2, ((z3.2.1.1, z3.2.1.2), ((z3.2.2.1.1, z3.2.2.1.2), (z3.2.2.2.1, z3.2.2.2.2))))) (nOf z1.2.2) (z4.1, (((iAdd .i64 z1.2.1 1), z4.2.1.2), ((z4.2.2.1.1, z4.2.2.1.2),
  (z4.2.2.2.1, z4.2.2.2.2))))) (nOf z1.2.2) (z8.1, ((z8.2.1.1, z7.2), z8.2.2))) (nOf z1.2.2) (z9.1, ((z9.2.1.1, z9.2.1.2), ((z7.1, z9.2.2.1.2), (z9.2.2.2.1, z9.2.2.2.2)))))
  (Int.ofNat (nOf z1.2.2))) (fun (z11 : ((List UInt8) × ((Int × (List UInt8)) × ((Int × (List UInt8)) × (Int × Bool))))) => (chk (nEq z11.2.2.1.2.length z10.2.2.1.2.length) (bnd
  (F_l_markByteS (z10.2.2.1.2, (iAdd .i64 z7.1 1))) (fun (z12 : (Int × (List UInt8))) => (chk (nEq z12.2.length z10.2.2.1.2.length) (bnd (idx (lSet (lSet (lSet (lSet z1.1 (nOf
  z1.2.2) (z2, ((z3.2.1.1, z3.2.1.2), ((z3.2.2.1.1, z3.2.2.1.2), (z3.2.2.2.1, z3.2.2.2.2))))) (nOf z1.2.2) (z4.1, (((iAdd .i64 z1.2.1 1), z4.2.1.2), ((z4.2.2.1.1, z4.2.2.1.2),
  (z4.2.2.2.1, z4.2.2.2.2))))) (nOf z1.2.2) (z8.1, ((z8.2.1.1, z7.2), z8.2.2))) (nOf z1.2.2) (z9.1, ((z9.2.1.1, z9.2.1.2), ((z7.1, z9.2.2.1.2), (z9.2.2.2.1, z9.2.2.2.2)))))
  (Int.ofNat (nOf z1.2.2))) (fun (z13 : ((List UInt8) × ((Int × (List UInt8)) × ((Int × (List UInt8)) × (Int × Bool))))) => (bnd (idx (lSet (lSet (lSet (lSet (lSet z1.1 (nOf
  z1.2.2) (z2, ((z3.2.1.1, z3.2.1.2), ((z3.2.2.1.1, z3.2.2.1.2), (z3.2.2.2.1, z3.2.2.2.2))))) (nOf z1.2.2) (z4.1, (((iAdd .i64 z1.2.1 1), z4.2.1.2), ((z4.2.2.1.1, z4.2.2.1.2),
  (z4.2.2.2.1, z4.2.2.2.2))))) (nOf z1.2.2) (z8.1, ((z8.2.1.1, z7.2), z8.2.2))) (nOf z1.2.2) (z9.1, ((z9.2.1.1, z9.2.1.2), ((z7.1, z9.2.2.1.2), (z9.2.2.2.1, z9.2.2.2.2))))) (nOf
  z1.2.2) (z13.1, (z13.2.1, ((z13.2.2.1.1, z12.2), z13.2.2.2)))) z1.2.2) (fun (z14 : ((List UInt8) × ((Int × (List UInt8)) × ((Int × (List UInt8)) × (Int × Bool))))) => (bnd (idx
  (lSet (lSet (lSet (lSet (lSet (lSet z1.1 (nOf z1.2.2) (z2, ((z3.2.1.1, z3.2.1.2), ((z3.2.2.1.1, z3.2.2.1.2), (z3.2.2.2.1, z3.2.2.2.2))))) (nOf z1.2.2) (z4.1, (((iAdd .i64 z1.2.1
  1), z4.2.1.2), ((z4.2.2.1.1, z4.2.2.1.2), (z4.2.2.2.1, z4.2.2.2.2))))) (nOf z1.2.2) (z8.1, ((z8.2.1.1, z7.2), z8.2.2))) (nOf z1.2.2) (z9.1, ((z9.2.1.1, z9.2.1.2), ((z7.1,
  z9.2.2.1.2), (z9.2.2.2.1, z9.2.2.2.2))))) (nOf z1.2.2) (z13.1, (z13.2.1, ((z13.2.2.1.1, z12.2), z13.2.2.2)))) (nOf z1.2.2) (z14.1, ((z14.2.1.1, z14.2.1.2), ((z14.2.2.1.1,
  z14.2.2.1.2), (z12.1, z14.2.2.2.2))))) z1.2.2) (fun (z15 : ((List UInt8) × ((Int × (List UInt8)) × ((Int × (List UInt8)) × (Int × Bool))))) => (some (.inl ((lSet (lSet (lSet
  (lSet (lSet (lSet (lSet z1.1 (nOf z1.2.2) (z2, ((z3.2.1.1, z3.2.1.2), ((z3.2.2.1.1, z3.2.2.1.2), (z3.2.2.2.1, z3.2.2.2.2))))) (nOf z1.2.2) (z4.1, (((iAdd .i64 z1.2.1 1),
  z4.2.1.2), ((z4.2.2.1.1, z4.2.2.1.2), (z4.2.2.2.1, z4.2.2.2.2))))) (nOf z1.2.2) (z8.1, ((z8.2.1.1, z7.2), z8.2.2))) (nOf z1.2.2) (z9.1, ((z9.2.1.1, z9.2.1.2), ((z7.1,
  z9.2.2.1.2), (z9.2.2.2.1, z9.2.2.2.2))))) (nOf z1.2.2) (z13.1, (z13.2.1, ((z13.2.2.1.1, z12.2), z13.2.2.2)))) (nOf z1.2.2) (z14.1, ((z14.2.1.1, z14.2.1.2), ((z14.2.2.1.1,
  z14.2.2.1.2), (z12.1, z14.2.2.2.2))))) (nOf z1.2.2) (z15.1, ((z15.2.1.1, z15.2.1.2), ((z15.2.2.1.1, z15.2.2.1.2), (z15.2.2.2.1, (iEq (iRem (iAdd .i64 z12.1 1) 3) 0)))))), ((iAdd
  .i64 (iAdd .i64 z12.1 1) 1), (iAdd .i64 z1.2.2 1))))))))))))))))))))))))))))))))))))) (some (.inr (.inl (z1.1, z1.2.1)))))
noncomputable def F_l_markRowS (x : ((List ((List UInt8) × ((Int × (List UInt8)) × ((Int × (List UInt8)) × (Int × Bool))))) × Int)) : (Option (Int × (List ((List UInt8) × ((Int ×
  (List UInt8)) × ((Int × (List UInt8)) × (Int × Bool))))))) := (joinX (loopX (S_l_markRowS_0) (x.1, (x.2, 0))) (fun (z1 : ((List ((List UInt8) × ((Int × (List UInt8)) × ((Int ×
  (List UInt8)) × (Int × Bool))))) × Int)) => (chk (nEq z1.1.length x.1.length) (some (z1.2, z1.1)))))
noncomputable def S_l_markMarkS_0 : ((List (Int × (Int × Int))) × (Int × Int)) → Option (((List (Int × (Int × Int))) × (Int × Int)) ⊕ (((List (Int × (Int × Int))) × Int) ⊕ (Int ×
  (List (Int × (Int × Int)))))) := fun (z1 : ((List (Int × (Int × Int))) × (Int × Int))) => (cnd (iLt z1.2.2 (lLen z1.1)) (bnd (idx z1.1 z1.2.2) (fun (z2 : (Int × (Int × Int))) =>
  (bnd (idx (lSet z1.1 (nOf z1.2.2) (z1.2.1, (z2.2.1, z2.2.2))) z1.2.2) (fun (z3 : (Int × (Int × Int))) => (bnd (idx (lSet (lSet z1.1 (nOf z1.2.2) (z1.2.1, (z2.2.1, z2.2.2))) (nOf
  z1.2.2) (z3.1, ((iAdd .i64 z1.2.1 1), z3.2.2))) z1.2.2) (fun (z4 : (Int × (Int × Int))) => (some (.inl ((lSet (lSet (lSet z1.1 (nOf z1.2.2) (z1.2.1, (z2.2.1, z2.2.2))) (nOf
  z1.2.2) (z3.1, ((iAdd .i64 z1.2.1 1), z3.2.2))) (nOf z1.2.2) (z4.1, (z4.2.1, (iAdd .i64 (iAdd .i64 z1.2.1 1) 1)))), ((iAdd .i64 (iAdd .i64 (iAdd .i64 z1.2.1 1) 1) 1), (iAdd .i64
  z1.2.2 1))))))))))) (some (.inr (.inl (z1.1, z1.2.1)))))
noncomputable def F_l_markMarkS (x : ((List (Int × (Int × Int))) × Int)) : (Option (Int × (List (Int × (Int × Int))))) := (joinX (loopX (S_l_markMarkS_0) (x.1, (x.2, 0))) (fun (z1
  : ((List (Int × (Int × Int))) × Int)) => (chk (nEq z1.1.length x.1.length) (some (z1.2, z1.1)))))
noncomputable def F_l_markTab (x : (((List ((List UInt8) × ((Int × (List UInt8)) × ((Int × (List UInt8)) × (Int × Bool))))) × (Int × (List (Int × (Int × Int))))) × Int)) : (Option
  (Int × ((List ((List UInt8) × ((Int × (List UInt8)) × ((Int × (List UInt8)) × (Int × Bool))))) × (List (Int × (Int × Int)))))) := (bnd (F_l_markRowS (x.1.1, x.2)) (fun (z1 : (Int
  × (List ((List UInt8) × ((Int × (List UInt8)) × ((Int × (List UInt8)) × (Int × Bool))))))) => (chk (nEq z1.2.length x.1.1.length) (bnd (F_l_markMarkS (x.1.2.2, z1.1)) (fun (z2 :
  (Int × (List (Int × (Int × Int))))) => (chk (nEq z2.2.length x.1.2.2.length) (chk (nEq z1.2.length x.1.1.length) (chk (nEq z2.2.length x.1.2.2.length) (some (z2.1, (z1.2,
  z2.2)))))))))))
noncomputable def S_l_markRecS_0 : ((List (Int × (((List UInt8) × ((Int × (List UInt8)) × ((Int × (List UInt8)) × (Int × Bool)))) × ((List UInt8) × (Int × (Int × (Int × Int)))))))
  × (Int × Int)) → Option (((List (Int × (((List UInt8) × ((Int × (List UInt8)) × ((Int × (List UInt8)) × (Int × Bool)))) × ((List UInt8) × (Int × (Int × (Int × Int))))))) × (Int ×
  Int)) ⊕ (((List (Int × (((List UInt8) × ((Int × (List UInt8)) × ((Int × (List UInt8)) × (Int × Bool)))) × ((List UInt8) × (Int × (Int × (Int × Int))))))) × Int) ⊕ (Int × (List
  (Int × (((List UInt8) × ((Int × (List UInt8)) × ((Int × (List UInt8)) × (Int × Bool)))) × ((List UInt8) × (Int × (Int × (Int × Int)))))))))) := fun (z1 : ((List (Int × (((List
  UInt8) × ((Int × (List UInt8)) × ((Int × (List UInt8)) × (Int × Bool)))) × ((List UInt8) × (Int × (Int × (Int × Int))))))) × (Int × Int))) => (cnd (iLt z1.2.2 (lLen z1.1)) (bnd
  (idx z1.1 z1.2.2) (fun (z2 : (Int × (((List UInt8) × ((Int × (List UInt8)) × ((Int × (List UInt8)) × (Int × Bool)))) × ((List UInt8) × (Int × (Int × (Int × Int))))))) => (bnd
  (F_l_markText (iAdd .i64 z1.2.1 1)) (fun (z3 : (List UInt8)) => (bnd (idx (lSet z1.1 (nOf z1.2.2) (z1.2.1, ((z2.2.1.1, ((z2.2.1.2.1.1, z2.2.1.2.1.2), ((z2.2.1.2.2.1.1,
  z2.2.1.2.2.1.2), (z2.2.1.2.2.2.1, z2.2.1.2.2.2.2)))), (z2.2.2.1, (z2.2.2.2.1, (z2.2.2.2.2.1, (z2.2.2.2.2.2.1, z2.2.2.2.2.2.2))))))) z1.2.2) (fun (z4 : (Int × (((List UInt8) ×
  ((Int × (List UInt8)) × ((Int × (List UInt8)) × (Int × Bool)))) × ((List UInt8) × (Int × (Int × (Int × Int))))))) => (bnd (idx (lSet (lSet z1.1 (nOf z1.2.2) (z1.2.1, ((z2.2.1.1,
  ((z2.2.1.2.1.1, z2.2.1.2.1.2), ((z2.2.1.2.2.1.1, z2.2.1.2.2.1.2), (z2.2.1.2.2.2.1, z2.2.1.2.2.2.2)))), (z2.2.2.1, (z2.2.2.2.1, (z2.2.2.2.2.1, (z2.2.2.2.2.2.1,
  z2.2.2.2.2.2.2))))))) (nOf z1.2.2) (z4.1, ((z3, ((z4.2.1.2.1.1, z4.2.1.2.1.2), ((z4.2.1.2.2.1.1, z4.2.1.2.2.1.2), (z4.2.1.2.2.2.1, z4.2.1.2.2.2.2)))), (z4.2.2.1, (z4.2.2.2.1,
  (z4.2.2.2.2.1, (z4.2.2.2.2.2.1, z4.2.2.2.2.2.2))))))) z1.2.2) (fun (z5 : (Int × (((List UInt8) × ((Int × (List UInt8)) × ((Int × (List UInt8)) × (Int × Bool)))) × ((List UInt8) ×
  (Int × (Int × (Int × Int))))))) => (bnd (idx (lSet (lSet (lSet z1.1 (nOf z1.2.2) (z1.2.1, ((z2.2.1.1, ((z2.2.1.2.1.1, z2.2.1.2.1.2), ((z2.2.1.2.2.1.1, z2.2.1.2.2.1.2),
  (z2.2.1.2.2.2.1, z2.2.1.2.2.2.2)))), (z2.2.2.1, (z2.2.2.2.1, (z2.2.2.2.2.1, (z2.2.2.2.2.2.1, z2.2.2.2.2.2.2))))))) (nOf z1.2.2) (z4.1, ((z3, ((z4.2.1.2.1.1, z4.2.1.2.1.2),
  ((z4.2.1.2.2.1.1, z4.2.1.2.2.1.2), (z4.2.1.2.2.2.1, z4.2.1.2.2.2.2)))), (z4.2.2.1, (z4.2.2.2.1, (z4.2.2.2.2.1, (z4.2.2.2.2.2.1, z4.2.2.2.2.2.2))))))) (nOf z1.2.2) (z5.1,
  ((z5.2.1.1, (((iAdd .i64 (iAdd .i64 z1.2.1 1) 1), z5.2.1.2.1.2), ((z5.2.1.2.2.1.1, z5.2.1.2.2.1.2), (z5.2.1.2.2.2.1, z5.2.1.2.2.2.2)))), (z5.2.2.1, (z5.2.2.2.1, (z5.2.2.2.2.1,
  (z5.2.2.2.2.2.1, z5.2.2.2.2.2.2))))))) z1.2.2) (fun (z6 : (Int × (((List UInt8) × ((Int × (List UInt8)) × ((Int × (List UInt8)) × (Int × Bool)))) × ((List UInt8) × (Int × (Int ×
  (Int × Int))))))) => (bnd (idx (lSet (lSet (lSet z1.1 (nOf z1.2.2) (z1.2.1, ((z2.2.1.1, ((z2.2.1.2.1.1, z2.2.1.2.1.2), ((z2.2.1.2.2.1.1, z2.2.1.2.2.1.2), (z2.2.1.2.2.2.1,
  z2.2.1.2.2.2.2)))), (z2.2.2.1, (z2.2.2.2.1, (z2.2.2.2.2.1, (z2.2.2.2.2.2.1, z2.2.2.2.2.2.2))))))) (nOf z1.2.2) (z4.1, ((z3, ((z4.2.1.2.1.1, z4.2.1.2.1.2), ((z4.2.1.2.2.1.1,
  z4.2.1.2.2.1.2), (z4.2.1.2.2.2.1, z4.2.1.2.2.2.2)))), (z4.2.2.1, (z4.2.2.2.1, (z4.2.2.2.2.1, (z4.2.2.2.2.2.1, z4.2.2.2.2.2.2))))))) (nOf z1.2.2) (z5.1, ((z5.2.1.1, (((iAdd .i64
  (iAdd .i64 z1.2.1 1) 1), z5.2.1.2.1.2), ((z5.2.1.2.2.1.1, z5.2.1.2.2.1.2), (z5.2.1.2.2.2.1, z5.2.1.2.2.2.2)))), (z5.2.2.1, (z5.2.2.2.1, (z5.2.2.2.2.1, (z5.2.2.2.2.2.1,
  z5.2.2.2.2.2.2))))))) (Int.ofNat (nOf z1.2.2))) (fun (z7 : (Int × (((List UInt8) × ((Int × (List UInt8)) × ((Int × (List UInt8)) × (Int × Bool)))) × ((List UInt8) × (Int × (Int ×
  (Int × Int))))))) => (chk (nEq z7.2.1.2.1.2.length z6.2.1.2.1.2.length) (bnd (F_l_markByteS (z6.2.1.2.1.2, (iAdd .i64 (iAdd .i64 (iAdd .i64 z1.2.1 1) 1) 1))) (fun (z8 : (Int ×
  (List UInt8))) => (chk (nEq z8.2.length z6.2.1.2.1.2.length) (bnd (idx (lSet (lSet (lSet z1.1 (nOf z1.2.2) (z1.2.1, ((z2.2.1.1, ((z2.2.1.2.1.1, z2.2.1.2.1.2), ((z2.2.1.2.2.1.1,
  z2.2.1.2.2.1.2), (z2.2.1.2.2.2.1, z2.2.1.2.2.2.2)))), (z2.2.2.1, (z2.2.2.2.1, (z2.2.2.2.2.1, (z2.2.2.2.2.2.1, z2.2.2.2.2.2.2))))))) (nOf z1.2.2) (z4.1, ((z3, ((z4.2.1.2.1.1,
  z4.2.1.2.1.2), ((z4.2.1.2.2.1.1, z4.2.1.2.2.1.2), (z4.2.1.2.2.2.1, z4.2.1.2.2.2.2)))), (z4.2.2.1, (z4.2.2.2.1, (z4.2.2.2.2.1, (z4.2.2.2.2.2.1, z4.2.2.2.2.2.2))))))) (nOf z1.2.2)
  (z5.1, ((z5.2.1.1, (((iAdd .i64 (iAdd .i64 z1.2.1 1) 1), z5.2.1.2.1.2), ((z5.2.1.2.2.1.1, z5.2.1.2.2.1.2), (z5.2.1.2.2.2.1, z5.2.1.2.2.2.2)))), (z5.2.2.1, (z5.2.2.2.1,
  (z5.2.2.2.2.1, (z5.2.2.2.2.2.1, z5.2.2.2.2.2.2))))))) (Int.ofNat (nOf z1.2.2))) (fun (z9 : (Int × (((List UInt8) × ((Int × (List UInt8)) × ((Int × (List UInt8)) × (Int × Bool))))
  × ((List UInt8) × (Int × (Int × (Int × Int))))))) => (bnd (idx (lSet (lSet (lSet (lSet z1.1 (nOf z1.2.2) (z1.2.1, ((z2.2.1.1, ((z2.2.1.2.1.1, z2.2.1.2.1.2), ((z2.2.1.2.2.1.1,
  z2.2.1.2.2.1.2), (z2.2.1.2.2.2.1, z2.2.1.2.2.2.2)))), (z2.2.2.1, (z2.2.2.2.1, (z2.2.2.2.2.1, (z2.2.2.2.2.2.1, z2.2.2.2.2.2.2))))))) (nOf z1.2.2) (z4.1, ((z3, ((z4.2.1.2.1.1,
  z4.2.1.2.1.2), ((z4.2.1.2.2.1.1, z4.2.1.2.2.1.2), (z4.2.1.2.2.2.1, z4.2.1.2.2.2.2)))), (z4.2.2.1, (z4.2.2.2.1, (z4.2.2.2.2.1, (z4.2.2.2.2.2.1, z4.2.2.2.2.2.2))))))) (nOf z1.2.2)
  (z5.1, ((z5.2.1.1, (((iAdd .i64 (iAdd .i64 z1.2.1 1) 1), z5.2.1.2.1.2), ((z5.2.1.2.2.1.1, z5.2.1.2.2.1.2), (z5.2.1.2.2.2.1, z5.2.1.2.2.2.2)))), (z5.2.2.1, (z5.2.2.2.1,
  (z5.2.2.2.2.1, (z5.2.2.2.2.2.1, z5.2.2.2.2.2.2))))))) (nOf z1.2.2) (z9.1, ((z9.2.1.1, ((z9.2.1.2.1.1, z8.2), z9.2.1.2.2)), z9.2.2))) z1.2.2) (fun (z10 : (Int × (((List UInt8) ×
  ((Int × (List UInt8)) × ((Int × (List UInt8)) × (Int × Bool)))) × ((List UInt8) × (Int × (Int × (Int × Int))))))) => (bnd (idx (lSet (lSet (lSet (lSet (lSet z1.1 (nOf z1.2.2)
  (z1.2.1, ((z2.2.1.1, ((z2.2.1.2.1.1, z2.2.1.2.1.2), ((z2.2.1.2.2.1.1, z2.2.1.2.2.1.2), (z2.2.1.2.2.2.1, z2.2.1.2.2.2.2)))), (z2.2.2.1, (z2.2.2.2.1, (z2.2.2.2.2.1,
  (z2.2.2.2.2.2.1, z2.2.2.2.2.2.2))))))) (nOf z1.2.2) (z4.1, ((z3, ((z4.2.1.2.1.1, z4.2.1.2.1.2), ((z4.2.1.2.2.1.1, z4.2.1.2.2.1.2), (z4.2.1.2.2.2.1, z4.2.1.2.2.2.2)))), (z4.2.2.1,
  (z4.2.2.2.1, (z4.2.2.2.2.1, (z4.2.2.2.2.2.1, z4.2.2.2.2.2.2))))))) (nOf z1.2.2) (z5.1, ((z5.2.1.1, (((iAdd .i64 (iAdd .i64 z1.2.1 1) 1), z5.2.1.2.1.2), ((z5.2.1.2.2.1.1,
  z5.2.1.2.2.1.2), (z5.2.1.2.2.2.1, z5.2.1.2.2.2.2)))), (z5.2.2.1, (z5.2.2.2.1, (z5.2.2.2.2.1, (z5.2.2.2.2.2.1, z5.2.2.2.2.2.2))))))) (nOf z1.2.2) (z9.1, ((z9.2.1.1,
  ((z9.2.1.2.1.1, z8.2), z9.2.1.2.2)), z9.2.2))) (nOf z1.2.2) (z10.1, ((z10.2.1.1, ((z10.2.1.2.1.1, z10.2.1.2.1.2), ((z8.1, z10.2.1.2.2.1.2), (z10.2.1.2.2.2.1, z10.2.1.2.2.2.2)))),
  (z10.2.2.1, (z10.2.2.2.1, (z10.2.2.2.2.1, (z10.2.2.2.2.2.1, z10.2.2.2.2.2.2))))))) z1.2.2) (fun (z11 : (Int × (((List UInt8) × ((Int × (List UInt8)) × ((Int × (List UInt8)) ×
  (Int × Bool)))) × ((List UInt8) × (Int × (Int × (Int × Int))))))) => (bnd (idx (lSet (lSet (lSet (lSet (lSet z1.1 (nOf z1.2.2) (z1.2.1, ((z2.2.1.1, ((z2.2.1.2.1.1, z2.2.1.2.1.2),
  ((z2.2.1.2.2.1.1, z2.2.1.2.2.1.2), (z2.2.1.2.2.2.1, z2.2.1.2.2.2.2)))), (z2.2.2.1, (z2.2.2.2.1, (z2.2.2.2.2.1, (z2.2.2.2.2.2.1, z2.2.2.2.2.2.2))))))) (nOf z1.2.2) (z4.1, ((z3,
  ((z4.2.1.2.1.1, z4.2.1.2.1.2), ((z4.2.1.2.2.1.1, z4.2.1.2.2.1.2), (z4.2.1.2.2.2.1, z4.2.1.2.2.2.2)))), (z4.2.2.1, (z4.2.2.2.1, (z4.2.2.2.2.1, (z4.2.2.2.2.2.1,
  z4.2.2.2.2.2.2))))))) (nOf z1.2.2) (z5.1, ((z5.2.1.1, (((iAdd .i64 (iAdd .i64 z1.2.1 1) 1), z5.2.1.2.1.2), ((z5.2.1.2.2.1.1, z5.2.1.2.2.1.2), (z5.2.1.2.2.2.1, z5.2.1.2.2.2.2)))),
  (z5.2.2.1, (z5.2.2.2.1, (z5.2.2.2.2.1, (z5.2.2.2.2.2.1, z5.2.2.2.2.2.2))))))) (nOf z1.2.2) (z9.1, ((z9.2.1.1, ((z9.2.1.2.1.1, z8.2), z9.2.1.2.2)), z9.2.2))) (nOf z1.2.2) (z10.1,
  ((z10.2.1.1, ((z10.2.1.2.1.1, z10.2.1.2.1.2), ((z8.1, z10.2.1.2.2.1.2), (z10.2.1.2.2.2.1, z10.2.1.2.2.2.2)))), (z10.2.2.1, (z10.2.2.2.1, (z10.2.2.2.2.1, (z10.2.2.2.2.2.1,
  z10.2.2.2.2.2.2))))))) (Int.ofNat (nOf z1.2.2))) (fun (z12 : (Int × (((List UInt8) × ((Int × (List UInt8)) × ((Int × (List UInt8)) × (Int × Bool)))) × ((List UInt8) × (Int × (Int
  × (Int × Int))))))) => (chk (nEq z12.2.1.2.2.1.2.length z11.2.1.2.2.1.2.length) (bnd (F_l_markByteS (z11.2.1.2.2.1.2, (iAdd .i64 z8.1 1))) (fun (z13 : (Int × (List UInt8))) =>
  (chk (nEq z13.2.length z11.2.1.2.2.1.2.length) (bnd (idx (lSet (lSet (lSet (lSet (lSet z1.1 (nOf z1.2.2) (z1.2.1, ((z2.2.1.1, ((z2.2.1.2.1.1, z2.2.1.2.1.2), ((z2.2.1.2.2.1.1,
  z2.2.1.2.2.1.2), (z2.2.1.2.2.2.1, z2.2.1.2.2.2.2)))), (z2.2.2.1, (z2.2.2.2.1, (z2.2.2.2.2.1, (z2.2.2.2.2.2.1, z2.2.2.2.2.2.2))))))) (nOf z1.2.2) (z4.1, ((z3, ((z4.2.1.2.1.1,
  z4.2.1.2.1.2), ((z4.2.1.2.2.1.1, z4.2.1.2.2.1.2), (z4.2.1.2.2.2.1, z4.2.1.2.2.2.2)))), (z4.2.2.1, (z4.2.2.2.1, (z4.2.2.2.2.1, (z4.2.2.2.2.2.1, z4.2.2.2.2.2.2))))))) (nOf z1.2.2)
  (z5.1, ((z5.2.1.1, (((iAdd .i64 (iAdd .i64 z1.2.1 1) 1), z5.2.1.2.1.2), ((z5.2.1.2.2.1.1, z5.2.1.2.2.1.2), (z5.2.1.2.2.2.1, z5.2.1.2.2.2.2)))), (z5.2.2.1, (z5.2.2.2.1,
  (z5.2.2.2.2.1, (z5.2.2.2.2.2.1, z5.2.2.2.2.2.2))))))) (nOf z1.2.2) (z9.1, ((z9.2.1.1, ((z9.2.1.2.1.1, z8.2), z9.2.1.2.2)), z9.2.2))) (nOf z1.2.2) (z10.1, ((z10.2.1.1,
  ((z10.2.1.2.1.1, z10.2.1.2.1.2), ((z8.1, z10.2.1.2.2.1.2), (z10.2.1.2.2.2.1, z10.2.1.2.2.2.2)))), (z10.2.2.1, (z10.2.2.2.1, (z10.2.2.2.2.1, (z10.2.2.2.2.2.1,
  z10.2.2.2.2.2.2))))))) (Int.ofNat (nOf z1.2.2))) (fun (z14 : (Int × (((List UInt8) × ((Int × (List UInt8)) × ((Int × (List UInt8)) × (Int × Bool)))) × ((List UInt8) × (Int × (Int
  × (Int × Int))))))) => (bnd (idx (lSet (lSet (lSet (lSet (lSet (lSet z1.1 (nOf z1.2.2) (z1.2.1, ((z2.2.1.1, ((z2.2.1.2.1.1, z2.2.1.2.1.2), ((z2.2.1.2.2.1.1, z2.2.1.2.2.1.2),
  (z2.2.1.2.2.2.1, z2.2.1.2.2.2.2)))), (z2.2.2.1, (z2.2.2.2.1, (z2.2.2.2.2.1, (z2.2.2.2.2.2.1, z2.2.2.2.2.2.2))))))) (nOf z1.2.2) (z4.1, ((z3, ((z4.2.1.2.1.1, z4.2.1.2.1.2),
  ((z4.2.1.2.2.1.1, z4.2.1.2.2.1.2), (z4.2.1.2.2.2.1, z4.2.1.2.2.2.2)))), (z4.2.2.1, (z4.2.2.2.1, (z4.2.2.2.2.1, (z4.2.2.2.2.2.1, z4.2.2.2.2.2.2))))))) (nOf z1.2.2) (z5.1,
  ((z5.2.1.1, (((iAdd .i64 (iAdd .i64 z1.2.1 1) 1), z5.2.1.2.1.2), ((z5.2.1.2.2.1.1, z5.2.1.2.2.1.2), (z5.2.1.2.2.2.1, z5.2.1.2.2.2.2)))), (z5.2.2.1, (z5.2.2.2.1, (z5.2.2.2.2.1,
  (z5.2.2.2.2.2.1, z5.2.2.2.2.2.2))))))) (nOf z1.2.2) (z9.1, ((z9.2.1.1, ((z9.2.1.2.1.1, z8.2), z9.2.1.2.2)), z9.2.2))) (nOf z1.2.2) (z10.1, ((z10.2.1.1, ((z10.2.1.2.1.1,
  z10.2.1.2.1.2), ((z8.1, z10.2.1.2.2.1.2), (z10.2.1.2.2.2.1, z10.2.1.2.2.2.2)))), (z10.2.2.1, (z10.2.2.2.1, (z10.2.2.2.2.1, (z10.2.2.2.2.2.1, z10.2.2.2.2.2.2))))))) (nOf z1.2.2)
  (z14.1, ((z14.2.1.1, (z14.2.1.2.1, ((z14.2.1.2.2.1.1, z13.2), z14.2.1.2.2.2))), z14.2.2))) z1.2.2) (fun (z15 : (Int × (((List UInt8) × ((Int × (List UInt8)) × ((Int × (List
  UInt8)) × (Int × Bool)))) × ((List UInt8) × (Int × (Int × (Int × Int))))))) => (bnd (idx (lSet (lSet (lSet (lSet (lSet (lSet (lSet z1.1 (nOf z1.2.2) (z1.2.1, ((z2.2.1.1,
  ((z2.2.1.2.1.1, z2.2.1.2.1.2), ((z2.2.1.2.2.1.1, z2.2.1.2.2.1.2), (z2.2.1.2.2.2.1, z2.2.1.2.2.2.2)))), (z2.2.2.1, (z2.2.2.2.1, (z2.2.2.2.2.1, (z2.2.2.2.2.2.1,
  z2.2.2.2.2.2.2))))))) (nOf z1.2.2) (z4.1, ((z3, ((z4.2.1.2.1.1, z4.2.1.2.1.2), ((z4.2.1.2.2.1.1, z4.2.1.2.2.1.2), (z4.2.1.2.2.2.1, z4.2.1.2.2.2.2)))), (z4.2.2.1, (z4.2.2.2.1,
  (z4.2.2.2.2.1, (z4.2.2.2.2.2.1, z4.2.2.2.2.2.2))))))) (nOf z1.2.2) (z5.1, ((z5.2.1.1, (((iAdd .i64 (iAdd .i64 z1.2.1 1) 1), z5.2.1.2.1.2), ((z5.2.1.2.2.1.1, z5.2.1.2.2.1.2),
  (z5.2.1.2.2.2.1, z5.2.1.2.2.2.2)))), (z5.2.2.1, (z5.2.2.2.1, (z5.2.2.2.2.1, (z5.2.2.2.2.2.1, z5.2.2.2.2.2.2))))))) (nOf z1.2.2) (z9.1, ((z9.2.1.1, ((z9.2.1.2.1.1, z8.2),
  z9.2.1.2.2)), z9.2.2))) (nOf z1.2.2) (z10.1, ((z10.2.1.1, ((z10.2.1.2.1.1, z10.2.1.2.1.2), ((z8.1, z10.2.1.2.2.1.2), (z10.2.1.2.2.2.1, z10.2.1.2.2.2.2)))), (z10.2.2.1,
  (z10.2.2.2.1, (z10.2.2.2.2.1, (z10.2.2.2.2.2.1, z10.2.2.2.2.2.2))))))) (nOf z1.2.2) (z14.1, ((z14.2.1.1, (z14.2.1.2.1, ((z14.2.1.2.2.1.1, z13.2), z14.2.1.2.2.2))), z14.2.2)))
  (nOf z1.2.2) (z15.1, ((z15.2.1.1, ((z15.2.1.2.1.1, z15.2.1.2.1.2), ((z15.2.1.2.2.1.1, z15.2.1.2.2.1.2), (z13.1, z15.2.1.2.2.2.2)))), (z15.2.2.1, (z15.2.2.2.1, (z15.2.2.2.2.1,
  (z15.2.2.2.2.2.1, z15.2.2.2.2.2.2))))))) z1.2.2) (fun (z16 : (Int × (((List UInt8) × ((Int × (List UInt8)) × ((Int × (List UInt8)) × (Int × Bool)))) × ((List UInt8) × (Int × (Int
  × (Int × Int))))))) => (bnd (F_l_markText (iAdd .i64 (iAdd .i64 z13.1 1) 1)) (fun (z17 : (List UInt8)) => (bnd (idx (lSet (lSet (lSet (lSet (lSet (lSet (lSet (lSet z1.1 (nOf
  z1.2.2) (z1.2.1, ((z2.2.1.1, ((z2.2.1.2.1.1, z2.2.1.2.1.2), ((z2.2.1.2.2.1.1, z2.2.1.2.2.1.2), (z2.2.1.2.2.2.1, z2.2.1.2.2.2.2)))), (z2.2.2.1, (z2.2.2.2.1, (z2.2.2.2.2.1,
  (z2.2.2.2.2.2.1, z2.2.2.2.2.2.2))))))) (nOf z1.2.2) (z4.1, ((z3, ((z4.2.1.2.1.1, z4.2.1.2.1.2), ((z4.2.1.2.2.1.1, z4.2.1.2.2.1.2), (z4.2.1.2.2.2.1, z4.2.1.2.2.2.2)))), (z4.2.2.1,
  (z4.2.2.2.1, (z4.2.2.2.2.1, (z4.2.2.2.2.2.1, z4.2.2.2.2.2.2))))))) (nOf z1.2.2) (z5.1, ((z5.2.1.1, (((iAdd .i64 (iAdd .i64 z1.2.1 1) 1), z5.2.1.2.1.2), ((z5.2.1.2.2.1.1,
  z5.2.1.2.2.1.2), (z5.2.1.2.2.2.1, z5.2.1.2.2.2.2)))), (z5.2.2.1, (z5.2.2.2.1, (z5.2.2.2.2.1, (z5.2.2.2.2.2.1, z5.2.2.2.2.2.2))))))) (nOf z1.2.2) (z9.1, ((z9.2.1.1,
  ((z9.2.1.2.1.1, z8.2), z9.2.1.2.2)), z9.2.2))) (nOf z1.2.2) (z10.1, ((z10.2.1.1, ((z10.2.1.2.1.1, z10.2.1.2.1.2), ((z8.1, z10.2.1.2.2.1.2), (z10.2.1.2.2.2.1, z10.2.1.2.2.2.2)))),
  (z10.2.2.1, (z10.2.2.2.1, (z10.2.2.2.2.1, (z10.2.2.2.2.2.1, z10.2.2.2.2.2.2))))))) (nOf z1.2.2) (z14.1, ((z14.2.1.1, (z14.2.1.2.1, ((z14.2.1.2.2.1.1, z13.2), z14.2.1.2.2.2))),
  z14.2.2))) (nOf z1.2.2) (z15.1, ((z15.2.1.1, ((z15.2.1.2.1.1, z15.2.1.2.1.2), ((z15.2.1.2.2.1.1, z15.2.1.2.2.1.2), (z13.1, z15.2.1.2.2.2.2)))), (z15.2.2.1, (z15.2.2.2.1,
  (z15.2.2.2.2.1, (z15.2.2.2.2.2.1, z15.2.2.2.2.2.2))))))) (nOf z1.2.2) (z16.1, ((z16.2.1.1, ((z16.2.1.2.1.1, z16.2.1.2.1.2), ((z16.2.1.2.2.1.1, z16.2.1.2.2.1.2), (z16.2.1.2.2.2.1,
  (iEq (iRem (iAdd .i64 z13.1 1) 3) 0))))), (z16.2.2.1, (z16.2.2.2.1, (z16.2.2.2.2.1, (z16.2.2.2.2.2.1, z16.2.2.2.2.2.2))))))) z1.2.2) (fun (z18 : (Int × (((List UInt8) × ((Int ×
  (List UInt8)) × ((Int × (List UInt8)) × (Int × Bool)))) × ((List UInt8) × (Int × (Int × (Int × Int))))))) => (bnd (idx (lSet (lSet (lSet (lSet (lSet (lSet (lSet (lSet (lSet z1.1
  (nOf z1.2.2) (z1.2.1, ((z2.2.1.1, ((z2.2.1.2.1.1, z2.2.1.2.1.2), ((z2.2.1.2.2.1.1, z2.2.1.2.2.1.2), (z2.2.1.2.2.2.1, z2.2.1.2.2.2.2)))), (z2.2.2.1, (z2.2.2.2.1, (z2.2.2.2.2.1,
  (z2.2.2.2.2.2.1, z2.2.2.2.2.2.2))))))) (nOf z1.2.2) (z4.1, ((z3, ((z4.2.1.2.1.1, z4.2.1.2.1.2), ((z4.2.1.2.2.1.1, z4.2.1.2.2.1.2), (z4.2.1.2.2.2.1, z4.2.1.2.2.2.2)))), (z4.2.2.1,
  (z4.2.2.2.1, (z4.2.2.2.2.1, (z4.2.2.2.2.2.1, z4.2.2.2.2.2.2))))))) (nOf z1.2.2) (z5.1, ((z5.2.1.1, (((iAdd .i64 (iAdd .i64 z1.2.1 1) 1), z5.2.1.2.1.2), ((z5.2.1.2.2.1.1,
  z5.2.1.2.2.1.2), (z5.2.1.2.2.2.1, z5.2.1.2.2.2.2)))), (z5.2.2.1, (z5.2.2.2.1, (z5.2.2.2.2.1, (z5.2.2.2.2.2.1, z5.2.2.2.2.2.2))))))) (nOf z1.2.2) (z9.1, ((z9.2.1.1,
  ((z9.2.1.2.1.1, z8.2), z9.2.1.2.2)), z9.2.2))) (nOf z1.2.2) (z10.1, ((z10.2.1.1, ((z10.2.1.2.1.1, z10.2.1.2.1.2), ((z8.1, z10.2.1.2.2.1.2), (z10.2.1.2.2.2.1, z10.2.1.2.2.2.2)))),
  (z10.2.2.1, (z10.2.2.2.1, (z10.2.2.2.2.1, (z10.2.2.2.2.2.1, z10.2.2.2.2.2.2))))))) (nOf z1.2.2) (z14.1, ((z14.2.1.1, (z14.2.1.2.1, ((z14.2.1.2.2.1.1, z13.2), z14.2.1.2.2.2))),
  z14.2.2))) (nOf z1.2.2) (z15.1, ((z15.2.1.1, ((z15.2.1.2.1.1, z15.2.1.2.1.2), ((z15.2.1.2.2.1.1, z15.2.1.2.2.1.2), (z13.1, z15.2.1.2.2.2.2)))), (z15.2.2.1, (z15.2.2.2.1,
  (z15.2.2.2.2.1, (z15.2.2.2.2.2.1, z15.2.2.2.2.2.2))))))) (nOf z1.2.2) (z16.1, ((z16.2.1.1, ((z16.2.1.2.1.1, z16.2.1.2.1.2), ((z16.2.1.2.2.1.1, z16.2.1.2.2.1.2), (z16.2.1.2.2.2.1,
  (iEq (iRem (iAdd .i64 z13.1 1) 3) 0))))), (z16.2.2.1, (z16.2.2.2.1, (z16.2.2.2.2.1, (z16.2.2.2.2.2.1, z16.2.2.2.2.2.2))))))) (nOf z1.2.2) (z18.1, ((z18.2.1.1, ((z18.2.1.2.1.1,
  z18.2.1.2.1.2), ((z18.2.1.2.2.1.1, z18.2.1.2.2.1.2), (z18.2.1.2.2.2.1, z18.2.1.2.2.2.2)))), (z17, (z18.2.2.2.1, (z18.2.2.2.2.1, (z18.2.2.2.2.2.1, z18.2.2.2.2.2.2))))))) z1.2.2)
  (fun (z19 : (Int × (((List UInt8) × ((Int × (List UInt8)) × ((Int × (List UInt8)) × (Int × Bool)))) × ((List UInt8) × (Int × (Int × (Int × Int))))))) => (bnd (idx (lSet (lSet
  (lSet (lSet (lSet (lSet (lSet (lSet (lSet (lSet z1.1 (nOf z1.2.2) (z1.2.1, ((z2.2.1.1, ((z2.2.1.2.1.1, z2.2.1.2.1.2), ((z2.2.1.2.2.1.1, z2.2.1.2.2.1.2), (z2.2.1.2.2.2.1,
  z2.2.1.2.2.2.2)))), (z2.2.2.1, (z2.2.2.2.1, (z2.2.2.2.2.1, (z2.2.2.2.2.2.1, z2.2.2.2.2.2.2))))))) (nOf z1.2.2) (z4.1, ((z3, ((z4.2.1.2.1.1, z4.2.1.2.1.2), ((z4.2.1.2.2.1.1,
  z4.2.1.2.2.1.2), (z4.2.1.2.2.2.1, z4.2.1.2.2.2.2)))), (z4.2.2.1, (z4.2.2.2.1, (z4.2.2.2.2.1, (z4.2.2.2.2.2.1, z4.2.2.2.2.2.2))))))) (nOf z1.2.2) (z5.1, ((z5.2.1.1, (((iAdd .i64
  (iAdd .i64 z1.2.1 1) 1), z5.2.1.2.1.2), ((z5.2.1.2.2.1.1, z5.2.1.2.2.1.2), (z5.2.1.2.2.2.1, z5.2.1.2.2.2.2)))), (z5.2.2.1, (z5.2.2.2.1, (z5.2.2.2.2.1, (z5.2.2.2.2.2.1,
  z5.2.2.2.2.2.2))))))) (nOf z1.2.2) (z9.1, ((z9.2.1.1, ((z9.2.1.2.1.1, z8.2), z9.2.1.2.2)), z9.2.2))) (nOf z1.2.2) (z10.1, ((z10.2.1.1, ((z10.2.1.2.1.1, z10.2.1.2.1.2), ((z8.1,
  z10.2.1.2.2.1.2), (z10.2.1.2.2.2.1, z10.2.1.2.2.2.2)))), (z10.2.2.1, (z10.2.2.2.1, (z10.2.2.2.2.1, (z10.2.2.2.2.2.1, z10.2.2.2.2.2.2))))))) (nOf z1.2.2) (z14.1, ((z14.2.1.1,
  (z14.2.1.2.1, ((z14.2.1.2.2.1.1, z13.2), z14.2.1.2.2.2))), z14.2.2))) (nOf z1.2.2) (z15.1, ((z15.2.1.1, ((z15.2.1.2.1.1, z15.2.1.2.1.2), ((z15.2.1.2.2.1.1, z15.2.1.2.2.1.2),
  (z13.1, z15.2.1.2.2.2.2)))), (z15.2.2.1, (z15.2.2.2.1, (z15.2.2.2.2.1, (z15.2.2.2.2.2.1, z15.2.2.2.2.2.2))))))) (nOf z1.2.2) (z16.1, ((z16.2.1.1, ((z16.2.1.2.1.1, z16.2.1.2.1.2),
  ((z16.2.1.2.2.1.1, z16.2.1.2.2.1.2), (z16.2.1.2.2.2.1, (iEq (iRem (iAdd .i64 z13.1 1) 3) 0))))), (z16.2.2.1, (z16.2.2.2.1, (z16.2.2.2.2.1, (z16.2.2.2.2.2.1,
  z16.2.2.2.2.2.2))))))) (nOf z1.2.2) (z18.1, ((z18.2.1.1, ((z18.2.1.2.1.1, z18.2.1.2.1.2), ((z18.2.1.2.2.1.1, z18.2.1.2.2.1.2), (z18.2.1.2.2.2.1, z18.2.1.2.2.2.2)))), (z17,
  (z18.2.2.2.1, (z18.2.2.2.2.1, (z18.2.2.2.2.2.1, z18.2.2.2.2.2.2))))))) (nOf z1.2.2) (z19.1, ((z19.2.1.1, ((z19.2.1.2.1.1, z19.2.1.2.1.2), ((z19.2.1.2.2.1.1, z19.2.1.2.2.1.2),
  (z19.2.1.2.2.2.1, z19.2.1.2.2.2.2)))), (z19.2.2.1, ((iAdd .i64 (iAdd .i64 (iAdd .i64 z13.1 1) 1) 1), (z19.2.2.2.2.1, (z19.2.2.2.2.2.1, z19.2.2.2.2.2.2))))))) z1.2.2) (fun (z20 :
  (Int × (((List UInt8) × ((Int × (List UInt8)) × ((Int × (List UInt8)) × (Int × Bool)))) × ((List UInt8) × (Int × (Int × (Int × Int))))))) => (bnd (idx (lSet (lSet (lSet (lSet
  (lSet (lSet (lSet (lSet (lSet (lSet (lSet z1.1 (nOf z1.2.2) (z1.2.1, ((z2.2.1.1, ((z2.2.1.2.1.1, z2.2.1.2.1.2), ((z2.2.1.2.2.1.1, z2.2.1.2.2.1.2), (z2.2.1.2.2.2.1,
  z2.2.1.2.2.2.2)))), (z2.2.2.1, (z2.2.2.2.1, (z2.2.2.2.2.1, (z2.2.2.2.2.2.1, z2.2.2.2.2.2.2))))))) (nOf z1.2.2) (z4.1, ((z3, ((z4.2.1.2.1.1, z4.2.1.2.1.2), ((z4.2.1.2.2.1.1,
  z4.2.1.2.2.1.2), (z4.2.1.2.2.2.1, z4.2.1.2.2.2.2)))), (z4.2.2.1, (z4.2.2.2.1, (z4.2.2.2.2.1, (z4.2.2.2.2.2.1, z4.2.2.2.2.2.2))))))) (nOf z1.2.2) (z5.1, ((z5.2.1.1, (((iAdd .i64
  (iAdd .i64 z1.2.1 1) 1), z5.2.1.2.1.2), ((z5.2.1.2.2.1.1, z5.2.1.2.2.1.2), (z5.2.1.2.2.2.1, z5.2.1.2.2.2.2)))), (z5.2.2.1, (z5.2.2.2.1, (z5.2.2.2.2.1, (z5.2.2.2.2.2.1,
  z5.2.2.2.2.2.2))))))) (nOf z1.2.2) (z9.1, ((z9.2.1.1, ((z9.2.1.2.1.1, z8.2), z9.2.1.2.2)), z9.2.2))) (nOf z1.2.2) (z10.1, ((z10.2.1.1, ((z10.2.1.2.1.1, z10.2.1.2.1.2), ((z8.1,
  z10.2.1.2.2.1.2), (z10.2.1.2.2.2.1, z10.2.1.2.2.2.2)))), (z10.2.2.1, (z10.2.2.2.1, (z10.2.2.2.2.1, (z10.2.2.2.2.2.1, z10.2.2.2.2.2.2))))))) (nOf z1.2.2) (z14.1, ((z14.2.1.1,
  (z14.2.1.2.1, ((z14.2.1.2.2.1.1, z13.2), z14.2.1.2.2.2))), z14.2.2))) (nOf z1.2.2) (z15.1, ((z15.2.1.1, ((z15.2.1.2.1.1, z15.2.1.2.1.2), ((z15.2.1.2.2.1.1, z15.2.1.2.2.1.2),
  (z13.1, z15.2.1.2.2.2.2)))), (z15.2.2.1, (z15.2.2.2.1, (z15.2.2.2.2.1, (z15.2.2.2.2.2.1, z15.2.2.2.2.2.2))))))) (nOf z1.2.2) (z16.1, ((z16.2.1.1, ((z16.2.1.2.1.1, z16.2.1.2.1.2),
  ((z16.2.1.2.2.1.1, z16.2.1.2.2.1.2), (z16.2.1.2.2.2.1, (iEq (iRem (iAdd .i64 z13.1 1) 3) 0))))), (z16.2.2.1, (z16.2.2.2.1, (z16.2.2.2.2.1, (z16.2.2.2.2.2.1,
  z16.2.2.2.2.2.2))))))) (nOf z1.2.2) (z18.1, ((z18.2.1.1, ((z18.2.1.2.1.1, z18.2.1.2.1.2), ((z18.2.1.2.2.1.1, z18.2.1.2.2.1.2), (z18.2.1.2.2.2.1, z18.2.1.2.2.2.2)))), (z17,
  (z18.2.2.2.1, (z18.2.2.2.2.1, (z18.2.2.2.2.2.1, z18.2.2.2.2.2.2))))))) (nOf z1.2.2) (z19.1, ((z19.2.1.1, ((z19.2.1.2.1.1, z19.2.1.2.1.2), ((z19.2.1.2.2.1.1, z19.2.1.2.2.1.2),
  (z19.2.1.2.2.2.1, z19.2.1.2.2.2.2)))), (z19.2.2.1, ((iAdd .i64 (iAdd .i64 (iAdd .i64 z13.1 1) 1) 1), (z19.2.2.2.2.1, (z19.2.2.2.2.2.1, z19.2.2.2.2.2.2))))))) (nOf z1.2.2) (z20.1,
  ((z20.2.1.1, ((z20.2.1.2.1.1, z20.2.1.2.1.2), ((z20.2.1.2.2.1.1, z20.2.1.2.2.1.2), (z20.2.1.2.2.2.1, z20.2.1.2.2.2.2)))), (z20.2.2.1, (z20.2.2.2.1, ((iAdd .i64 (iAdd .i64 (iAdd
  .i64 (iAdd .i64 z13.1 1) 1) 1) 1), (z20.2.2.2.2.2.1, z20.2.2.2.2.2.2))))))) z1.2.2) (fun (z21 : (Int × (((List UInt8) × ((Int × (List UInt8)) × ((Int × (List UInt8)) × (Int ×
  Bool)))) × ((List UInt8) × (Int × (Int × (Int × Int))))))) => (bnd (idx (lSet (lSet (lSet (lSet (lSet (lSet (lSet (lSet (lSet (lSet (lSet (lSet z1.1 (nOf z1.2.2) (z1.2.1,
  ((z2.2.1.1, ((z2.2.1.2.1.1, z2.2.1.2.1.2), ((z2.2.1.2.2.1.1, z2.2.1.2.2.1.2), (z2.2.1.2.2.2.1, z2.2.1.2.2.2.2)))), (z2.2.2.1, (z2.2.2.2.1, (z2.2.2.2.2.1, (z2.2.2.2.2.2.1,
  z2.2.2.2.2.2.2))))))) (nOf z1.2.2) (z4.1, ((z3, ((z4.2.1.2.1.1, z4.2.1.2.1.2), ((z4.2.1.2.2.1.1, z4.2.1.2.2.1.2), (z4.2.1.2.2.2.1, z4.2.1.2.2.2.2)))), (z4.2.2.1, (z4.2.2.2.1,
  (z4.2.2.2.2.1, (z4.2.2.2.2.2.1, z4.2.2.2.2.2.2))))))) (nOf z1.2.2) (z5.1, ((z5.2.1.1, (((iAdd .i64 (iAdd .i64 z1.2.1 1) 1), z5.2.1.2.1.2), ((z5.2.1.2.2.1.1, z5.2.1.2.2.1.2),
  (z5.2.1.2.2.2.1, z5.2.1.2.2.2.2)))), (z5.2.2.1, (z5.2.2.2.1, (z5.2.2.2.2.1, (z5.2.2.2.2.2.1, z5.2.2.2.2.2.2))))))) (nOf z1.2.2) (z9.1, ((z9.2.1.1, ((z9.2.1.2.1.1, z8.2),
  z9.2.1.2.2)), z9.2.2))) (nOf z1.2.2) (z10.1, ((z10.2.1.1, ((z10.2.1.2.1.1, z10.2.1.2.1.2), ((z8.1, z10.2.1.2.2.1.2), (z10.2.1.2.2.2.1, z10.2.1.2.2.2.2)))), (z10.2.2.1,
  (z10.2.2.2.1, (z10.2.2.2.2.1, (z10.2.2.2.2.2.1, z10.2.2.2.2.2.2))))))) (nOf z1.2.2) (z14.1, ((z14.2.1.1, (z14.2.1.2.1, ((z14.2.1.2.2.1.1, z13.2), z14.2.1.2.2.2))), z14.2.2)))
  (nOf z1.2.2) (z15.1, ((z15.2.1.1, ((z15.2.1.2.1.1, z15.2.1.2.1.2), ((z15.2.1.2.2.1.1, z15.2.1.2.2.1.2), (z13.1, z15.2.1.2.2.2.2)))), (z15.2.2.1, (z15.2.2.2.1, (z15.2.2.2.2.1,
  (z15.2.2.2.2.2.1, z15.2.2.2.2.2.2))))))) (nOf z1.2.2) (z16.1, ((z16.2.1.1, ((z16.2.1.2.1.1, z16.2.1.2.1.2), ((z16.2.1.2.2.1.1, z16.2.1.2.2.1.2), (z16.2.1.2.2.2.1, (iEq (iRem
  (iAdd .i64 z13.1 1) 3) 0))))), (z16.2.2.1, (z16.2.2.2.1, (z16.2.2.2.2.1, (z16.2.2.2.2.2.1, z16.2.2.2.2.2.2))))))) (nOf z1.2.2) (z18.1, ((z18.2.1.1, ((z18.2.1.2.1.1,
  z18.2.1.2.1.2), ((z18.2.1.2.2.1.1, z18.2.1.2.2.1.2), (z18.2.1.2.2.2.1, z18.2.1.2.2.2.2)))), (z17, (z18.2.2.2.1, (z18.2.2.2.2.1, (z18.2.2.2.2.2.1, z18.2.2.2.2.2.2))))))) (nOf
  z1.2.2) (z19.1, ((z19.2.1.1, ((z19.2.1.2.1.1, z19.2.1.2.1.2), ((z19.2.1.2.2.1.1, z19.2.1.2.2.1.2), (z19.2.1.2.2.2.1, z19.2.1.2.2.2.2)))), (z19.2.2.1, ((iAdd .i64 (iAdd .i64 (iAdd
  .i64 z13.1 1) 1) 1), (z19.2.2.2.2.1, (z19.2.2.2.2.2.1, z19.2.2.2.2.2.2))))))) (nOf z1.2.2) (z20.1, ((z20.2.1.1, ((z20.2.1.2.1.1, z20.2.1.2.1.2), ((z20.2.1.2.2.1.1,
  z20.2.1.2.2.1.2), (z20.2.1.2.2.2.1, z20.2.1.2.2.2.2)))), (z20.2.2.1, (z20.2.2.2.1, ((iAdd .i64 (iAdd .i64 (iAdd .i64 (iAdd .i64 z13.1 1) 1) 1) 1), (z20.2.2.2.2.2.1,
  z20.2.2.2.2.2.2))))))) (nOf z1.2.2) (z21.1, ((z21.2.1.1, ((z21.2.1.2.1.1, z21.2.1.2.1.2), ((z21.2.1.2.2.1.1, z21.2.1.2.2.1.2), (z21.2.1.2.2.2.1, z21.2.1.2.2.2.2)))), (z21.2.2.1,
  (z21.2.2.2.1, (z21.2.2.2.2.1, ((iAdd .i64 (iAdd .i64 (iAdd .i64 (iAdd .i64 (iAdd .i64 z13.1 1) 1) 1) 1) 1), z21.2.2.2.2.2.2))))))) z1.2.2) (fun (z22 : (Int × (((List UInt8) ×
  ((Int × (List UInt8)) × ((Int × (List UInt8)) × (Int × Bool)))) × ((List UInt8) × (Int × (Int × (Int × Int))))))) => (some (.inl ((lSet (lSet (lSet (lSet (lSet (lSet (lSet (lSet
  (lSet (lSet (lSet (lSet (lSet z1.1 (nOf z1.2.2) (z1.2.1, ((z2.2.1.1, ((z2.2.1.2.1.1, z2.2.1.2.1.2), ((z2.2.1.2.2.1.1, z2.2.1.2.2.1.2), (z2.2.1.2.2.2.1, z2.2.1.2.2.2.2)))),
  (z2.2.2.1, (z2.2.2.2.1, (z2.2.2.2.2.1, (z2.2.2.2.2.2.1, z2.2.2.2.2.2.2))))))) (nOf z1.2.2) (z4.1, ((z3, ((z4.2.1.2.1.1, z4.2.1.2.1.2), ((z4.2.1.2.2.1.1, z4.2.1.2.2.1.2),
  (z4.2.1.2.2.2.1, z4.2.1.2.2.2.2)))), (z4.2.2.1, (z4.2.2.2.1, (z4.2.2.2.2.1, (z4.2.2.2.2.2.1, z4.2.2.2.2.2.2))))))) (nOf z1.2.2) (z5.1, ((z5.2.1.1, (((iAdd .i64 (iAdd .i64 z1.2.1
  1) 1), z5.2.1.2.1.2), ((z5.2.1.2.2.1.1, z5.2.1.2.2.1.2), (z5.2.1.2.2.2.1, z5.2.1.2.2.2.2)))), (z5.2.2.1, (z5.2.2.2.1, (z5.2.2.2.2.1, (z5.2.2.2.2.2.1, z5.2.2.2.2.2.2))))))) (nOf
  z1.2.2) (z9.1, ((z9.2.1.1, ((z9.2.1.2.1.1, z8.2), z9.2.1.2.2)), z9.2.2))) (nOf z1.2.2) (z10.1, ((z10.2.1.1, ((z10.2.1.2.1.1, z10.2.1.2.1.2), ((z8.1, z10.2.1.2.2.1.2),
  (z10.2.1.2.2.2.1, z10.2.1.2.2.2.2)))), (z10.2.2.1, (z10.2.2.2.1, (z10.2.2.2.2.1, (z10.2.2.2.2.2.1, z10.2.2.2.2.2.2))))))) (nOf z1.2.2) (z14.1, ((z14.2.1.1, (z14.2.1.2.1,
  ((z14.2.1.2.2.1.1, z13.2), z14.2.1.2.2.2))), z14.2.2))) (nOf z1.2.2) (z15.1, ((z15.2.1.1, ((z15.2.1.2.1.1, z15.2.1.2.1.2), ((z15.2.1.2.2.1.1, z15.2.1.2.2.1.2), (z13.1,
  z15.2.1.2.2.2.2)))), (z15.2.2.1, (z15.2.2.2.1, (z15.2.2.2.2.1, (z15.2.2.2.2.2.1, z15.2.2.2.2.2.2))))))) (nOf z1.2.2) (z16.1, ((z16.2.1.1, ((z16.2.1.2.1.1, z16.2.1.2.1.2),
  ((z16.2.1.2.2.1.1, z16.2.1.2.2.1.2), (z16.2.1.2.2.2.1, (iEq (iRem (iAdd .i64 z13.1 1) 3) 0))))), (z16.2.2.1, (z16.2.2.2.1, (z16.2.2.2.2.1, (z16.2.2.2.2.2.1,
  z16.2.2.2.2.2.2))))))) (nOf z1.2.2) (z18.1, ((z18.2.1.1, ((z18.2.1.2.1.1, z18.2.1.2.1.2), ((z18.2.1.2.2.1.1, z18.2.1.2.2.1.2), (z18.2.1.2.2.2.1, z18.2.1.2.2.2.2)))), (z17,
  (z18.2.2.2.1, (z18.2.2.2.2.1, (z18.2.2.2.2.2.1, z18.2.2.2.2.2.2))))))) (nOf z1.2.2) (z19.1, ((z19.2.1.1, ((z19.2.1.2.1.1, z19.2.1.2.1.2), ((z19.2.1.2.2.1.1, z19.2.1.2.2.1.2),
  (z19.2.1.2.2.2.1, z19.2.1.2.2.2.2)))), (z19.2.2.1, ((iAdd .i64 (iAdd .i64 (iAdd .i64 z13.1 1) 1) 1), (z19.2.2.2.2.1, (z19.2.2.2.2.2.1, z19.2.2.2.2.2.2))))))) (nOf z1.2.2) (z20.1,
  ((z20.2.1.1, ((z20.2.1.2.1.1, z20.2.1.2.1.2), ((z20.2.1.2.2.1.1, z20.2.1.2.2.1.2), (z20.2.1.2.2.2.1, z20.2.1.2.2.2.2)))), (z20.2.2.1, (z20.2.2.2.1, ((iAdd .i64 (iAdd .i64 (iAdd
  .i64 (iAdd .i64 z13.1 1) 1) 1) 1), (z20.2.2.2.2.2.1, z20.2.2.2.2.2.2))))))) (nOf z1.2.2) (z21.1, ((z21.2.1.1, ((z21.2.1.2.1.1, z21.2.1.2.1.2), ((z21.2.1.2.2.1.1,
  z21.2.1.2.2.1.2), (z21.2.1.2.2.2.1, z21.2.1.2.2.2.2)))), (z21.2.2.1, (z21.2.2.2.1, (z21.2.2.2.2.1, ((iAdd .i64 (iAdd .i64 (iAdd .i64 (iAdd .i64 (iAdd .i64 z13.1 1) 1) 1) 1) 1),
  z21.2.2.2.2.2.2))))))) (nOf z1.2.2) (z22.1, ((z22.2.1.1, ((z22.2.1.2.1.1, z22.2.1.2.1.2), ((z22.2.1.2.2.1.1, z22.2.1.2.2.1.2), (z22.2.1.2.2.2.1, z22.2.1.2.2.2.2)))), (z22.2.2.1,
  (z22.2.2.2.1, (z22.2.2.2.2.1, (z22.2.2.2.2.2.1, (iAdd .i64 (iAdd .i64 (iAdd .i64 (iAdd .i64 (iAdd .i64 (iAdd .i64 z13.1 1) 1) 1) 1) 1) 1)))))))), ((iAdd .i64 (iAdd .i64 (iAdd
  .i64 (iAdd .i64 (iAdd .i64 (iAdd .i64 (iAdd .i64 z13.1 1) 1) 1) 1) 1) 1) 1), (iAdd .i64 z1.2.2 1))))))))))))))))))))))))))))))))))))))))))))))))))) (some (.inr (.inl (z1.1,
  z1.2.1)))))
noncomputable def F_l_markRecS (x : ((List (Int × (((List UInt8) × ((Int × (List UInt8)) × ((Int × (List UInt8)) × (Int × Bool)))) × ((List UInt8) × (Int × (Int × (Int × Int)))))))
  × Int)) : (Option (Int × (List (Int × (((List UInt8) × ((Int × (List UInt8)) × ((Int × (List UInt8)) × (Int × Bool)))) × ((List UInt8) × (Int × (Int × (Int × Int))))))))) :=
  (joinX (loopX (S_l_markRecS_0) (x.1, (x.2, 0))) (fun (z1 : ((List (Int × (((List UInt8) × ((Int × (List UInt8)) × ((Int × (List UInt8)) × (Int × Bool)))) × ((List UInt8) × (Int ×
  (Int × (Int × Int))))))) × Int)) => (chk (nEq z1.1.length x.1.length) (some (z1.2, z1.1)))))
noncomputable def S_l_heldByteS_0 (x : ((List UInt8) × Int)) : (Int × Int) → Option ((Int × Int) ⊕ (Int ⊕ Int)) := fun (z1 : (Int × Int)) => (cnd (iLt z1.2 (lLen x.1)) (bnd (idx
  x.1 z1.2) (fun (z2 : UInt8) => (cnd (iNe (y2i z2) (y2i (u8 (iConv .u8 z1.1)))) (some (.inr (.inr (-1)))) (some (.inl ((iAdd .i64 z1.1 1), (iAdd .i64 z1.2 1))))))) (some (.inr
  (.inl z1.1))))
noncomputable def F_l_heldByteS (x : ((List UInt8) × Int)) : (Option Int) := (joinX (loopX (S_l_heldByteS_0 x) (x.2, 0)) (fun (z1 : Int) => (some z1)))
noncomputable def S_l_heldRecS_0 (x : ((List (Int × (((List UInt8) × ((Int × (List UInt8)) × ((Int × (List UInt8)) × (Int × Bool)))) × ((List UInt8) × (Int × (Int × (Int ×
  Int))))))) × Int)) : (Int × Int) → Option ((Int × Int) ⊕ (Int ⊕ Int)) := fun (z1 : (Int × Int)) => (cnd (iLt z1.2 (lLen x.1)) (bnd (idx x.1 z1.2) (fun (z2 : (Int × (((List UInt8)
  × ((Int × (List UInt8)) × ((Int × (List UInt8)) × (Int × Bool)))) × ((List UInt8) × (Int × (Int × (Int × Int))))))) => (cnd (iNe z2.1 z1.1) (some (.inr (.inr (-1)))) (bnd (idx
  x.1 z1.2) (fun (z3 : (Int × (((List UInt8) × ((Int × (List UInt8)) × ((Int × (List UInt8)) × (Int × Bool)))) × ((List UInt8) × (Int × (Int × (Int × Int))))))) => (bnd
  (F_l_markText (iAdd .i64 z1.1 1)) (fun (z4 : (List UInt8)) => (cnd (bNot (sEq z3.2.1.1 z4)) (some (.inr (.inr (-1)))) (bnd (idx x.1 z1.2) (fun (z5 : (Int × (((List UInt8) × ((Int
  × (List UInt8)) × ((Int × (List UInt8)) × (Int × Bool)))) × ((List UInt8) × (Int × (Int × (Int × Int))))))) => (cnd (iNe z5.2.1.2.1.1 (iAdd .i64 (iAdd .i64 z1.1 1) 1)) (some
  (.inr (.inr (-1)))) (bnd (idx x.1 z1.2) (fun (z6 : (Int × (((List UInt8) × ((Int × (List UInt8)) × ((Int × (List UInt8)) × (Int × Bool)))) × ((List UInt8) × (Int × (Int × (Int ×
  Int))))))) => (bnd (F_l_heldByteS (z6.2.1.2.1.2, (iAdd .i64 (iAdd .i64 (iAdd .i64 z1.1 1) 1) 1))) (fun (z7 : Int) => (cnd (iLt z7 0) (some (.inr (.inr (-1)))) (bnd (idx x.1 z1.2)
  (fun (z8 : (Int × (((List UInt8) × ((Int × (List UInt8)) × ((Int × (List UInt8)) × (Int × Bool)))) × ((List UInt8) × (Int × (Int × (Int × Int))))))) => (cnd (iNe z8.2.1.2.2.1.1
  z7) (some (.inr (.inr (-1)))) (bnd (idx x.1 z1.2) (fun (z9 : (Int × (((List UInt8) × ((Int × (List UInt8)) × ((Int × (List UInt8)) × (Int × Bool)))) × ((List UInt8) × (Int × (Int
  × (Int × Int))))))) => (bnd (F_l_heldByteS (z9.2.1.2.2.1.2, (iAdd .i64 z7 1))) (fun (z10 : Int) => (cnd (iLt z10 0) (some (.inr (.inr (-1)))) (bnd (idx x.1 z1.2) (fun (z11 : (Int
  × (((List UInt8) × ((Int × (List UInt8)) × ((Int × (List UInt8)) × (Int × Bool)))) × ((List UInt8) × (Int × (Int × (Int × Int))))))) => (cnd (iNe z11.2.1.2.2.2.1 z10) (some (.inr
  (.inr (-1)))) (bnd (idx x.1 z1.2) (fun (z12 : (Int × (((List UInt8) × ((Int × (List UInt8)) × ((Int × (List UInt8)) × (Int × Bool)))) × ((List UInt8) × (Int × (Int × (Int ×
  Int))))))) => (cnd (bNe z12.2.1.2.2.2.2 (iEq (iRem (iAdd .i64 z10 1) 3) 0)) (some (.inr (.inr (-1)))) (bnd (idx x.1 z1.2) (fun (z13 : (Int × (((List UInt8) × ((Int × (List
  UInt8)) × ((Int × (List UInt8)) × (Int × Bool)))) × ((List UInt8) × (Int × (Int × (Int × Int))))))) => (bnd (F_l_markText (iAdd .i64 (iAdd .i64 z10 1) 1)) (fun (z14 : (List
  UInt8)) => (cnd (bNot (sEq z13.2.2.1 z14)) (some (.inr (.inr (-1)))) (bnd (idx x.1 z1.2) (fun (z15 : (Int × (((List UInt8) × ((Int × (List UInt8)) × ((Int × (List UInt8)) × (Int
  × Bool)))) × ((List UInt8) × (Int × (Int × (Int × Int))))))) => (cnd (iNe z15.2.2.2.1 (iAdd .i64 (iAdd .i64 (iAdd .i64 z10 1) 1) 1)) (some (.inr (.inr (-1)))) (bnd (idx x.1 z1.2)
  (fun (z16 : (Int × (((List UInt8) × ((Int × (List UInt8)) × ((Int × (List UInt8)) × (Int × Bool)))) × ((List UInt8) × (Int × (Int × (Int × Int))))))) => (cnd (iNe z16.2.2.2.2.1
  (iAdd .i64 (iAdd .i64 (iAdd .i64 (iAdd .i64 z10 1) 1) 1) 1)) (some (.inr (.inr (-1)))) (bnd (idx x.1 z1.2) (fun (z17 : (Int × (((List UInt8) × ((Int × (List UInt8)) × ((Int ×
  (List UInt8)) × (Int × Bool)))) × ((List UInt8) × (Int × (Int × (Int × Int))))))) => (cnd (iNe z17.2.2.2.2.2.1 (iAdd .i64 (iAdd .i64 (iAdd .i64 (iAdd .i64 (iAdd .i64 z10 1) 1) 1)
  1) 1)) (some (.inr (.inr (-1)))) (bnd (idx x.1 z1.2) (fun (z18 : (Int × (((List UInt8) × ((Int × (List UInt8)) × ((Int × (List UInt8)) × (Int × Bool)))) × ((List UInt8) × (Int ×
  (Int × (Int × Int))))))) => (cnd (iNe z18.2.2.2.2.2.2 (iAdd .i64 (iAdd .i64 (iAdd .i64 (iAdd .i64 (iAdd .i64 (iAdd .i64 z10 1) 1) 1) 1) 1) 1)) (some (.inr (.inr (-1)))) (some
  (.inl ((iAdd .i64 (iAdd .i64 (iAdd .i64 (iAdd .i64 (iAdd .i64 (iAdd .i64 (iAdd .i64 z10 1) 1) 1) 1) 1) 1) 1), (iAdd .i64 z1.2 1)))))))))))))))))))))))))))))))))))))))))))))))))))
  (some (.inr (.inl z1.1))))
noncomputable def F_l_heldRecS (x : ((List (Int × (((List UInt8) × ((Int × (List UInt8)) × ((Int × (List UInt8)) × (Int × Bool)))) × ((List UInt8) × (Int × (Int × (Int × Int)))))))
  × Int)) : (Option Int) := (joinX (loopX (S_l_heldRecS_0 x) (x.2, 0)) (fun (z1 : Int) => (some z1)))
noncomputable def F_l_FnExactRecsOf (x : ((List ((List UInt8) × ((Int × (List UInt8)) × ((Int × (List UInt8)) × (Int × Bool))))) × (Int × (List (Int × (Int × Int)))))) : (Option
  Bool) := (bnd (F_l_szTab ((x.1, (x.2.1, x.2.2)), 1048576)) (fun (z1 : Int) => (cnd (iLt z1 0) (some true) (bnd (F_l_toTab (x.1, (x.2.1, x.2.2))) (fun (z2 : ((List ((List UInt8) ×
  ((Int × (List UInt8)) × ((Int × (List UInt8)) × (Int × Bool))))) × (Int × (List (Int × (Int × Int)))))) => (bnd (F_s_RecsOf (z2.1, (z2.2.1, z2.2.2))) (fun (z3 : (List (Int ×
  (((List UInt8) × ((Int × (List UInt8)) × ((Int × (List UInt8)) × (Int × Bool)))) × ((List UInt8) × (Int × (Int × (Int × Int)))))))) => (bnd (F_l_toTab (x.1, (x.2.1, x.2.2))) (fun
  (z4 : ((List ((List UInt8) × ((Int × (List UInt8)) × ((Int × (List UInt8)) × (Int × Bool))))) × (Int × (List (Int × (Int × Int)))))) => (bnd (F_i_RecsOf (z4.1, (z4.2.1, z4.2.2)))
  (fun (z5 : (List (Int × (((List UInt8) × ((Int × (List UInt8)) × ((Int × (List UInt8)) × (Int × Bool)))) × ((List UInt8) × (Int × (Int × (Int × Int)))))))) => (bnd (F_l_eqRecS
  (z5, z3)) (fun (z6 : Bool) => (cnd (bNot z6) (some false) (bnd (F_l_toTab (x.1, (x.2.1, x.2.2))) (fun (z7 : ((List ((List UInt8) × ((Int × (List UInt8)) × ((Int × (List UInt8)) ×
  (Int × Bool))))) × (Int × (List (Int × (Int × Int)))))) => (bnd (F_l_eqTab ((z4.1, (z4.2.1, z4.2.2)), (z7.1, (z7.2.1, z7.2.2)))) (fun (z8 : Bool) => (cnd (bNot z8) (some false)
  (bnd (F_l_markTab ((z4.1, (z4.2.1, z4.2.2)), 1)) (fun (z9 : (Int × ((List ((List UInt8) × ((Int × (List UInt8)) × ((Int × (List UInt8)) × (Int × Bool))))) × (List (Int × (Int ×
  Int)))))) => (chk (nEq z9.2.1.length z4.1.length) (chk (nEq z9.2.2.length z4.2.2.length) (cnd (iLt z9.1 0) (some false) (bnd (F_l_eqRecS (z5, z3)) (fun (z10 : Bool) => (cnd (bNot
  z10) (some false) (bnd (F_l_markRecS (z5, 1)) (fun (z11 : (Int × (List (Int × (((List UInt8) × ((Int × (List UInt8)) × ((Int × (List UInt8)) × (Int × Bool)))) × ((List UInt8) ×
  (Int × (Int × (Int × Int))))))))) => (chk (nEq z11.2.length z5.length) (bnd (F_l_heldRecS (z11.2, 1)) (fun (z12 : Int) => (cnd (iLt z12 0) (some false) (cnd (iNe z12 z11.1) (some
  false) (bnd (F_l_toTab (x.1, (x.2.1, x.2.2))) (fun (z13 : ((List ((List UInt8) × ((Int × (List UInt8)) × ((Int × (List UInt8)) × (Int × Bool))))) × (Int × (List (Int × (Int ×
  Int)))))) => (bnd (F_i_RecsOf (z13.1, (z13.2.1, z13.2.2))) (fun (z14 : (List (Int × (((List UInt8) × ((Int × (List UInt8)) × ((Int × (List UInt8)) × (Int × Bool)))) × ((List
  UInt8) × (Int × (Int × (Int × Int)))))))) => (bnd (F_l_eqRecS (z14, z3)) (fun (z15 : Bool) => (cnd (bNot z15) (some false) (bnd (F_l_heldRecS (z11.2, 1)) (fun (z16 : Int) => (cnd
  (iLt z16 0) (some false) (cnd (iNe z16 z11.1) (some false) (some true))))))))))))))))))))))))))))))))))))))))))))))
end Go.Vs
