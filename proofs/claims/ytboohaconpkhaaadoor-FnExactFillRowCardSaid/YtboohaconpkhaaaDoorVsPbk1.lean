import Derived.Test.YtboohaconpkhaaaDoorProg
import Derived.Test.YtboohaconpkhaaaDoorVsPbk0
set_option linter.all false
namespace Go.Vs
open Go.Proofs
set_option maxRecDepth 100000
set_option linter.unusedVariables false
noncomputable def a_s_l5Put : An := .d
theorem h_s_l5Put (x : Int × (List UInt8) × Int) : fnX (P := Tryd.prog) [.see e_s_PutSign, .see e_s_SignOk, .see e_s_PutEuc, .see e_s_SignByte] [(33, .el .Y), (35, .el .Y), (36,
 .el .Y), (38, .el .Y), (41, .el .Y), (42, .el .Y)] (sOf Tryd.prog Tryd.f102) a_s_l5Put (iOf Tryd.prog Tryd.f102) [(false, .I .i64), (false, .L .Y), (false, .I .i64)] [(false, .L
 .Y), (false, .B)] x = F_s_l5Put x := by kernel_rfl
noncomputable def e_s_l5Put : SEnt Tryd.prog := ⟨102, [(false, .I .i64), (false, .L .Y), (false, .I .i64)], [(false, .L .Y), (false, .B)], F_s_l5Put, runs_see mixed_Pb Tryd.func102
 (by kernel_rfl) h_s_l5Put⟩
noncomputable def a_s_Encode : An := (.sq none .d (.sq none .d (.sq none .d (.sq none .d (.sq (some [.ot 6 .Y]) (.sq none .d (.bl (.lp [.kt 0, .ot 6 .Y, .kt 7, .lt 9 (.I .i64)]
 .d))) .d)))))
theorem h_s_Encode (x : Int × List UInt8) : fnX (P := Tryd.prog) [.see e_s_Signs, .see e_s_l5Cs, .see e_s_l5Put] [(12, .el .Y), (44, .el .Y)] (sOf Tryd.prog Tryd.f58) a_s_Encode
 (iOf Tryd.prog Tryd.f58) [(false, .I .i64), (false, .S)] [(false, .L .Y), (false, .B)] x = F_s_Encode x := by kernel_rfl
noncomputable def e_s_Encode : SEnt Tryd.prog := ⟨58, [(false, .I .i64), (false, .S)], [(false, .L .Y), (false, .B)], F_s_Encode, runs_see mixed_Pb Tryd.func58 (by kernel_rfl)
 h_s_Encode⟩
noncomputable def a_s_CellOf : An := .d
theorem h_s_CellOf (x : Int × List UInt8) : fnX (P := Tryd.prog) [.see e_s_Encode] [] (sOf Tryd.prog Tryd.f11) a_s_CellOf (iOf Tryd.prog Tryd.f11) [(false, .I .i64), (false, .S)]
 [(true, .P (.I .i64) (.L .Y)), (false, .B)] x = F_s_CellOf x := by kernel_rfl
noncomputable def e_s_CellOf : SEnt Tryd.prog := ⟨11, [(false, .I .i64), (false, .S)], [(true, .P (.I .i64) (.L .Y)), (false, .B)], F_s_CellOf, runs_see mixed_Pb Tryd.func11 (by
 kernel_rfl) h_s_CellOf⟩
noncomputable def a_utf8_word : An := .d
theorem h_utf8_word (x : List UInt8) : fnX (P := Tryd.prog) [] [] (sOf Tryd.prog Tryd.f144) a_utf8_word (iOf Tryd.prog Tryd.f144) [(false, .S)] [(false, .I .u64)] x = F_utf8_word x
 := by kernel_rfl
noncomputable def e_utf8_word : SEnt Tryd.prog := ⟨144, [(false, .S)], [(false, .I .u64)], F_utf8_word, runs_see mixed_Pb Tryd.func144 (by kernel_rfl) h_utf8_word⟩
noncomputable def a_utf8_ValidString : An := (.sq none .d (.sq none (.bl (.lp [.lt 0 .S] (.sq none .d (.bl (.sq none .d (.sq (some [.lt 0 .S, .kt 3]) (.sq none .d (.cd (.sq none .d
 (.sq none (.sq none .d (.cd (.sq none .d (.sq none .d (.cd (.sq none .d (.bl (.lp [.lt 0 .S] .d))) .d))) .d)) .d)) .d)) .d)))))) .d))
theorem h_utf8_ValidString (x : List UInt8) : fnX (P := Tryd.prog) [.see e_utf8_word] [] (sOf Tryd.prog Tryd.f131) a_utf8_ValidString (iOf Tryd.prog Tryd.f131) [(false, .S)]
 [(false, .B)] x = F_utf8_ValidString x := by kernel_rfl
noncomputable def e_utf8_ValidString : SEnt Tryd.prog := ⟨131, [(false, .S)], [(false, .B)], F_utf8_ValidString, runs_see mixed_Pb Tryd.func131 (by kernel_rfl) h_utf8_ValidString⟩
def sgAt : Code → List Nat → Code
 | c, [] => c
 | .seq a _, 0 :: l => sgAt a l
 | .seq _ b, _ :: l => sgAt b l
 | .block _ a, _ :: l => sgAt a l
 | .loop a, _ :: l => sgAt a l
 | c, _ => c
def sgOp (c : Code) (i : Nat) : Oper := match c with
 | .region _ ops _ => ops.toList.getD i default
 | _ => default
noncomputable def sgBody : Code := Tryd.f103.body.getD .skip
def sgA : Stm := .reg [⟨(some 2), .rd (.mv (.k (.a (.c (.nl 1))))), none⟩, ⟨(some 3), .rd (.mv (.k (.a (.c (.lf (.bool false)))))), none⟩]
def sgB : Stm := (.seq (.reg [⟨(some 7), .rd (.mv (.t 0)), none⟩, ⟨(some 8), .wr (.call 131 [(.t 7)]), none⟩, ⟨(some 9), .rd (.un .not (.t 8)), none⟩]) (.cond (.t 9) (.seq (.reg [⟨(some 2), .rd (.mv (.k (.a (.c (.nl 1))))), none⟩, ⟨(some 3), .rd (.mv (.k (.a (.c (.lf (.bool false)))))), none⟩]) .ret) .skip))
def sgC : Stm := .reg [⟨(some 10), .wr (.lit 1 0 [.lf (.int .i64 0)] []), none⟩, ⟨(some 4), .rd (.mv (.t 10)), none⟩]
def sgR : Stm := (.seq (.cond (.t 14) .skip (.exit 0)) (.block 1 (.seq (.reg [⟨(some 15), .rd (.ext 2 (.t 13)), none⟩, ⟨(some 6), .rd (.mv (.t 15)), none⟩]) (.reg [⟨(some 16), .rd (.mv (.t 4)), none⟩, ⟨(some 17), .rd (.mv (.t 6)), none⟩, ⟨(some 18), .rd (.conv .i64 (.t 17)), none⟩, ⟨(some 19), .wr (.lit 1 1 [.lf (.int .i64 0)] [(0, (.t 18))]), none⟩, ⟨(some 20), .wr (.app 1 8 [.lf (.int .i64 0)] (.t 16) (.t 19)), none⟩, ⟨(some 4), .rd (.mv (.t 20)), none⟩]))))
def sgE : Stm := (.seq (.reg [⟨(some 21), .rd (.mv (.t 4)), none⟩, ⟨(some 2), .rd (.mv (.t 21)), none⟩, ⟨(some 3), .rd (.mv (.k (.a (.c (.lf (.bool true)))))), none⟩]) .ret)
def sgH : List (Nat × Hn) := [(10, .el (.I .i64)), (19, .el (.I .i64)), (20, .el (.I .i64))]
def sgGet : Option (Exit × XSt) → XSt
 | some (_, X) => X
 | none => empX
noncomputable def sgRun (s : Stm) (X : XSt) : Option (Exit × XSt) := runX (P := Tryd.prog) [.see e_utf8_ValidString] sgH s .d X fun e X' => some (e, X')
noncomputable def sgX1 (x : List UInt8) : XSt := sgGet (sgRun sgA (inX [(false, .S)] x))
noncomputable def sgXb (x : List UInt8) (v : Bool) : XSt := (((sgX1 x).put (some 7) (.a (.c (.s x)))).put (some 8) (.a (.c (.b v)))).put (some 9) (.a (.c (.b (bNot v))))
noncomputable def sgXr (x : List UInt8) (v : Bool) : XSt := (((sgXb x v).know 9 true).put (some 2) (.a (.c (.nl 1)))).put (some 3) (.a (.c (.b false)))
noncomputable def sgX2 (x : List UInt8) (v : Bool) : XSt := (sgXb x v).know 9 false
noncomputable def sgX3 (x : List UInt8) : XSt := sgGet (sgRun sgC (sgX2 x true))
noncomputable def sgXE (x : List UInt8) (ns : List Int) : XSt := sgGet (sgRun sgR (inE (unpackX (sgX3 x) [.kt 0, .ot 4 (.I .i64)] ns)))
noncomputable def sgXf (x : List UInt8) (ns : List Int) : XSt := sgGet (sgRun sgE (sgXE x ns))
theorem sg_body : Tryd.f103.body = some (.seq (sgAt sgBody [0]) (.seq (sgAt sgBody [1, 0]) (.seq (sgAt sgBody [1, 1, 0]) (.seq (.seq (.region 4 #[sgOp (sgAt sgBody [1, 1, 1, 0, 0]) 0, sgOp (sgAt sgBody [1, 1, 1, 0, 0]) 1] false) (.block 0 (.loop (.seq (.region 5 #[sgOp (sgAt sgBody [1, 1, 1, 0, 1, 0, 0, 0]) 0, sgOp (sgAt sgBody [1, 1, 1, 0, 1, 0, 0, 0]) 1] false) (sgAt sgBody [1, 1, 1, 0, 1, 0, 0, 1]))))) (sgAt sgBody [1, 1, 1, 1]))))) := by kernel_rfl
theorem sg_a (x : List UInt8) : sgRun sgA (inX [(false, .S)] x) = some (.normal, sgX1 x) := by kernel_rfl
theorem sg_b (x : List UInt8) : sgRun sgB (sgX1 x) = bnd (F_utf8_ValidString x) fun v => cnd (bNot v) (some (.ret, sgXr x v)) (some (.normal, sgX2 x v)) := by kernel_rfl
theorem sg_c (x : List UInt8) : sgRun sgC (sgX2 x true) = some (.normal, sgX3 x) := by kernel_rfl
theorem sg_r (x : List UInt8) (ns : List Int) (b p r : Nat) : runX (P := Tryd.prog) [.see e_utf8_ValidString] sgH sgR .d (inR (unpackX (sgX3 x) [.kt 0, .ot 4 (.I .i64)] ns) b p r) (roundK (sgX3 x)) = chk (room (ns.length + 1) 8) (some (b, ns ++ [iConv .i64 (r : Int)])) := by kernel_rfl
theorem sg_x (x : List UInt8) (ns : List Int) : sgRun sgR (inE (unpackX (sgX3 x) [.kt 0, .ot 4 (.I .i64)] ns)) = some (.exit 0, sgXE x ns) := by kernel_rfl
theorem sg_e (x : List UInt8) (ns : List Int) : sgRun sgE (sgXE x ns) = some (.ret, sgXf x ns) := by kernel_rfl
theorem sg_p (x : List UInt8) : packN (sgX3 x) (sgX3 x) [.kt 0, .ot 4 (.I .i64)] (fun s => some s) = some ([] : List Int) := by kernel_rfl
theorem sg_n (x : List UInt8) (ns : List Int) : NoIm (concS (unpackX (sgX3 x) [.kt 0, .ot 4 (.I .i64)] ns)).roots := by
 intro r y hy
 have h : ((concS (unpackX (sgX3 x) [.kt 0, .ot 4 (.I .i64)] ns)).roots.all fun e => match e.2 with | .im _ _ => false | .ib _ => false | _ => true) = true := by kernel_rfl
 have := List.all_eq_true.1 h _ (mem_of_get hy)
 cases y with
 | tr sz es => exact .inl ⟨sz, es, rfl⟩
 | bx cs => exact .inr ⟨cs, rfl⟩
 | im sz es => cases this
 | ib cs => cases this
theorem ok_i_Signs (x : List UInt8) (y : List Int × Bool) (hy : F_i_Signs x = some y) : Runs Tryd.prog 103 ((argsD [(false, .S)] x).map mkArg) ⟨argsD [(false, .L (.I .i64)), (false, .B)] y, [], []⟩ := by
 unfold F_i_Signs at hy
 obtain ⟨h1, hy⟩ := chk_some hy
 obtain ⟨v, hF, hy⟩ := bnd_some hy
 have hl := of_decide_eq_true h1
 obtain ⟨hX0, hS0⟩ := inX_ok [(false, .S)] x rfl
 refine runs_of_vw Tryd.func103 sg_body (show trRes Tryd.prog Tryd.f103.results.toList = some (iOf Tryd.prog Tryd.f103) by kernel_rfl) (show 1 ≤ Tryd.f103.ntmps by decide +kernel) ?_
 refine vw_seq (vw_mono (vw_to mixed_Pb (s := sgA) (by kernel_rfl) .d hX0 hS0 (sg_a x)) ?_)
 rintro e S1 ⟨rfl, a1, a2, a3⟩
 have hb := sg_b x
 rw [hF, bnd_s] at hb
 cases v with
 | false =>
  rw [cnd_f] at hy
  have hy : y = ([], false) := (Option.some.inj hy).symm
  subst hy
  refine vw_seq (vw_mono (vw_to mixed_Pb (s := sgB) (by kernel_rfl) .d a1 a3 hb) ?_)
  rintro e S2 ⟨rfl, b1, b2, b3⟩
  exact leaveX_ok b1 b3 (show leaveX [(false, .L (.I .i64)), (false, .B)] (sgXr x false) (iOf Tryd.prog Tryd.f103) = some (([] : List Int), false) by kernel_rfl)
 | true =>
  rw [cnd_t] at hy
  have hy : y = (runesF x.length ⟨x.toArray⟩ 0, true) := (Option.some.inj hy).symm
  subst hy
  refine vw_seq (vw_mono (vw_to mixed_Pb (s := sgB) (by kernel_rfl) .d a1 a3 hb) ?_)
  rintro e S2 ⟨rfl, b1, b2, b3⟩
  refine vw_seq (vw_mono (vw_to mixed_Pb (s := sgC) (by kernel_rfl) .d b1 b3 (sg_c x)) ?_)
  rintro e S3 ⟨rfl, c1, c2, c3⟩
  refine vw_seq (vw_mono (vw_signs mixed_Pb (l := x) (ty := 9) (sr := sgR) (XE := sgXE x) (by decide +kernel) ⟨by kernel_rfl, by kernel_rfl, by kernel_rfl⟩ ⟨by kernel_rfl, by kernel_rfl, by kernel_rfl⟩ ⟨by kernel_rfl, by kernel_rfl, by kernel_rfl⟩ ⟨by kernel_rfl, by kernel_rfl, by kernel_rfl⟩ (by kernel_rfl) (by kernel_rfl) c1 c3 hl (sg_p x) (fun ns => ⟨by kernel_rfl, by kernel_rfl, by kernel_rfl⟩) (sg_n x) (sg_r x) (sg_x x)) ?_)
  rintro e S4 ⟨rfl, d1, d3⟩
  refine vw_mono (vw_to mixed_Pb (s := sgE) (by kernel_rfl) .d d1 d3 (sg_e x _)) ?_
  rintro e S5 ⟨rfl, f1, f2, f3⟩
  exact leaveX_ok f1 f3 (show leaveX [(false, .L (.I .i64)), (false, .B)] (sgXf x (runesF x.length ⟨x.toArray⟩ 0)) (iOf Tryd.prog Tryd.f103) = some (runesF x.length ⟨x.toArray⟩ 0, true) by kernel_rfl)
noncomputable def e_i_Signs : SEnt Tryd.prog := ⟨103, [(false, .S)], [(false, .L (.I .i64)), (false, .B)], F_i_Signs, ok_i_Signs⟩
noncomputable def a_i_within : An := .d
theorem h_i_within (x : Int × Int × Int) : fnX (P := Tryd.prog) [] [] (sOf Tryd.prog Tryd.f62) a_i_within (iOf Tryd.prog Tryd.f62) [(false, .I .i64), (false, .I .i64), (false, .I
 .i64)] [(false, .B)] x = F_i_within x := by kernel_rfl
noncomputable def e_i_within : SEnt Tryd.prog := ⟨62, [(false, .I .i64), (false, .I .i64), (false, .I .i64)], [(false, .B)], F_i_within, runs_see mixed_Pb Tryd.func62 (by
 kernel_rfl) h_i_within⟩
noncomputable def a_i_isSet : An := .d
theorem h_i_isSet (x : Int) : fnX (P := Tryd.prog) [.see e_i_within] [] (sOf Tryd.prog Tryd.f68) a_i_isSet (iOf Tryd.prog Tryd.f68) [(false, .I .i64)] [(false, .B)] x = F_i_isSet x
 := by kernel_rfl
noncomputable def e_i_isSet : SEnt Tryd.prog := ⟨68, [(false, .I .i64)], [(false, .B)], F_i_isSet, runs_see mixed_Pb Tryd.func68 (by kernel_rfl) h_i_isSet⟩
noncomputable def a_i_joined : An := (.sq none .d (.sq none .d (.sq (some [.ot 3 .Y]) (.sq none .d (.bl (.lp [.ot 3 .Y, .kt 7, .kt 8, .lt 9 (.I .i64)] .d))) .d)))
theorem h_i_joined (x : List (List UInt8)) : fnX (P := Tryd.prog) [] [(6, .el .Y), (15, .el .Y)] (sOf Tryd.prog Tryd.f111) a_i_joined (iOf Tryd.prog Tryd.f111) [(false, .L (.L
 .Y))] [(false, .L .Y)] x = F_i_joined x := by kernel_rfl
noncomputable def e_i_joined : SEnt Tryd.prog := ⟨111, [(false, .L (.L .Y))], [(false, .L .Y)], F_i_joined, runs_see mixed_Pb Tryd.func111 (by kernel_rfl) h_i_joined⟩
noncomputable def a_i_SignOk : An := .d
theorem h_i_SignOk (x : Int) : fnX (P := Tryd.prog) [.see e_i_within] [] (sOf Tryd.prog Tryd.f137) a_i_SignOk (iOf Tryd.prog Tryd.f137) [(false, .I .i64)] [(false, .B)] x =
 F_i_SignOk x := by kernel_rfl
noncomputable def e_i_SignOk : SEnt Tryd.prog := ⟨137, [(false, .I .i64)], [(false, .B)], F_i_SignOk, runs_see mixed_Pb Tryd.func137 (by kernel_rfl) h_i_SignOk⟩
noncomputable def a_utf8_appendRuneNonASCII : An := (.sq none .d (.sq none .d (.bl (.sq none .d (.cd .d (.sq (some [.kt 0, .kt 1, .kt 5, .lt 25 .B]) .d .d))))))
theorem h_utf8_appendRuneNonASCII (x : (List UInt8) × Int) : fnG (P := Tryd.prog) [] [(23, .el .Y), (24, .el .Y), (48, .el .Y), (49, .el .Y), (76, .el .Y), (77, .el .Y), (9, .el
 .Y), (10, .el .Y)] (sOf Tryd.prog Tryd.f151) a_utf8_appendRuneNonASCII (iOf Tryd.prog Tryd.f151) [⟨false, false, .L .Y, [.ow], none⟩, ⟨false, false, .I .i32, [.rd], none⟩]
 [(false, .L .Y)] x = F_utf8_appendRuneNonASCII x := by kernel_rfl
noncomputable def e_utf8_appendRuneNonASCII : GEnt Tryd.prog := ⟨151, [⟨false, false, .L .Y, [.ow], none⟩, ⟨false, false, .I .i32, [.rd], none⟩], [(false, .L .Y)],
 F_utf8_appendRuneNonASCII, runs_gen mixed_Pb Tryd.func151 (by kernel_rfl) h_utf8_appendRuneNonASCII⟩
noncomputable def a_utf8_AppendRune : An := .d
theorem h_utf8_AppendRune (x : (List UInt8) × Int) : fnG (P := Tryd.prog) [.gen e_utf8_appendRuneNonASCII] [(11, .el .Y), (12, .el .Y)] (sOf Tryd.prog Tryd.f138) a_utf8_AppendRune
 (iOf Tryd.prog Tryd.f138) [⟨false, false, .L .Y, [.ow], none⟩, ⟨false, false, .I .i32, [.rd], none⟩] [(false, .L .Y)] x = F_utf8_AppendRune x := by kernel_rfl
noncomputable def e_utf8_AppendRune : GEnt Tryd.prog := ⟨138, [⟨false, false, .L .Y, [.ow], none⟩, ⟨false, false, .I .i32, [.rd], none⟩], [(false, .L .Y)], F_utf8_AppendRune,
 runs_gen mixed_Pb Tryd.func138 (by kernel_rfl) h_utf8_AppendRune⟩
noncomputable def a_i_PutSign : An := .d
theorem h_i_PutSign (x : (List UInt8) × Int) : fnX (P := Tryd.prog) [.see e_i_joined, .see e_i_SignOk, .gen e_utf8_AppendRune] [(7, .sb)] (sOf Tryd.prog Tryd.f108) a_i_PutSign (iOf
 Tryd.prog Tryd.f108) [(false, .L .Y), (false, .I .i64)] [(false, .L .Y)] x = F_i_PutSign x := by kernel_rfl
noncomputable def e_i_PutSign : SEnt Tryd.prog := ⟨108, [(false, .L .Y), (false, .I .i64)], [(false, .L .Y)], F_i_PutSign, runs_see mixed_Pb Tryd.func108 (by kernel_rfl)
 h_i_PutSign⟩
noncomputable def a_i_SignPair : An := .d
theorem h_i_SignPair (x : Int) : fnX (P := Tryd.prog) [.see e_i_within] [] (sOf Tryd.prog Tryd.f145) a_i_SignPair (iOf Tryd.prog Tryd.f145) [(false, .I .i64)] [(false, .I .i64),
 (false, .I .i64), (false, .B)] x = F_i_SignPair x := by kernel_rfl
noncomputable def e_i_SignPair : SEnt Tryd.prog := ⟨145, [(false, .I .i64)], [(false, .I .i64), (false, .I .i64), (false, .B)], F_i_SignPair, runs_see mixed_Pb Tryd.func145 (by
 kernel_rfl) h_i_SignPair⟩
end Go.Vs
