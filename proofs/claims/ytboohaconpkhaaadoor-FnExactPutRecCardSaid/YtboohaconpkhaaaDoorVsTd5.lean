/-
  FnExactPutRec: whatever the input is, the law answers true and leaves what it reads as it was; the card: the listed tables of unicode/utf8 tied to the text. Condition: none.
-/import Derived.Test.YtboohaconpkhaaaDoorTie
import Derived.Test.YtboohaconpkhaaaDoorCards
import Derived.WalkKit
import Derived.ProofKit
import Derived.OpenShut
import Derived.ShutString
import Derived.ChangeOld
import Derived.Below
import Derived.Carry
import Derived.SizedLaws
import Derived.LaidMore
import Derived.Lay
import Derived.SevenTiedAt
import Derived.Stop.Joined
import Derived.Test.YtboohaconpkhaaaDoorVsTd5a
import Derived.Test.YtboohaconpkhaaaDoorVsQr5
import Derived.Test.YtboohaconpkhaaaDoorVsPrk7
import Derived.Test.YtboohaconpkhaaaDoorVsW2
import Derived.Test.YtboohaconpkhaaaDoorVsW5
set_option linter.all false
namespace Go.Proofs.YtboohaconpkhaaaDoor.fnExactPutRec
open Go.ChangeShapes Go.WideShapes Go.ChangeAt Go.RowKit
set_option linter.unusedVariables false
theorem own : ownKnob Tryd.prog.godebug = none := by kernel_rfl
theorem laidOut : laidOutB Tryd.prog = true := by kernel_rfl
theorem dataF : Rows.laid_unicode_utf8_first = Vs.tabD Vs.gFirst := by kernel_rfl
theorem dataA : (Rows.laid_unicode_utf8_acceptRanges : DataW Unit) = .agg (Vs.pairsD Vs.gAcc) := by kernel_rfl
theorem glb {W : World} (h : laidMetH Tryd.prog Rows.fnExactPutRecRow.laid W) : ∀ b o v, Vs.glbAt b o = some v → b < W.heap.size ∧ W.cell? ⟨b, o, none⟩ = some v := by
 rw [MakeChecks.laidMetH_plain _ _ _ (by kernel_rfl)] at h
 obtain ⟨ps, hv, _⟩ := h
 have h1 := Vs.reads_of (n := "unicode/utf8.first") (d := Rows.laid_unicode_utf8_first) hv (by first | exact List.Mem.head _ | exact List.Mem.tail _ (List.Mem.head _))
 have h2 := Vs.reads_of (n := "unicode/utf8.acceptRanges") (d := Rows.laid_unicode_utf8_acceptRanges) hv (by first | exact List.Mem.head _ | exact List.Mem.tail _ (List.Mem.head _))
 rw [dataF] at h1
 rw [dataA] at h2
 exact Vs.glbAt_two (Vs.tab_cells (g := 0) (t := 126) (by kernel_rfl) (by kernel_rfl) Tryd.underlying126 Tryd.underlying5 (by kernel_rfl) h1)
  (Vs.pair_cells (g := 1) (t := 129) (by kernel_rfl) (by kernel_rfl) Tryd.underlying129 Tryd.underlying128 Tryd.underlying5 Tryd.underlying5 (by kernel_rfl) (by kernel_rfl) rfl rfl (by kernel_rfl) (by kernel_rfl) h2)
theorem walk (x0 : Vs.Ty.den (.I .i64)) (x1 : Vs.Ty.den (.I .i64)) (x2 : Vs.Ty.den (.P (.I .i64) (.P (.P .S (.P (.P (.I .i64) (.L .Y)) (.P (.P (.I .i64) (.L .Y)) (.P (.I .i64) .B)))) (.P .S (.P (.I .i64) (.P (.I .i64) (.P (.I .i64) (.I .i64)))))))) (v0 : Value) (v1 : Value) (v2 : Value) (W : World) (hg : ∀ b o v, Vs.glbAt b o = some v → b < W.heap.size ∧ W.cell? ⟨b, o, none⟩ = some v) (l0 : Vs.ArgLies W (false, Vs.encT (.I .i64) x0) v0) (b0 : Vs.okT (.I .i64) x0) (l1 : Vs.ArgLies W (false, Vs.encT (.I .i64) x1) v1) (b1 : Vs.okT (.I .i64) x1) (l2 : Vs.ArgLies W (true, Vs.encT (.P (.I .i64) (.P (.P .S (.P (.P (.I .i64) (.L .Y)) (.P (.P (.I .i64) (.L .Y)) (.P (.I .i64) .B)))) (.P .S (.P (.I .i64) (.P (.I .i64) (.P (.I .i64) (.I .i64))))))) x2) v2) (b2 : Vs.okT (.P (.I .i64) (.P (.P .S (.P (.P (.I .i64) (.L .Y)) (.P (.P (.I .i64) (.L .Y)) (.P (.I .i64) .B)))) (.P .S (.P (.I .i64) (.P (.I .i64) (.P (.I .i64) (.I .i64))))))) x2) : Calls Tryd.prog 8 #[v0, v1, v2] W fun e W' => e = .returned (.bool true) ∧ Below W.heap.size W W' :=
 Vs.law_lf (av := [(false, Vs.encT (.I .i64) x0), (false, Vs.encT (.I .i64) x1), (true, Vs.encT (.P (.I .i64) (.P (.P .S (.P (.P (.I .i64) (.L .Y)) (.P (.P (.I .i64) (.L .Y)) (.P (.I .i64) .B)))) (.P .S (.P (.I .i64) (.P (.I .i64) (.P (.I .i64) (.I .i64))))))) x2)]) (Vs.e_l_FnExactPutRec.ok (x0, x1, x2) true ((Vs.law_PutRec (x := (x0, x1, x2)) ⟨⟨b2.2.1.1, b2.2.1.2.1.2.1, b2.2.1.2.2.1.2.1⟩, b2.2.2.1⟩))) (vs := #[v0, v1, v2]) hg ⟨l0, l1, l2, trivial⟩
set_option maxRecDepth 100000 in
theorem lifted (os : Os) (started : os.Started) (H : Type) (enc : TypeId × Value → H) :
    ReturnsInHanded {} Tryd.checked os 8 .any (fun w args => (Rows.fnExactPutRecSpec.pre enc Tryd.prog Tryd.f8 Rows.fnExactPutRecRow.domain false w args ∧ laidMetH Tryd.prog Rows.fnExactPutRecRow.laid w) ∧ sizedMet enc Tryd.prog Tryd.f8 (OpenSpec.ofChange Rows.fnExactPutRecSpec) false w args)
      (Rows.fnExactPutRecSpec.post enc Tryd.prog Tryd.f8 false true false false) := by
  refine returnsInHanded_of_change_and (C := Tryd.checked) (X := fun w _ => laidMetH Tryd.prog Rows.fnExactPutRecRow.laid w) (fun _ _ _ hh h => h.of_heap hh) own started (by kernel_rfl) Tryd.func8
    (ChangeSpec.witness_shaped (enc := enc) (C := Tryd.checked) (os := os) (X := fun w _ => laidMetH Tryd.prog Rows.fnExactPutRecRow.laid w) false (World.laidAll Tryd.prog os Rows.fnExactPutRecRow.laid) #[.int .i64 0, .int .i64 0, .agg #[.int .i64 0, .string ⟨#[]⟩, .int .i64 0, .slice none 0 0, .int .i64 0, .slice none 0 0, .int .i64 0, .bool false, .string ⟨#[]⟩, .int .i64 0, .int .i64 0, .int .i64 0, .int .i64 0]] 8 (World.laidAll_os _ _ _)
      (World.shaped_of_ZipB (by kernel_rfl) (by kernel_rfl)) (by kernel_rfl) (by kernel_rfl) (by kernel_rfl)
      (by rw [MakeChecks.laidMetH_plain _ _ _ (by kernel_rfl)]; exact laidMet_laidAll _ (by kernel_rfl) (by kernel_rfl))) ?_
  intro W base args ds gs before hval0 hW hcnd _ hL _
  have hval : ∀ (j : Nat) t v, Tryd.f8.params[j]? = some t → args[j]? = some v → Value.okWide Tryd.prog W .any base t v := hval0
  have hW' := hW
  obtain ⟨p, q, hA0, hV, rfl, hfz, hnd⟩ := hW
  have hA : DataW.TrodAll enc Tryd.prog W 0 (fun _ => true) true Tryd.f8.params.toList args.toList ds p := hA0
  rw [Tryd.params8] at hA hval
  obtain ⟨v0, vs0, d0, ds0, p0, q0, hargs, rfl, rfl, h0, r0⟩ := trodAll_cons hA
  obtain ⟨v1, vs1, d1, ds1, p1, q1, rfl, rfl, rfl, h1, r1⟩ := trodAll_cons r0
  obtain ⟨v2, vs2, d2, ds2, p2, q2, rfl, rfl, rfl, h2, r2⟩ := trodAll_cons r1
  obtain ⟨rfl, rfl, rfl⟩ := trodAll_nil r2
  obtain rfl : args = #[v0, v1, v2] := by cases args; simp_all
  obtain ⟨rfl, rfl⟩ := trodVars_none hV
  obtain ⟨x0, l0, b0⟩ := Vs.lies_fit (n := 12) false (.I .i64) (by kernel_rfl) (by kernel_rfl) (by kernel_rfl) (hval 0 3 v0 rfl rfl) h0
  have t0 : ∀ x ∈ p0, x.block < W.heap.size := fun x hx => hW'.lt x (by simp [hx])
  obtain ⟨x1, l1, b1⟩ := Vs.lies_fit (n := 12) false (.I .i64) (by kernel_rfl) (by kernel_rfl) (by kernel_rfl) (hval 1 3 v1 rfl rfl) h1
  have t1 : ∀ x ∈ p1, x.block < W.heap.size := fun x hx => hW'.lt x (by simp [hx])
  obtain ⟨x2, l2, b2⟩ := Vs.lies_fit (n := 12) true (.P (.I .i64) (.P (.P .S (.P (.P (.I .i64) (.L .Y)) (.P (.P (.I .i64) (.L .Y)) (.P (.I .i64) .B)))) (.P .S (.P (.I .i64) (.P (.I .i64) (.P (.I .i64) (.I .i64))))))) (by kernel_rfl) (by kernel_rfl) (by kernel_rfl) (hval 2 56 v2 rfl rfl) h2
  have t2 : ∀ x ∈ p2, x.block < W.heap.size := fun x hx => hW'.lt x (by simp [hx])
  have hg := glb hL
  clear hA0 hval0 hL
  refine (walk x0 x1 x2 v0 v1 v2 W hg l0 b0 l1 b1 l2 b2).mono fun e W' ⟨he, bel⟩ => ?_
  subst he
  exact ⟨_, rfl, _, _, _, [], _, [], hW', trodAll_mk1 (shut_bool Tryd.underlying4 _), (trodAll_cons_mk (Below.trod laidOut (by kernel_rfl) (of_decide_eq_true (by kernel_rfl)) h0 bel t0) (trodAll_cons_mk (Below.trod laidOut (by kernel_rfl) (of_decide_eq_true (by kernel_rfl)) h1 bel t1) (trodAll_cons_mk (Below.trod laidOut (by kernel_rfl) (of_decide_eq_true (by kernel_rfl)) h2 bel t2) trodAll_mk0))), rfl, bel.frame _, fun h => by cases h⟩
theorem over : Rows.fnExactPutRecRow.holds Tryd.pinned (OpenSpec.ofChange Rows.fnExactPutRecSpec) :=
 OpenClaim.holds_of_wide 8 Tryd.f8 rfl rfl rfl rfl rfl rfl rfl ⟨rfl, rfl, rfl, rfl, rfl⟩ rfl rfl rfl rfl rfl (by kernel_rfl) Tryd.func8 fact
  (of_decide_eq_true (by kernel_rfl)) (by unfold Func.isWrapper; first | (rw [if_pos (by decide +kernel)]; kernel_rfl) | (rw [if_neg (by decide +kernel)]; exact ⟨rfl, rfl⟩))
  (fun os started H enc _ => lifted os started H enc)
theorem proved : Rows.FnExactPutRecCardSaid :=
  Claim7.holds_tied_plain_at .later [] [.data, .pinned] true (true, "d1d85a7ce9e5ff2edc2796f5f38de15e51bc8313820f2922cdf8ce005a29e38d") false over (fun _ h => by cases h) (by kernel_rfl) (fun _ h => by cases h) fnExactPutRec_row_tie rfl ⟨rfl, rfl⟩ (by kernel_rfl) rfl
    (fun f fn hf hfn => by
      obtain rfl : f = 8 := Option.some.inj ((show Tryd.prog.funcNamed "loop.example/g00475/laws.FnExactPutRec" = some 8 by kernel_rfl).symm.trans hf) |>.symm
      obtain rfl : fn = Tryd.f8 := (Option.some.inj (Tryd.func8.symm.trans hfn)).symm
      exact ⟨by kernel_rfl, fun j t ht => by
        rw [Tryd.params8] at ht
        have hm : t ∈ [3, 3, 56] := by simpa using Array.mem_of_getElem? ht
        have hall : ([3, 3, 56].all fun u => !Tryd.prog.wantsStandIn u) = true := by kernel_rfl
        exact (show Tryd.prog.wantsStandIn t = false by simpa using List.all_eq_true.1 hall t hm)⟩)
    (by kernel_rfl)
#print axioms proved
end Go.Proofs.YtboohaconpkhaaaDoor.fnExactPutRec
