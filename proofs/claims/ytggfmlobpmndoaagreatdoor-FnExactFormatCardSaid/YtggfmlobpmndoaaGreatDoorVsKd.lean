/-
  FnExactFormat: whatever the input is, the law answers true and leaves what it reads as it was; the card: the listed tables of unicode/utf8 tied to the text. Condition: none.
-/import Derived.Test.YtggfmlobpmndoaaGreatDoorTie
import Derived.Test.YtggfmlobpmndoaaGreatDoorCards
import Derived.WalkKit
import Derived.ProofKit
import Derived.OpenShut
import Derived.ShutString
import Derived.ChangeOld
import Derived.Below
import Derived.Carry
import Derived.SizedLaws
import Derived.LaidMore
import Derived.Lay
import Derived.SevenTiedAt
import Derived.Stop.Joined
import Derived.Test.YtggfmlobpmndoaaGreatDoorVsKda
import Derived.Test.YtggfmlobpmndoaaGreatDoorVsQh5
import Derived.Test.YtggfmlobpmndoaaGreatDoorVsPhk8
import Derived.Test.YtggfmlobpmndoaaGreatDoorVsW2
import Derived.Test.YtggfmlobpmndoaaGreatDoorVsW5
set_option linter.all false
namespace Go.Proofs.YtggfmlobpmndoaaGreatDoor.fnExactFormat
open Go.ChangeShapes Go.WideShapes Go.ChangeAt Go.RowKit
theorem own:ownKnob Tryz.prog.godebug=none:=by kernel_rfl
theorem dataF:Rows.laid_unicode_utf8_first=Vs.tabD Vs.gFirst:=by kernel_rfl
theorem dataA:(Rows.laid_unicode_utf8_acceptRanges:DataW Unit)=.agg (Vs.pairsD Vs.gAcc):=by kernel_rfl
theorem glb {W:World}(h:laidMetH Tryz.prog Rows.fnExactFormatRow.laid W):∀ b o v,Vs.glbAt b o=some v->b<W.heap.size/\W.cell? ⟨b,o,none⟩=some v:=by
 rw[MakeChecks.laidMetH_plain _ _ _ (by kernel_rfl)] at h
 obtain⟨ps,hv,_⟩:=h
 have h1 := Vs.reads_of (n := "unicode/utf8.first") (d := Rows.laid_unicode_utf8_first) hv (by first | exact List.Mem.head _ | exact List.Mem.tail _ (List.Mem.head _))
 have h2 := Vs.reads_of (n := "unicode/utf8.acceptRanges") (d := Rows.laid_unicode_utf8_acceptRanges) hv (by first | exact List.Mem.head _ | exact List.Mem.tail _ (List.Mem.head _))
 rw[dataF] at h1
 rw[dataA] at h2
 exact Vs.glbAt_two (Vs.tab_cells (g:=0) (t:=228) (by kernel_rfl) (by kernel_rfl) Tryz.underlying228 Tryz.underlying5 (by kernel_rfl) h1)
  (Vs.pair_cells (g:=1) (t:=231) (by kernel_rfl) (by kernel_rfl) Tryz.underlying231 Tryz.underlying230 Tryz.underlying5 Tryz.underlying5 (by kernel_rfl) (by kernel_rfl) rfl rfl (by kernel_rfl) (by kernel_rfl) h2)
theorem walk   (W:World) (hg:∀ b o v,Vs.glbAt b o=some v->b<W.heap.size/\W.cell? ⟨b,o,none⟩=some v) :Calls Tryz.prog 8 #[] W fun e W'=>e=.returned (.bool true)/\Below W.heap.size W W' :=
 Vs.law_lf (av:=[]) (Vs.e_l_FnExactFormat.ok () true (Vs.law_Format)) (vs:=#[]) hg trivial
set_option maxRecDepth 100000 in
theorem lifted (os : Os) (started : os.Started) (H : Type) (enc : TypeId × Value → H) :
    ReturnsInHanded {} Tryz.checked os 8 .any (fun w args => (Rows.fnExactFormatSpec.pre enc Tryz.prog Tryz.f8 Rows.fnExactFormatRow.domain false w args ∧ laidMetH Tryz.prog Rows.fnExactFormatRow.laid w) ∧ sizedMet enc Tryz.prog Tryz.f8 (OpenSpec.ofChange Rows.fnExactFormatSpec) false w args)
      (Rows.fnExactFormatSpec.post enc Tryz.prog Tryz.f8 false true false false) := by
  refine returnsInHanded_of_change_and (C := Tryz.checked) (X := fun w _ => laidMetH Tryz.prog Rows.fnExactFormatRow.laid w) (fun _ _ _ hh h => h.of_heap hh) own started (by kernel_rfl) Tryz.func8
    (ChangeSpec.witness_shaped (enc := enc) (C := Tryz.checked) (os := os) (X := fun w _ => laidMetH Tryz.prog Rows.fnExactFormatRow.laid w) false (World.laidAll Tryz.prog os Rows.fnExactFormatRow.laid) #[] 8 (World.laidAll_os _ _ _)
      (World.shaped_of_ZipB (by kernel_rfl) (by kernel_rfl)) (by kernel_rfl) (by kernel_rfl) (by kernel_rfl)
      (by rw [MakeChecks.laidMetH_plain _ _ _ (by kernel_rfl)]; exact laidMet_laidAll _ (by kernel_rfl) (by kernel_rfl))) ?_
  intro W base args ds gs before hval0 hW hcnd _ hL _
  have hval : ∀ (j : Nat) t v, Tryz.f8.params[j]? = some t → args[j]? = some v → Value.okWide Tryz.prog W .any base t v := hval0
  have hW' := hW
  obtain ⟨p, q, hA0, hV, rfl, hfz, hnd⟩ := hW
  have hA : DataW.TrodAll enc Tryz.prog W 0 (fun _ => true) true Tryz.f8.params.toList args.toList ds p := hA0
  rw [Tryz.params8] at hA hval
  obtain ⟨hargs, rfl, rfl⟩ := trodAll_nil hA
  obtain rfl : args = #[] := by cases args; simp_all
  obtain ⟨rfl, rfl⟩ := trodVars_none hV
  have hg := glb hL
  clear hA0 hval0 hL
  refine (walk   W hg ).mono fun e W' ⟨he, bel⟩ => ?_
  subst he
  exact ⟨_, rfl, _, _, _, [], _, [], hW', trodAll_mk1 (shut_bool Tryz.underlying4 _), trodAll_mk0, rfl, bel.frame _, fun h => by cases h⟩
theorem over:Rows.fnExactFormatRow.holds Tryz.pinned (OpenSpec.ofChange Rows.fnExactFormatSpec) :=
 OpenClaim.holds_of_wide 8 Tryz.f8 rfl rfl rfl rfl rfl rfl rfl ⟨rfl,rfl,rfl,rfl,rfl⟩ rfl rfl rfl rfl rfl (by kernel_rfl) Tryz.func8 fact
  (of_decide_eq_true (by kernel_rfl)) (by unfold Func.isWrapper;first | (rw[if_pos (by decide +kernel)];kernel_rfl) | (rw[if_neg (by decide +kernel)];exact⟨rfl,rfl⟩))
  (fun os started H enc _=>lifted os started H enc)
theorem proved : Rows.FnExactFormatCardSaid :=
  Claim7.holds_tied_plain_at .later [] [.data, .pinned] true (true, "72381b0c755bd788ba9e152a24f7124a8df3de168b8301d56f685b319c14fea2") false over (fun _ h => by cases h) (by kernel_rfl) (fun _ h => by cases h) fnExactFormat_row_tie rfl ⟨rfl, rfl⟩ (by kernel_rfl) rfl
    (fun f fn hf hfn => by
      obtain rfl : f = 8 := Option.some.inj ((show Tryz.prog.funcNamed "loop.example/g00475/laws.FnExactFormat" = some 8 by kernel_rfl).symm.trans hf) |>.symm
      obtain rfl : fn = Tryz.f8 := (Option.some.inj (Tryz.func8.symm.trans hfn)).symm
      exact ⟨by kernel_rfl, fun j t ht => by
        rw [Tryz.params8] at ht
        have hm : t ∈ [] := by simpa using Array.mem_of_getElem? ht
        have hall : ([].all fun u => !Tryz.prog.wantsStandIn u) = true := by kernel_rfl
        exact (show Tryz.prog.wantsStandIn t = false by simpa using List.all_eq_true.1 hall t hm)⟩)
    (by kernel_rfl)
#print axioms proved
end Go.Proofs.YtggfmlobpmndoaaGreatDoor.fnExactFormat
