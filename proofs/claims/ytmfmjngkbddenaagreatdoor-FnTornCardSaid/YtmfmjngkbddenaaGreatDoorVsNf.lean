/-
  FnTorn: whatever the input is, the law answers true and leaves what it reads as it was; the card: the listed tables of unicode/utf8 tied to the text. Condition: none.
-/
import Derived.Test.YtmfmjngkbddenaaGreatDoorTie
import Derived.Test.YtmfmjngkbddenaaGreatDoorCards
import Derived.ProofKit
import Derived.ShutString
import Derived.ChangeOld
import Derived.Carry
import Derived.SizedLaws
import Derived.Lay
import Derived.SevenTiedAt
import Derived.Stop.Joined
import Derived.Test.YtmfmjngkbddenaaGreatDoorVsNfa
import Derived.Test.YtmfmjngkbddenaaGreatDoorVsQts
import Derived.Test.YtmfmjngkbddenaaGreatDoorVsPtk14
set_option linter.all false
namespace Go.Proofs.YtmfmjngkbddenaaGreatDoor.fnTorn
open Go.ChangeShapes Go.WideShapes Go.ChangeAt Go.RowKit
theorem own:ownKnob Tryz.prog.godebug=none:=by kernel_rfl
theorem laidOut:laidOutB Tryz.prog=true:=by kernel_rfl
theorem dataF:Rows.laid_unicode_utf8_first=Vs.Ycb Vs.Qq:=by kernel_rfl
theorem dataA:(Rows.laid_unicode_utf8_acceptRanges:DataW Unit)=.agg (Vs.Za0 Vs.V0):=by kernel_rfl
theorem glb {W:World}(h:laidMetH Tryz.prog Rows.fnTornRow.laid W):∀b o v,Vs.F0 b o=some v->b<W.heap.size/\W.cell? ⟨b,o,none⟩=some v:=by
 rw[MakeChecks.laidMetH_plain _ _ _ (by kernel_rfl)]at h;obtain⟨ps,hv,_⟩:=h;have h1 := Vs.Zpf (n := "unicode/utf8.first") (d := Rows.laid_unicode_utf8_first) hv (by first | exact List.Mem.head _ | exact List.Mem.tail _ (List.Mem.head _));have h2 := Vs.Zpf (n := "unicode/utf8.acceptRanges") (d := Rows.laid_unicode_utf8_acceptRanges) hv (by first | exact List.Mem.head _ | exact List.Mem.tail _ (List.Mem.head _));rw[dataF]at h1;rw[dataA]at h2;exact Vs.Ykf (Vs.Yv3 (g:=0) (t:=242) (by kernel_rfl) (by kernel_rfl) Tryz.underlying242 Tryz.underlying5 (by kernel_rfl) h1)
  (Vs.Ysl (g:=1) (t:=245) (by kernel_rfl) (by kernel_rfl) Tryz.underlying245 Tryz.underlying244 Tryz.underlying5 Tryz.underlying5 (by kernel_rfl) (by kernel_rfl) rfl rfl (by kernel_rfl) (by kernel_rfl) h2)
theorem walk (x0:Vs.Ty.den (.L .Y)) (v0:Value) (W:World) (hg:∀b o v,Vs.F0 b o=some v->b<W.heap.size/\W.cell? ⟨b,o,none⟩=some v) (l0:Vs.J0 W (false,Vs.Ae (.L .Y) x0) v0) (b0:Vs.okT (.L .Y) x0):Calls Tryz.prog 8 #[v0] W fun e W'=>e=.returned (.bool true)/\Below W.heap.size W W' :=
 Vs.Yqw (av:=[(false,Vs.Ae (.L .Y) x0)]) (Vs.Yhn.ok (x0) true ((Vs.Yqv x0))) (vs:=#[v0]) hg ⟨l0,trivial⟩
set_option maxRecDepth 100000 in
theorem lifted (os : Os) (started : os.Started) (H : Type) (enc : TypeId × Value → H) :
    ReturnsInHanded {} Tryz.checked os 8 .any (fun w args => (Rows.fnTornSpec.pre enc Tryz.prog Tryz.f8 Rows.fnTornRow.domain false w args ∧ laidMetH Tryz.prog Rows.fnTornRow.laid w) ∧ sizedMet enc Tryz.prog Tryz.f8 (OpenSpec.ofChange Rows.fnTornSpec) false w args)
      (Rows.fnTornSpec.post enc Tryz.prog Tryz.f8 false true false false) := by
  refine returnsInHanded_of_change_and (C := Tryz.checked) (X := fun w _ => laidMetH Tryz.prog Rows.fnTornRow.laid w) (fun _ _ _ hh h => h.of_heap hh) own started (by kernel_rfl) Tryz.func8
    (ChangeSpec.witness_shaped (enc := enc) (C := Tryz.checked) (os := os) (X := fun w _ => laidMetH Tryz.prog Rows.fnTornRow.laid w) false (World.laidAll Tryz.prog os Rows.fnTornRow.laid) #[.slice none 0 0] 8 (World.laidAll_os _ _ _)
      (World.shaped_of_ZipB (by kernel_rfl) (by kernel_rfl)) (by kernel_rfl) (by kernel_rfl) (by kernel_rfl)
      (by rw [MakeChecks.laidMetH_plain _ _ _ (by kernel_rfl)]; exact laidMet_laidAll _ (by kernel_rfl) (by kernel_rfl))) ?_
  intro W base args ds gs before hval0 hW hcnd _ hL _;have hval : ∀ (j : Nat) t v, Tryz.f8.params[j]? = some t → args[j]? = some v → Value.okWide Tryz.prog W .any base t v := hval0;have hW' := hW;obtain ⟨p, q, hA0, hV, rfl, hfz, hnd⟩ := hW;have hA : DataW.TrodAll enc Tryz.prog W 0 (fun _ => true) true Tryz.f8.params.toList args.toList ds p := hA0;rw [Tryz.params8] at hA hval;obtain ⟨v0, vs0, d0, ds0, p0, q0, hargs, rfl, rfl, h0, r0⟩ := trodAll_cons hA;obtain ⟨rfl, rfl, rfl⟩ := trodAll_nil r0;obtain rfl : args = #[v0] := by cases args; simp_all
  obtain ⟨rfl, rfl⟩ := trodVars_none hV;obtain ⟨x0, l0, b0⟩ := Vs.Yrd (n := 12) false (.L .Y) (by kernel_rfl) (by kernel_rfl) (by kernel_rfl) (hval 0 32 v0 rfl rfl) h0;have t0 : ∀ x ∈ p0, x.block < W.heap.size := fun x hx => hW'.lt x (by simp [hx]);have hg := glb hL;clear hA0 hval0 hL;refine (walk x0 v0 W hg l0 b0).mono fun e W' ⟨he, bel⟩ => ?_;subst he;exact ⟨_, rfl, _, _, _, [], _, [], hW', trodAll_mk1 (shut_bool Tryz.underlying4 _), (trodAll_cons_mk (Below.trod laidOut (by kernel_rfl) (of_decide_eq_true (by kernel_rfl)) h0 bel t0) trodAll_mk0), rfl, bel.frame _, fun h => by cases h⟩
theorem over:Rows.fnTornRow.holds Tryz.pinned (OpenSpec.ofChange Rows.fnTornSpec) :=
 OpenClaim.holds_of_wide 8 Tryz.f8 rfl rfl rfl rfl rfl rfl rfl ⟨rfl,rfl,rfl,rfl,rfl⟩ rfl rfl rfl rfl rfl (by kernel_rfl) Tryz.func8 fact
  (of_decide_eq_true (by kernel_rfl)) (by unfold Func.isWrapper;first|(rw[if_pos (by decide +kernel)];kernel_rfl)|(rw[if_neg (by decide +kernel)];exact⟨rfl,rfl⟩))
  (fun os started H enc _=>lifted os started H enc)
theorem proved : Rows.FnTornCardSaid :=
  Claim7.holds_tied_plain_at .later [] [.data, .pinned] true (true, "7834f555b45da4a9643a5fa24a9aa1d155493c500aaf00d5b30ef527b536d680") false over (fun _ h => by cases h) (by kernel_rfl) (fun _ h => by cases h) fnTorn_row_tie rfl ⟨rfl, rfl⟩ (by kernel_rfl) rfl
    (fun f fn hf hfn => by
      obtain rfl : f = 8 := Option.some.inj ((show Tryz.prog.funcNamed "loop.example/g00475/laws.FnTorn" = some 8 by kernel_rfl).symm.trans hf) |>.symm;obtain rfl : fn = Tryz.f8 := (Option.some.inj (Tryz.func8.symm.trans hfn)).symm;exact ⟨by kernel_rfl, fun j t ht => by
        rw [Tryz.params8] at ht;have hm : t ∈ [32] := by simpa using Array.mem_of_getElem? ht
        have hall : ([32].all fun u => !Tryz.prog.wantsStandIn u) = true := by kernel_rfl
        exact (show Tryz.prog.wantsStandIn t = false by simpa using List.all_eq_true.1 hall t hm)⟩)
    (by kernel_rfl)
#print axioms proved
end Go.Proofs.YtmfmjngkbddenaaGreatDoor.fnTorn
