/-
  FnStoresBent: whatever the input is, the law answers true and leaves what it reads as it was; the card: the listed tables of unicode/utf8 tied to the text. Condition: none.
-/
import Derived.Test.YteaoaehkkcbmbaaGreatDoorTie
import Derived.Test.YteaoaehkkcbmbaaGreatDoorCards
import Derived.ProofKit
import Derived.ShutString
import Derived.ChangeOld
import Derived.Carry
import Derived.SizedLaws
import Derived.Lay
import Derived.SevenTiedAt
import Derived.Stop.Joined
import Derived.Test.YteaoaehkkcbmbaaGreatDoorVsNga
import Derived.Test.YteaoaehkkcbmbaaGreatDoorVsQvo
import Derived.Test.YteaoaehkkcbmbaaGreatDoorVsPvk13
set_option linter.all false
namespace Go.Proofs.YteaoaehkkcbmbaaGreatDoor.fnStoresBent
open Go.ChangeShapes Go.WideShapes Go.ChangeAt Go.RowKit
theorem own:ownKnob Tryz.prog.godebug=none:=by kernel_rfl
theorem laidOut:laidOutB Tryz.prog=true:=by kernel_rfl
theorem dataF:Rows.laid_unicode_utf8_first=Vs.vR Vs.OB:=by kernel_rfl
theorem dataA:(Rows.laid_unicode_utf8_acceptRanges:DataW Unit)=.agg (Vs.Wm Vs.S5):=by kernel_rfl
theorem glb {W:World}(h:laidMetH Tryz.prog Rows.fnStoresBentRow.laid W):∀b o v,Vs.GU b o=some v->b<W.heap.size/\W.cell? ⟨b,o,none⟩=some v:=by
 rw[MakeChecks.laidMetH_plain _ _ _ (by kernel_rfl)]at h;obtain⟨f,e,_⟩:=h;have a := Vs.jr (n := "unicode/utf8.first") (d := Rows.laid_unicode_utf8_first) e (by first | exact List.Mem.head _ | exact List.Mem.tail _ (List.Mem.head _));have c := Vs.jr (n := "unicode/utf8.acceptRanges") (d := Rows.laid_unicode_utf8_acceptRanges) e (by first | exact List.Mem.head _ | exact List.Mem.tail _ (List.Mem.head _));rw[dataF]at a;rw[dataA]at c;exact Vs.Zb5 (Vs.Zod (g:=0) (t:=178) (by kernel_rfl) (by kernel_rfl) Tryz.underlying178 Tryz.underlying5 (by kernel_rfl) a)
  (Vs.Zk3 (g:=1) (t:=181) (by kernel_rfl) (by kernel_rfl) Tryz.underlying181 Tryz.underlying180 Tryz.underlying5 Tryz.underlying5 (by kernel_rfl) (by kernel_rfl) rfl rfl (by kernel_rfl) (by kernel_rfl) c)
theorem walk (a:Vs.Ty.den (.L .Y)) (c:Value) (W:World) (f:∀b o v,Vs.GU b o=some v->b<W.heap.size/\W.cell? ⟨b,o,none⟩=some v) (g:Vs.JW W (false,Vs.Al (.L .Y) a) c) (h:Vs.N0 (.L .Y) a):Calls Tryz.prog 3 #[c] W fun e d=>e=.returned (.bool true)/\Below W.heap.size W d :=
 Vs.Zjn (av:=[(false,Vs.Al (.L .Y) a)]) (Vs.zS.ok (a) true ((Vs.Zjm a))) (vs:=#[c]) f ⟨g,trivial⟩
set_option maxRecDepth 100000 in
theorem lifted (k : Os) (c : k.Started) (H : Type) (enc : TypeId × Value → H) :
    ReturnsInHanded {} Tryz.checked k 3 .any (fun w a => (Rows.fnStoresBentSpec.pre enc Tryz.prog Tryz.f3 Rows.fnStoresBentRow.domain false w a ∧ laidMetH Tryz.prog Rows.fnStoresBentRow.laid w) ∧ sizedMet enc Tryz.prog Tryz.f3 (OpenSpec.ofChange Rows.fnStoresBentSpec) false w a)
      (Rows.fnStoresBentSpec.post enc Tryz.prog Tryz.f3 false true false false) := by
  refine returnsInHanded_of_change_and (C := Tryz.checked) (X := fun w _ => laidMetH Tryz.prog Rows.fnStoresBentRow.laid w) (fun _ _ _ J h => h.of_heap J) own c (by kernel_rfl) Tryz.func3
    (ChangeSpec.witness_shaped (enc := enc) (C := Tryz.checked) (os := k) (X := fun w _ => laidMetH Tryz.prog Rows.fnStoresBentRow.laid w) false (World.laidAll Tryz.prog k Rows.fnStoresBentRow.laid) #[.slice none 0 0] 8 (World.laidAll_os _ _ _)
      (World.shaped_of_ZipB (by kernel_rfl) (by kernel_rfl)) (by kernel_rfl) (by kernel_rfl) (by kernel_rfl)
      (by rw [MakeChecks.laidMetH_plain _ _ _ (by kernel_rfl)]; exact laidMet_laidAll _ (by kernel_rfl) (by kernel_rfl))) ?_
  intro W base a B V l b y z _ u _;have d : ∀ (j : Nat) t v, Tryz.f3.params[j]? = some t → a[j]? = some v → Value.okWide Tryz.prog W .any base t v := b;have i := y;obtain ⟨p, q, g, E, rfl, G, K⟩ := y;have s : DataW.TrodAll enc Tryz.prog W 0 (fun _ => true) true Tryz.f3.params.toList a.toList B p := g;rw [Tryz.params3] at s d;obtain ⟨o, R, U, D, O, Z, m, rfl, rfl, r, P⟩ := trodAll_cons s;obtain ⟨rfl, rfl, rfl⟩ := trodAll_nil P;obtain rfl : a = #[o] := by cases a; simp_all
  obtain ⟨rfl, rfl⟩ := trodVars_none E;obtain ⟨S, N, A⟩ := Vs.Zj0 (n := 12) false (.L .Y) (by kernel_rfl) (by kernel_rfl) (by kernel_rfl) (d 0 22 o rfl rfl) r;have Q : ∀ x ∈ O, x.block < W.heap.size := fun x M => i.lt x (by simp [M]);have I := glb u;clear g b u;refine (walk S o W I N A).mono fun e T ⟨F, f⟩ => ?_;subst F;exact ⟨_, rfl, _, _, _, [], _, [], i, trodAll_mk1 (shut_bool Tryz.underlying4 _), (trodAll_cons_mk (Below.trod laidOut (by kernel_rfl) (of_decide_eq_true (by kernel_rfl)) r f Q) trodAll_mk0), rfl, f.frame _, fun h => by cases h⟩
theorem over:Rows.fnStoresBentRow.holds Tryz.pinned (OpenSpec.ofChange Rows.fnStoresBentSpec) :=
 OpenClaim.holds_of_wide 3 Tryz.f3 rfl rfl rfl rfl rfl rfl rfl ⟨rfl,rfl,rfl,rfl,rfl⟩ rfl rfl rfl rfl rfl (by kernel_rfl) Tryz.func3 fact
  (of_decide_eq_true (by kernel_rfl)) (by unfold Func.isWrapper;first|(rw[if_pos (by decide +kernel)];kernel_rfl)|(rw[if_neg (by decide +kernel)];exact⟨rfl,rfl⟩))
  (fun b a H enc _=>lifted b a H enc)
theorem proved : Rows.FnStoresBentCardSaid :=
  Claim7.holds_tied_plain_at .later [] [.data, .pinned] true (true, "9934de7a9e90e906b339bc068f1c5d519e4be033dd91c72b4b9ad3eece40ce76") false over (fun _ h => by cases h) (by kernel_rfl) (fun _ h => by cases h) fnStoresBent_row_tie rfl ⟨rfl, rfl⟩ (by kernel_rfl) rfl
    (fun f fn d b => by
      obtain rfl : f = 3 := Option.some.inj ((show Tryz.prog.funcNamed "loop.example/g00475/laws.FnStoresBent" = some 3 by kernel_rfl).symm.trans d) |>.symm;obtain rfl : fn = Tryz.f3 := (Option.some.inj (Tryz.func3.symm.trans b)).symm;exact ⟨by kernel_rfl, fun j t c => by
        rw [Tryz.params3] at c;have e : t ∈ [22] := by simpa using Array.mem_of_getElem? c
        have a : ([22].all fun u => !Tryz.prog.wantsStandIn u) = true := by kernel_rfl
        exact (show Tryz.prog.wantsStandIn t = false by simpa using List.all_eq_true.1 a t e)⟩)
    (by kernel_rfl)
#print axioms proved
end Go.Proofs.YteaoaehkkcbmbaaGreatDoor.fnStoresBent
