import Derived.Test.YtgbapgjdkoojdaaVsQ
import Derived.Test.YtgbapgjdkoojdaaVsSc
import Derived.Test.YtgbapgjdkoojdaaVsW2
set_option linter.unusedVariables false
set_option linter.unusedSimpArgs false
namespace Go.Vs
theorem bD_set (l : List UInt8) (i : Nat) (v : UInt8) (h : i < l.length) : setD (bD l) [] i 0 (.lf (.int .u8 v.toNat)) = bD (l.set i v) := by
 simp only [setD, updNode, setC, bD_get h]
 simp only [List.set_cons_zero, bD, List.map_set]
/-- A leaf is written into a tree's cell. -/
theorem st_leaf {S : St} {K : KW} {x v : Opd} {r i c sz0 : Nat} {p : Path} {u : Value} {es : List (List D)} {m : Nat × List (List D)} {e : List D} (hx : S.opd x = .a (.c (.pe r p i c))) (hv : S.opd v = .a (.c (.lf u))) (hr : get S.roots r = some (.tr sz0 es)) (hn : nodeAt sz0 es p = some m) (he : m.2[i]? = some e) (hc : c < e.length)
  (hK : K .un [] (put S.roots r (.tr sz0 (setD es p i c (.lf u)))) S.next) : wr S K (.store 1 x v) := by
 simp only [wr, hx, hv]
 refine ⟨[.lf u], rfl, rfl, e, ?_, by omega, ⟨sz0, es, hr⟩, (put S.roots r (.tr sz0 (setD es p i c (.lf u))), []), ?_, hK⟩
 ·simp only [St.node, hr, hn, Option.bind_some]
  exact he
 ·simp only [storeT, killCs, hr]
/-- Bytes that count on from n. -/
def cnt (n len : Nat) : List UInt8 := (List.range len).map fun i => UInt8.ofNat (n + i)
end Go.Vs
namespace Go.Proofs.Ytgbapgjdkoojdaa
open Go.Vs
set_option linter.unusedSimpArgs false
set_option maxHeartbeats 1000000
theorem runs24 (b : List UInt8) (n : Nat) (h : n + b.length < 2 ^ 62) : Runs Try.prog 24 [.val false [(.io, .sl 1 (bD b))], .val false [(.rd, .lf (.int .i64 n))]] ⟨[(false, [.lf (.int .i64 ((n + b.length : Nat) : Int))])], [(1, bD (cnt n b.length))], []⟩ := by
 obtain ⟨c, hb, hs⟩ := body_of tr24
 refine runs_of_sw Try.func24 hb hs rfl (show 2 ≤ 20 by decide) ?_
 clear hb hs c
 refine q15 ?_
 unfold s24
 refine sw_seq (sw_reg ?_)
 unfold s24_0
 refine os_k fun K hK => ?_
 refine q4 ?_
 refine hK _ ?_
 clear hK K
 simp only [runOs, thenQ, blockQ]
 refine sw_seq (sw_seq (sw_reg ?_))
 unfold s24_1
 refine os_k fun K hK => ?_
 refine q4 ?_
 refine hK _ ?_
 clear hK K
 simp only [runOs, thenQ, blockQ]
 refine sw_block ?_
 refine sw_loop (fun k S => ∃ (i : Nat) (l : List UInt8), i ≤ b.length ∧ k = b.length - i ∧ l.length = b.length ∧ l.take i = cnt n i ∧ S = ⟨[(0, .a (.c (.rf 0 [] 1 0 b.length))), (1, .a (.c (.lf (.int .i64 ((n + i : Nat) : Int))))), (5, .a (.c (.lf (.int .i64 (i : Int)))))], [(0, .tr 1 (bD l))], 1, 1⟩) b.length ?_ ?_
 ·refine ⟨_, ⟨0, b, Nat.zero_le _, rfl, rfl, by simp [cnt], rfl⟩, Le.sub rfl rfl (keep_cons rfl (keep_cons rfl (keep_cons rfl keep_nil))) (fun r x h => h)⟩
 ·rintro k S hfix ⟨i, l, hi, hk, hl, htake, rfl⟩
  clear hfix
  refine sw_seq (sw_seq (sw_reg ?_))
  unfold s24_2
  refine os_k fun K hK => ?_
  refine q4 ?_
  refine hK _ ?_
  clear hK K
  refine os_k fun K hK => ?_
  refine q4 ?_
  refine hK _ ?_
  clear hK K
  refine os_k fun K hK => ?_
  refine q4 ?_
  refine hK _ ?_
  clear hK K
  refine os_k fun K hK => ?_
  refine q4 ?_
  refine hK _ ?_
  clear hK K
  simp only [runOs, thenQ, blockQ]
  refine sw_cond (b := decide ((i : Int) < (b.length : Int))) rfl (fun hlt => ?_) (fun hge => ?_)
  ·refine sw_skip ?_
   have hib : i < b.length := by simpa using hlt
   have hil : i < l.length := by omega
   simp only [thenQ, blockQ]
   refine sw_seq (sw_block (sw_seq (sw_reg ?_)))
   unfold s24_4
   refine os_k fun K hK => ?_
   refine q4 ?_
   refine hK _ ?_
   clear hK K
   refine os_k fun K hK => ?_
   refine q4 ?_
   refine hK _ ?_
   clear hK K
   refine os_k fun K hK => ?_
   refine q4 ?_
   refine hK _ ?_
   clear hK K
   refine os_k fun K hK => ?_
   refine q4 ?_
   refine hK _ ?_
   clear hK K
   refine os_k fun K hK => ?_
   refine q4 ?_
   refine ⟨trivial, ⟨by omega, by omega⟩, ?_⟩
   refine hK _ ?_
   clear hK K
   refine os_k fun K hK => ?_
   simp only [stepO, evJ]
   refine st_leaf rfl rfl rfl rfl (bD_get (by simpa using hil)) (by simp) ?_
   simp only [setEnv, Vs.put, killEnv, reduceIte]
   refine hK _ ?_
   clear hK K
   simp only [runOs, thenQ, blockQ]
   have hw : IntKind.u8.wrap ((n + i : Nat) : Int) = ((UInt8.ofNat (n + i)).toNat : Int) := by
    rw [IntKind.wrap_u8]; simp
   rw [hw, Nat.zero_add, bD_set l i _ hil]
   refine sw_reg ?_
   unfold s24_5
   refine os_k fun K hK => ?_
   refine q4 ?_
   refine hK _ ?_
   clear hK K
   refine os_k fun K hK => ?_
   refine q4 ?_
   refine hK _ ?_
   clear hK K
   refine os_k fun K hK => ?_
   refine q4 ?_
   refine hK _ ?_
   clear hK K
   simp only [runOs, thenQ, blockQ]
   refine sw_reg ?_
   unfold s24_3
   refine os_k fun K hK => ?_
   refine q4 ?_
   refine hK _ ?_
   clear hK K
   refine os_k fun K hK => ?_
   refine q4 ?_
   refine hK _ ?_
   clear hK K
   refine os_k fun K hK => ?_
   refine q4 ?_
   refine hK _ ?_
   clear hK K
   simp only [runOs, thenQ, blockQ]
   have e1 : IntKind.i64.wrap (((n + i : Nat) : Int) + 1) = ((n + (i + 1) : Nat) : Int) := by rw [wrap64 (by omega) (by omega)]; omega
   have e2 : IntKind.i64.wrap ((i : Int) + 1) = ((i + 1 : Nat) : Int) := by rw [wrap64 (by omega) (by omega)]; rfl
   refine ⟨b.length - (i + 1), _, by omega, ⟨i + 1, l.set i (UInt8.ofNat (n + i)), by omega, rfl, by simp [hl], ?_, rfl⟩, Le.sub rfl rfl (keep_cons rfl (keep_cons ?_ (keep_cons ?_ keep_nil))) (fun r x h => h)⟩
   ·rw [List.take_succ_eq_append_getElem (by simpa using hil)]
    simp only [List.getElem_set_self, List.take_set_of_le (Nat.le_refl i)]
    rw [htake]
    simp [cnt, List.range_succ]
   ·simp only [Vs.get, reduceIte, Nat.reduceEqDiff, e1]
   ·simp only [Vs.get, reduceIte, Nat.reduceEqDiff, e2]
  ·refine sw_exit ?_
   have hib : i = b.length := by
    have : ¬ i < b.length := by simpa using hge
    omega
   subst hib
   simp only [thenQ, blockQ, if_true]
   refine sw_seq (sw_reg ?_)
   unfold s24_6
   refine os_k fun K hK => ?_
   refine q4 ?_
   refine hK _ ?_
   clear hK K
   refine os_k fun K hK => ?_
   refine q4 ?_
   refine hK _ ?_
   clear hK K
   simp only [runOs, thenQ, blockQ]
   refine sw_ret ?_
   refine q3 ?_
   have hfull : l = cnt n b.length := by rw [← htake, ← hl, List.take_length]
   exact leaves_io rfl rfl rfl ⟨⟨by rw [hfull]; rfl, rfl, by simp [cnt]⟩, trivial⟩
end Go.Proofs.Ytgbapgjdkoojdaa
