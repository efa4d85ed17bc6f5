import Derived.Test.YteacflalidbhpaaVsV14
import Derived.Lib.ConvBytes
set_option linter.unusedVariables false
set_option linter.unusedSimpArgs false
namespace Go.Vs
set_option linter.unusedVariables false
set_option linter.unusedSimpArgs false
variable {P : Program} {N : Nat} {w0 : World} {own0 : Nat → Nat → Prop} {pl0 : Pls} {g : Lab} {pl : Pls} {S : St} {a : Act} {w : World} {K : V → List (Nat × Path) → List (Nat × Root) → Nat → Prop}

theorem fillC_len {S : St} : ∀ (parts : List (Nat × Nat × Opd)) (cs out : List C), fillC S cs parts = some out → out.length = cs.length
  | [], cs, out, h => by simp only [fillC, Option.some.injEq] at h; subst h; rfl
  | (off, sz, x) :: parts, cs, out, h => by
    unfold fillC at h
    split at h
    · split at h
      · rename_i hle
        rw [fillC_len parts _ out h]
        simp; omega
      · simp at h
    · simp at h
theorem trParts_ok {t : TypeId} {sz : Nat} : ∀ (parts : List (Nat × Operand)) (offs : List (Nat × Opd)), trParts P t parts = some offs →
    All2 (fun (p : Nat × Operand) (o : Nat × Nat × Opd) => (fun i => some (i * sz, sz)) p.1 = some (o.1, o.2.1) ∧ ∃ tx, trO P tx p.2 = some o.2.2) parts (offs.map fun x => (x.1 * sz, sz, x.2))
  | [], offs, h => by simp only [trParts, Option.some.injEq] at h; subst h; trivial
  | (i, x) :: parts, offs, h => by
    simp only [trParts, Option.bind_eq_bind, Option.bind_eq_some_iff, Option.some.injEq] at h
    obtain ⟨y, hy, rest, hr, rfl⟩ := h
    exact ⟨⟨rfl, t, hy⟩, trParts_ok parts rest hr⟩
theorem takeAll_len : ∀ {cs : List C} {roots : List (Nat × Root)} {res : List D × List (Nat × Root)}, takeAll roots cs = some res → res.1.length = cs.length
  | [], roots, res, h => by simp only [takeAll, Option.some.injEq] at h; subst h; rfl
  | c :: cs, roots, res, h => by
    unfold takeAll at h
    split at h
    · split at h
      · rename_i ds roots2 htl
        simp only [Option.some.injEq] at h; subst h
        simp [takeAll_len htl]
      · simp at h
    · simp at h

theorem wrote_lit (hR : Rel N w0 own0 pl0 g pl S a w) {t : TypeId} {len : Nat} {parts : Array (Nat × Operand)} {j : W} (ht : trW P (.buildSlice t len parts) = some j) (h : wr S K j) :
    Wrote P w0 own0 pl0 pl S K (Instr.buildSlice t len (parts.map fun (i, x) => (i, a.eval x))) w := by
  simp only [trW] at ht
  split at ht
  · rename_i e hu
    simp only [Option.bind_eq_bind, Option.bind_eq_some_iff] at ht
    obtain ⟨i, hi, z, hz, zc, hzc, ht⟩ := ht
    split at ht
    · rename_i hcond
      obtain ⟨hzl, h24, hpos⟩ := hcond
      simp only [Option.bind_eq_some_iff, Option.some.injEq] at ht
      obtain ⟨offs, hoffs, rfl⟩ := ht
      obtain ⟨cs, hcs, res, hres, hK⟩ := h
      have hall := cellsZero_ok (pl := pl) (nx := S.next) hzc
      have hlen := hall.length
      have hzs : z.cells.size = i.size := by rw [← Array.length_toList, ← hlen, hzl]
      have hall0 : All2 (CR pl S.next) (rep len zc) (madeCells z.cells (len * i.size)).toList := by
        refine All2.of_get (by rw [rep_len, hzl, Array.length_toList, size_madeCells]) fun k x u hx hu => ?_
        have hk : k < len * i.size := by have := getElem?_lt hu; simpa [size_madeCells] using this
        have hkk : k / i.size * i.size + k % i.size = k := by rw [Nat.mul_comm]; exact Nat.div_add_mod _ _
        have h1 := rep_get (l := zc) len (k / i.size) (k % i.size) (Nat.div_lt_of_lt_mul (by rw [Nat.mul_comm]; exact hk)) (by rw [hzl]; exact Nat.mod_lt _ hpos)
        rw [hzl, hkk, hx] at h1
        obtain ⟨u', e1, e2⟩ := hall.get _ _ h1.symm
        have h2 := made_get z.cells (len * i.size) (by omega) k hk
        rw [hzs] at h2
        simp only [Array.getElem?_toList] at hu e1
        rw [h2, e1] at hu
        simp only [Option.some.injEq] at hu; subst hu; exact e2
      obtain ⟨arr, hfill, harr⟩ := fill_ok hR (fun k => some (k * i.size, i.size)) parts.toList _ _ _ cs (trParts_ok _ _ hoffs) hall0 hcs
      have hcl : cs.length = len * i.size := by rw [fillC_len _ _ _ hcs, rep_len, hzl]
      have hal : arr.size = len * i.size := by rw [← Array.length_toList, ← harr.length, hcl]
      have hrun : (Instr.buildSlice t len (parts.map fun (i, x) => (i, a.eval x))).run P w = .ok (.slice (some ⟨w.heap.size, 0, none⟩) len len) (w.alloc (.cells arr e)) := by
        have hfill' : Instr.fill (fun k => some (k * i.size, i.size)) ((Array.range (len * i.size)).map (z.cells[· % z.cells.size]!)) (parts.map fun (x : Nat × Operand) => (x.1, a.eval x.2)).toList = some arr := by
          simpa [madeCells] using hfill
        have hnot : ¬ (len * i.size > 2 ^ 24) := by omega
        by_cases hl0 : len * i.size = 0
        · have : madeCells z.cells (len * i.size) = (Array.range (len * i.size)).map ((#[] : Array Value)[· % (#[] : Array Value).size]!) := by rw [hl0]; apply Array.ext'; simp [madeCells]
          have hfill2 : Instr.fill (fun k => some (k * i.size, i.size)) ((Array.range (len * i.size)).map ((#[] : Array Value)[· % (#[] : Array Value).size]!)) (parts.map fun (x : Nat × Operand) => (x.1, a.eval x.2)).toList = some arr := by
            rw [← this]; simpa [madeCells] using hfill'
          simp only [Instr.buildSlice, Sem.run_bind, run_underlying hu, Result.andThen_ok, sizeOf, typeInfo, run_program, hi, Sem.run_pure]
          rw [if_neg hnot, if_pos hl0]
          simp only [Sem.run_bind, Sem.run_pure, Result.andThen_ok]
          rw [hfill2]
          simp [newRow]
        · simp only [Instr.buildSlice, Sem.run_bind, run_underlying hu, Result.andThen_ok, sizeOf, typeInfo, run_program, hi, Sem.run_pure]
          rw [if_neg hnot, if_neg hl0]
          simp only [Sem.run_bind, zeroValue, typeInfo, run_program, hi, hz, Sem.run_pure, Result.andThen_ok]
          rw [hfill']
          simp [newRow]
      have hfr := hR.hp.fresh arr e len i.size hal
      have hgl := ghs_len harr
      have hx := hfr.extendZ (r := S.next) (sz := i.size) (es := []) (by simp [get]) (by have := hR.hp.fixle; omega) (Nat.le_refl _) (chunk i.size len (ghs cs arr.toList)) (fun e' he' => chunk_mem (by rw [hgl, hcl]) he') (by rw [plNew_self, chunk_len]; simp) (by
        intro i' e' c' d he' hd
        rw [plNew_self]
        simp only [List.length_nil, Nat.zero_add]
        obtain ⟨hi', hc', hg⟩ := chunk_cell he' hd
        obtain ⟨c, u, hc1, hu1, rfl, hcr⟩ := ghs_get harr _ _ hg
        refine ⟨u, ?_, ?_⟩
        · rw [World.cell?_alloc_new]; simpa using hu1
        · cases c with
          | nl s => exact .inr ⟨s, rfl, hcr⟩
          | _ => exact .inl ⟨rfl, hcr.one⟩)
      simp only [List.nil_append, List.length_nil] at hx
      have hag0 : Agree S.next pl (plZ (plNew pl S.next fun _ => ⟨false, w.heap.size, 0, len, i.size⟩) S.next (chunk i.size len (ghs cs arr.toList)) 0) := by
        intro r p hr
        rw [plZ_agree (Nat.le_refl _) r p hr, plNew_agree _ _ _ _ _ hr]
      obtain ⟨g', pl', nx', a1, a2, a3, a4, a5⟩ := lit_moves (R := S.next) (sz := i.size) (len := len) (by have := hR.hp.fixle; omega) (Nat.le_refl _) (plI := pl) cs arr.toList [] S.roots _ _ _ res (hx.roots_eq (by
        intro t'
        rw [get_put]
        simp only [get]
        split
        · simp
        · rfl)) (by omega) (by simp [hcl]) harr hag0 hres
      simp only [List.nil_append] at a1
      have hids : ∀ t x, get ((S.next, Root.tr i.size (chunk i.size len res.1)) :: res.2) t = some x → t < S.next + 1 := by
        intro t x hx
        simp only [get] at hx
        split at hx
        · omega
        · obtain ⟨y, hy⟩ := a5 t x hx
          have := (hR.hp.roots t y hy).1
          omega
      refine wroteC hK (v := .slice (some ⟨w.heap.size, 0, none⟩) len len) hrun ?_ ((a1.trim (n := S.next + 1) (by omega) (by have := hR.hp.fixle; omega) hids).bump) (fun z u hk => (hk.agree a3).mono (by omega))
      refine ⟨by omega, ?_⟩
      have : pl' S.next [] = ⟨false, w.heap.size, 0, len, i.size⟩ := by rw [a4, plZ_nil, plNew_self]
      exact win_fresh (L := fun _ => default) this (Nat.le_refl _)
    · simp at ht
  · simp at ht

theorem strD_get {s : ByteArray} {i : Nat} {e : List D} {c : Nat} {d : D} (he : (strD s)[i]? = some e) (hd : e[c]? = some d) : ∃ b, s.data[i]? = some b ∧ c = 0 ∧ d = .lf (.int .u8 b.toNat) := by
  simp only [strD, List.getElem?_map, Option.map_eq_some_iff] at he
  obtain ⟨b, hb, rfl⟩ := he
  cases c with
  | zero => simp at hd; exact ⟨b, by simpa using hb, rfl, hd.symm⟩
  | succ c => simp at hd
theorem strD_len (s : ByteArray) : (strD s).length = s.size := by simp [strD]
theorem wrote_s2b (hR : Rel N w0 own0 pl0 g pl S a w) {s d : TypeId} {x : Operand} {j : W} (ht : trW P (.convert s d x) = some j) (h : wr S K j) :
    Wrote P w0 own0 pl0 pl S K (convert s d (a.eval x)) w := by
  simp only [trW, Option.bind_eq_bind, Option.bind_eq_some_iff] at ht
  obtain ⟨x', hx, ht⟩ := ht
  have h1 := opd_ok hR hx
  split at ht
  · rename_i e hs hd
    split at ht
    · rename_i he8
      simp only [Option.some.injEq] at ht; subst ht
      simp only [wr] at h
      split at h
      · rename_i str he
        rw [he] at h1
        obtain ⟨hv, _⟩ := c_of h1
        have hrun := Lib.run_convert_string_bytes (P := P) w s d e str hs hd he8
        obtain ⟨cap, hcap⟩ : ∃ cap, cap = grownCap w str.size 0 e := ⟨_, rfl⟩
        have hge : str.size ≤ cap := by rw [hcap]; exact grownCap_ge w str.size 0 e
        have hsz : str.data.size = str.size := rfl
        have hars : (Lib.bytesCells w e str).size = cap * 1 := by simp [Lib.bytesCells, ← hcap]; omega
        have hfr0 := hR.hp.fresh (Lib.bytesCells w e str) e cap 1 hars
        have hnew := Lib.bytesWorld_at_new w e str
        have hcn : ∀ j, (Lib.bytesWorld w e str).cell? ⟨w.heap.size, j, none⟩ = (Lib.bytesCells w e str)[j]? := by
          intro j; simp [World.cell?, hnew]
        have hold : ∀ b o, b ≠ w.heap.size → (Lib.bytesWorld w e str).cell? ⟨b, o, none⟩ = w.cell? ⟨b, o, none⟩ ∧ (Lib.bytesWorld w e str).frozen? ⟨b, o, none⟩ = w.frozen? ⟨b, o, none⟩ := by
          intro b o hb
          rcases Nat.lt_or_ge b w.heap.size with hlt | hge'
          · have := Lib.bytesWorld_at_old w e str b hlt
            exact ⟨World.cell?_of_block this, World.frozen?_of_block this⟩
          · have h1 : (Lib.bytesWorld w e str).heap[b]? = none := Array.getElem?_eq_none (by rw [Lib.bytesWorld_size]; omega)
            have h2 : w.heap[b]? = none := Array.getElem?_eq_none (by omega)
            simp [World.cell?, World.frozen?, h1, h2]
        have hF : Fr w0 own0 (Lib.bytesWorld w e str) := by
          have hf := hR.hp.fr
          have hs0 := hf.size
          refine ⟨?_, ?_, ?_, by rw [Lib.bytesWorld_size]; omega, fun b hb ho => by rw [Lib.bytesWorld_at_old w e str b (by omega)]; exact hf.block b hb ho, fun b o hb ho => by
            obtain ⟨e1, e2⟩ := hold b o (by omega)
            rw [e1, e2]; exact hf.cell b o hb ho⟩
          · have : (Lib.bytesWorld w e str).os = w.os := by unfold Lib.bytesWorld World.freeze; split <;> rfl
            rw [this]; exact hf.os
          · have : (Lib.bytesWorld w e str).tape = w.tape := by unfold Lib.bytesWorld World.freeze; split <;> rfl
            rw [this]; exact hf.tape
          · have : (Lib.bytesWorld w e str).output = w.output := by unfold Lib.bytesWorld World.freeze; split <;> rfl
            rw [this]; exact hf.output
        have hfr := hfr0.congr hF (by rw [Lib.bytesWorld_size]; simp) (by
          intro b o x hx
          by_cases hb : b = w.heap.size
          · subst hb
            simp only [labNew, if_true] at hx
            split at hx
            · rename_i ho
              rw [hcn, World.cell?_alloc_new, World.frozen?_alloc_new]
              refine ⟨rfl, ?_⟩
              simp [World.frozen?, hnew, hars]
              omega
            · simp at hx
          · obtain ⟨e1, e2⟩ := hold b o hb
            rw [e1, e2, World.cell?_alloc_old w _ _ (by simpa using hb), World.frozen?_alloc_old w _ _ (by simpa using hb)]
            exact ⟨rfl, rfl⟩) (by
          intro b o hst
          have := hR.hp.fr.size
          have hb : b ≠ w.heap.size := by have := hst.1; omega
          rw [(hold b o hb).1, World.cell?_alloc_old w _ _ (by simpa using hb)])
        have hx := hfr.extendZ (r := S.next) (sz := 1) (es := []) (by simp [get]) (by have := hR.hp.fixle; omega) (Nat.le_refl _) (strD str) (fun e' he' => by
          simp only [strD, List.mem_map] at he'
          obtain ⟨b, _, rfl⟩ := he'; rfl) (by rw [plNew_self, strD_len]; simpa using hge) (by
          intro i' e' c' dd he' hd'
          obtain ⟨b, hb, rfl, rfl⟩ := strD_get he' hd'
          rw [plNew_self]
          have hi' := getElem?_lt he'
          rw [strD_len] at hi'
          refine ⟨.int .u8 b.toNat, ?_, .inl ⟨rfl, rfl⟩⟩
          simp only [List.length_nil, Nat.zero_add, Nat.mul_one, Nat.add_zero]
          rw [hcn]
          simp only [Lib.bytesCells]
          rw [Array.getElem?_append_left (by simp; omega)]
          simp [hb])
        simp only [List.nil_append, List.length_nil] at hx
        have hag0 : Agree S.next pl (plZ (plNew pl S.next fun _ => ⟨false, w.heap.size, 0, cap, 1⟩) S.next (strD str) 0) := by
          intro r p hr
          rw [plZ_agree (Nat.le_refl _) r p hr, plNew_agree _ _ _ _ _ hr]
        refine wroteC h (v := .slice (some ⟨w.heap.size, 0, none⟩) str.size cap) (by rw [hv, hrun, ← hcap]) (pl' := plZ (plNew pl S.next fun _ => ⟨false, w.heap.size, 0, cap, 1⟩) S.next (strD str) 0) ⟨by omega, win_fresh (L := fun _ => default) (by rw [plZ_nil, plNew_self]) hge⟩ (hx.bump.roots_eq ?_) (fun z u hk => (hk.agree hag0).mono (by omega))
        intro t'
        rw [get_put]
        simp only [get]
        split
        · simp
        · rfl
      · exact h.elim
    · simp at ht
  · simp at ht
end Go.Vs
