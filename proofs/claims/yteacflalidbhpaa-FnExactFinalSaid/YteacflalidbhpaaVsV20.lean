import Derived.Test.YteacflalidbhpaaVsV19
set_option linter.unusedVariables false
set_option linter.unusedSimpArgs false
namespace Go.Vs
set_option linter.unusedVariables false
set_option linter.unusedSimpArgs false

/-- Where what is handed on comes from. -/
inductive Ent where
  | tree (r : Nat) (p : Path)
  | read (r : Nat) (p : Path) (lo sz : Nat)
  | nil (sz : Nat)
  | box (r c k : Nat)

def srcT (sz : Nat) : C → Ent
  | .rf r p _ _ _ => .tree r p
  | _ => .nil sz
def srcR (sz : Nat) : C → Ent
  | .rf r p s lo _ => .read r p lo s
  | _ => .nil sz
def enC (m : M) (c : C) (d : D) (k : Kk) : List (Nat × Ent) × Kk :=
  match d with
  | .lf _ => ([], k)
  | .hole => ([], k)
  | .sl sz es => match m with
    | .io => ([(k.1, srcT sz c)], (k.1 + 1, k.2))
    | .ow => ([(k.2, srcT sz c)], (k.1, k.2 + 1))
    | .rd => ([(k.2, srcR sz c)], (k.1, k.2 + 1))
    | .rx => ([(k.1, srcR sz c)], (k.1 + 1, k.2))
def enCs : List (M × C × D) → Kk → List (Nat × Ent) × Kk
  | [], k => ([], k)
  | (m, c, d) :: l, k => ((enC m c d k).1 ++ (enCs l (enC m c d k).2).1, (enCs l (enC m c d k).2).2)
def md (x : M × C × D) : M × D := (x.1, x.2.2)
theorem enC_k (m : M) (c : C) (d : D) (k : Kk) : (enC m c d k).2 = (inC m d k).2.2 := by
  cases d <;> first | rfl | (cases m <;> rfl)
theorem enCs_k : ∀ (l : List (M × C × D)) (k : Kk), (enCs l k).2 = (inCs (l.map md) k).2.2
  | [], _ => rfl
  | (m, c, d) :: l, k => by simp only [enCs, List.map_cons, md, inCs]; rw [enC_k]; exact enCs_k l _

/-- Counters go up; ids lie between. -/
def Btw (k k' : Kk) (id : Nat) : Prop := (k.1 ≤ id ∧ id < k'.1) ∨ (k.2 ≤ id ∧ id < k'.2)
theorem inC_up (m : M) (d : D) (k : Kk) : k.1 ≤ (inC m d k).2.2.1 ∧ k.2 ≤ (inC m d k).2.2.2 := by
  cases d <;> first | exact ⟨Nat.le_refl _, Nat.le_refl _⟩ | (cases m <;> simp [inC])
theorem inCs_up : ∀ (l : List (M × D)) (k : Kk), k.1 ≤ (inCs l k).2.2.1 ∧ k.2 ≤ (inCs l k).2.2.2
  | [], _ => ⟨Nat.le_refl _, Nat.le_refl _⟩
  | (m, d) :: l, k => by
    have h1 := inC_up m d k
    have h2 := inCs_up l (inC m d k).2.2
    exact ⟨Nat.le_trans h1.1 h2.1, Nat.le_trans h1.2 h2.2⟩
theorem inCs_fix : ∀ (l : List (M × D)) (k : Kk), (inCs l k).2.2.1 = k.1 + fixCs l
  | [], _ => rfl
  | (m, d) :: l, k => by
    simp only [inCs, fixCs]
    rw [inCs_fix l]
    have : (inC m d k).2.2.1 = k.1 + fixC (m, d) := by cases d <;> first | rfl | (cases m <;> rfl)
    rw [this]; omega
theorem enC_btw {m : M} {c : C} {d : D} {k : Kk} {x : Nat × Ent} (h : x ∈ (enC m c d k).1) : Btw k (inC m d k).2.2 x.1 := by
  cases d with
  | lf v => simp [enC] at h
  | hole => simp [enC] at h
  | sl sz es =>
    cases m <;> (simp only [enC, List.mem_singleton] at h; subst h; simp [Btw, inC])
theorem enCs_btw : ∀ {l : List (M × C × D)} {k : Kk} {x : Nat × Ent}, x ∈ (enCs l k).1 → Btw k (inCs (l.map md) k).2.2 x.1
  | [], _, _, h => by simp [enCs] at h
  | (m, c, d) :: l, k, x, h => by
    simp only [enCs, List.mem_append] at h
    have h1 := inC_up m d k
    have h2 := inCs_up (l.map md) (inC m d k).2.2
    simp only [List.map_cons, md, inCs]
    rcases h with h | h
    · have := enC_btw h
      unfold Btw at this ⊢
      rcases this with t | t
      · exact .inl ⟨t.1, Nat.lt_of_lt_of_le t.2 h2.1⟩
      · exact .inr ⟨t.1, Nat.lt_of_lt_of_le t.2 h2.2⟩
    · have := enCs_btw h
      rw [enC_k] at this
      unfold Btw at this ⊢
      rcases this with t | t
      · exact .inl ⟨Nat.le_trans h1.1 t.1, t.2⟩
      · exact .inr ⟨Nat.le_trans h1.2 t.1, t.2⟩
def Ids (l : List (Nat × Ent)) : List Nat := l.map (·.1)
theorem ids_append {l1 l2 : List (Nat × Ent)} {k k1 k2 : Kk} {F : Nat} (h1 : (Ids l1).Nodup) (h2 : (Ids l2).Nodup) (b1 : ∀ x ∈ l1, Btw k k1 x.1) (b2 : ∀ x ∈ l2, Btw k1 k2 x.1) (hF : k2.1 ≤ F) (hF' : F ≤ k.2) (hu : k.1 ≤ k1.1 ∧ k.2 ≤ k1.2) (hu2 : k1.1 ≤ k2.1) : (Ids (l1 ++ l2)).Nodup := by
  unfold Ids at *
  rw [List.map_append, List.nodup_append]
  refine ⟨h1, h2, ?_⟩
  intro a ha b hb e
  simp only [List.mem_map] at ha hb
  obtain ⟨x, hx, rfl⟩ := ha
  obtain ⟨y, hy, rfl⟩ := hb
  have t1 := b1 x hx
  have t2 := b2 y hy
  unfold Btw at t1 t2
  omega
theorem enCs_nodup : ∀ (l : List (M × C × D)) (k : Kk) (F : Nat), (inCs (l.map md) k).2.2.1 ≤ F → F ≤ k.2 → (Ids (enCs l k).1).Nodup
  | [], _, _, _, _ => by simp [enCs, Ids]
  | (m, c, d) :: l, k, F, h1, h2 => by
    simp only [List.map_cons, md, inCs] at h1
    have u1 := inC_up m d k
    have u2 := inCs_up (l.map md) (inC m d k).2.2
    refine ids_append (F := F) (k := k) (k1 := (inC m d k).2.2) (k2 := (inCs (l.map md) (inC m d k).2.2).2.2) ?_ ?_ (fun x hx => enC_btw hx) (fun x hx => by have := enCs_btw hx; rwa [enC_k] at this) h1 h2 u1 u2.1
    · cases d with
      | lf v => simp [enC, Ids]
      | hole => simp [enC, Ids]
      | sl sz es => cases m <;> simp [enC, Ids]
    · rw [enC_k]; exact enCs_nodup l _ F h1 (by omega)

theorem get_of_mem {α : Type} : ∀ {l : List (Nat × α)} {id : Nat} {e : α}, (l.map (·.1)).Nodup → (id, e) ∈ l → get l id = some e
  | [], _, _, _, h => by simp at h
  | (k, x) :: l, id, e, hn, h => by
    simp only [List.map_cons, List.nodup_cons] at hn
    rcases List.mem_cons.1 h with h | h
    · simp only [Prod.mk.injEq] at h
      obtain ⟨rfl, rfl⟩ := h
      simp [get]
    · simp only [get]
      rw [if_neg]
      · exact get_of_mem hn.2 h
      · rintro rfl
        exact hn.1 (List.mem_map_of_mem h)
theorem mem_of_get {α : Type} : ∀ {l : List (Nat × α)} {id : Nat} {e : α}, get l id = some e → (id, e) ∈ l
  | [], _, _, h => by simp [get] at h
  | (k, x) :: l, id, e, h => by
    simp only [get] at h
    split at h
    · rename_i hk; subst hk; simp only [Option.some.injEq] at h; subst h; simp
    · exact List.mem_cons_of_mem _ (mem_of_get h)

/-! ## places and labels over there -/
def plE (pl : Pls) (E : List (Nat × Ent)) : Pls := fun id q =>
  match get E id with
  | some (.tree r p) => pl r (p ++ q)
  | some (.read r p lo sz) => match q with
    | [] => ⟨(pl r p).nil, (pl r p).b, (pl r p).off + lo * sz, (pl r p).cap - lo, sz⟩
    | (i, c) :: q' => pl r (p ++ (lo + i, c) :: q')
  | some (.nil sz) => ⟨true, 0, 0, 0, sz⟩
  | some (.box r c _) => ⟨false, (pl r []).b, (pl r []).off + c, 0, 1⟩
  | none => default
def hmap : List (Nat × Ent) → Nat × Path → Option (Nat × Path)
  | [], _ => none
  | (id, .tree r p) :: l, x => if x.1 = r ∧ p <+: x.2 then some (id, x.2.drop p.length) else hmap l x
  | (id, .box r c k) :: l, x =>
    match x.2 with
    | [(0, j)] => if x.1 = r ∧ c ≤ j ∧ j < c + k then some (id, [(0, j - c)]) else hmap l x
    | _ => hmap l x
  | _ :: l, x => hmap l x
def handE : List (Nat × Ent) → List Nat
  | [] => []
  | (_, .tree r _) :: l => r :: handE l
  | (_, .box r _ _) :: l => r :: handE l
  | _ :: l => handE l
theorem hmap_out : ∀ {E : List (Nat × Ent)} {x : Nat × Path}, x.1 ∉ handE E → hmap E x = none
  | [], _, _ => rfl
  | (id, e) :: l, x, h => by
    cases e with
    | tree r p =>
      simp only [handE, List.mem_cons, not_or] at h
      simp only [hmap]
      rw [if_neg (fun k => h.1 k.1)]
      exact hmap_out h.2
    | box r c k =>
      simp only [handE, List.mem_cons, not_or] at h
      simp only [hmap]
      split
      · rw [if_neg (fun k => h.1 k.1)]; exact hmap_out h.2
      · exact hmap_out h.2
    | read r p lo sz => simp only [handE] at h; simp only [hmap]; exact hmap_out h
    | nil sz => simp only [handE] at h; simp only [hmap]; exact hmap_out h
theorem mem_handE_tree : ∀ {E : List (Nat × Ent)} {id r : Nat} {p : Path}, (id, Ent.tree r p) ∈ E → r ∈ handE E
  | [], _, _, _, h => by simp at h
  | (k, e) :: l, id, r, p, h => by
    rcases List.mem_cons.1 h with h | h
    · simp only [Prod.mk.injEq] at h; obtain ⟨rfl, rfl⟩ := h; simp [handE]
    · have := mem_handE_tree h
      cases e <;> simp [handE, this]
theorem mem_handE_box : ∀ {E : List (Nat × Ent)} {id r c k : Nat}, (id, Ent.box r c k) ∈ E → r ∈ handE E
  | [], _, _, _, _, h => by simp at h
  | (k, e) :: l, id, r, c, kk, h => by
    rcases List.mem_cons.1 h with h | h
    · simp only [Prod.mk.injEq] at h; obtain ⟨rfl, rfl⟩ := h; simp [handE]
    · have := mem_handE_box h
      cases e <;> simp [handE, this]
theorem hmap_tree : ∀ {E : List (Nat × Ent)} {id r : Nat} {p q : Path}, (handE E).Nodup → (id, Ent.tree r p) ∈ E → hmap E (r, p ++ q) = some (id, q)
  | [], _, _, _, _, _, h => by simp at h
  | (k, e) :: l, id, r, p, q, hn, h => by
    rcases List.mem_cons.1 h with h0 | h1
    · simp only [Prod.mk.injEq] at h0; obtain ⟨rfl, rfl⟩ := h0; simp [hmap]
    · have hm := mem_handE_tree h1
      cases e with
      | tree r' p' =>
        simp only [handE, List.nodup_cons] at hn
        simp only [hmap]
        rw [if_neg (fun k => hn.1 (by rw [← k.1]; exact hm))]
        exact hmap_tree hn.2 h1
      | box r' c k =>
        simp only [handE, List.nodup_cons] at hn
        simp only [hmap]
        split
        · rw [if_neg (fun k => hn.1 (by rw [← k.1]; exact hm))]; exact hmap_tree hn.2 h1
        · exact hmap_tree hn.2 h1
      | read r' p' lo sz => simp only [handE] at hn; simp only [hmap]; exact hmap_tree hn h1
      | nil sz => simp only [handE] at hn; simp only [hmap]; exact hmap_tree hn h1
theorem hmap_box : ∀ {E : List (Nat × Ent)} {id r c k j : Nat}, (handE E).Nodup → (id, Ent.box r c k) ∈ E → j < k → hmap E (r, [(0, c + j)]) = some (id, [(0, j)])
  | [], _, _, _, _, _, _, h, _ => by simp at h
  | (i, e) :: l, id, r, c, k, j, hn, h, hj => by
    rcases List.mem_cons.1 h with h0 | h1
    · simp only [Prod.mk.injEq] at h0; obtain ⟨rfl, rfl⟩ := h0
      simp only [hmap]
      rw [if_pos ⟨by simp, by omega, by omega⟩]
      congr 4; omega
    · have hm := mem_handE_box h1
      cases e with
      | tree r' p' =>
        simp only [handE, List.nodup_cons] at hn
        simp only [hmap]
        rw [if_neg (fun k => hn.1 (by rw [← k.1]; exact hm))]
        exact hmap_box hn.2 h1 hj
      | box r' c' k' =>
        simp only [handE, List.nodup_cons] at hn
        simp only [hmap]
        rw [if_neg (fun k => hn.1 (by rw [← k.1]; exact hm))]
        exact hmap_box hn.2 h1 hj
      | read r' p' lo sz => simp only [handE] at hn; simp only [hmap]; exact hmap_box hn h1 hj
      | nil sz => simp only [handE] at hn; simp only [hmap]; exact hmap_box hn h1 hj
/-- Labels over there. -/
def labE (g : Lab) (E : List (Nat × Ent)) : Lab := fun b o => (g b o).bind (hmap E)
def ownE (g : Lab) (E : List (Nat × Ent)) (b o : Nat) : Prop := (labE g E b o).isSome = true

section
variable {w0 : World} {own0 : Nat → Nat → Prop} {pl0 : Pls} {g : Lab} {pl : Pls} {roots : List (Nat × Root)} {nx nc fix : Nat} {w : World} {E : List (Nat × Ent)}

/-- What is handed on, cell by cell. -/
def Good (pl : Pls) (roots : List (Nat × Root)) (E : List (Nat × Ent)) : M × C × D → Value → Prop
  | (_, _, .lf u), v => v = u ∧ u.oneCell' = true
  | (_, _, .hole), v => v.oneCell' = true
  | (m, c, .sl sz es), v =>
    (c = .nl sz ∧ es = [] ∧ v = .slice none 0 0) ∨
    (∃ r p lo n, c = .rf r p sz lo n ∧ Win (pl r p) sz lo n v ∧
      (((m = .rd ∨ m = .rx) ∧ (lo = 0 ∨ 0 < n) ∧ r ∉ handE E ∧ ∃ l, nodeIn roots r p = some (sz, l) ∧ lo + n ≤ l.length ∧ es = (l.drop lo).take n) ∨
       ((m = .io ∨ m = .ow) ∧ lo = 0 ∧ ∃ sz0 es0, get roots r = some (.tr sz0 es0) ∧ nodeAt sz0 es0 p = some (sz, es) ∧ n = es.length)))

theorem enter_tree (h : Hp w0 own0 pl0 g pl roots nx nc fix w) (hn : (Ids E).Nodup) (hh : (handE E).Nodup) {id r : Nat} {p : Path} (hE : (id, Ent.tree r p) ∈ E) {sz0 : Nat} {es0 : List (List D)} (hr : get roots r = some (.tr sz0 es0)) {sz : Nat} {es : List (List D)} (hp : nodeAt sz0 es0 p = some (sz, es)) (st : Nat → Nat → Prop) (nx' : Nat) :
    RootOk st w (labE g E) (plE pl E) nx' id (.tr sz es) := by
  have hg := get_of_mem hn hE
  have hpl : ∀ q, plE pl E id q = pl r (p ++ q) := fun q => by unfold plE; rw [hg]
  intro q m hq
  obtain ⟨a, b⟩ := (h.roots r _ hr).2 (p ++ q) m (by rw [nodeAt_append, hp]; exact hq)
  refine ⟨a.move (hpl q) (fun i c _ _ _ _ => by rw [hpl, List.append_assoc]) fun _ _ => rfl, b.move (hpl q) fun b o hb => ⟨?_, fun z => z, rfl⟩⟩
  unfold labE
  rw [hb]
  exact hmap_tree hh hE
theorem enter_nil {id sz : Nat} (hn : (Ids E).Nodup) (hE : (id, Ent.nil sz) ∈ E) {sz' : Nat} (hs : sz' = sz) (w : World) (g' : Lab) (st : Nat → Nat → Prop) (nx' : Nat) : RootOk st w g' (plE pl E) nx' id (.tr sz' []) ∧ RootOk st w g' (plE pl E) nx' id (.im sz' []) := by
  subst hs
  have hg := get_of_mem hn hE
  have hpl : ∀ q, plE pl E id q = ⟨true, 0, 0, 0, sz'⟩ := fun q => by unfold plE; rw [hg]
  have hnode : ∀ q m, nodeAt sz' [] q = some m → q = [] ∧ m = (sz', []) := by
    intro q m hq
    cases q with
    | nil => simp only [nodeAt, Option.some.injEq] at hq; exact ⟨rfl, hq.symm⟩
    | cons a q => obtain ⟨i, c⟩ := a; simp [nodeAt] at hq
  constructor
  · intro q m hq
    obtain ⟨rfl, rfl⟩ := hnode q m hq
    exact ⟨⟨by rw [hpl], by rw [hpl]; simp, by rw [hpl]; simp, by simp, by simp⟩, fun j hj => by rw [hpl] at hj; simp at hj⟩
  · intro q m hq
    obtain ⟨rfl, rfl⟩ := hnode q m hq
    exact ⟨⟨by rw [hpl], by rw [hpl]; simp, by rw [hpl]; simp, by simp, by simp⟩, fun j hj => by simp at hj⟩
theorem stable_enter (h : Hp w0 own0 pl0 g pl roots nx nc fix w) {r : Nat} (hr : r ∉ handE E) {p : Path} {n : Nat × List (List D)} (hn : nodeIn roots r p = some n) {j : Nat} (hj : j < n.2.length * n.1) :
    stable w (ownE g E) (pl r p).b ((pl r p).off + j) := by
  obtain ⟨_, hc⟩ := h.node hn
  have hsz : 0 < n.1 := by
    rcases Nat.eq_zero_or_pos n.1 with h0 | h0
    · rw [h0] at hj; simp at hj
    · exact h0
  have hi : j / n.1 < n.2.length := Nat.div_lt_of_lt_mul (by rw [Nat.mul_comm]; exact hj)
  have hcs : j % n.1 < n.1 := Nat.mod_lt _ hsz
  have hdm : j / n.1 * n.1 + j % n.1 = j := by rw [Nat.mul_comm]; exact Nat.div_add_mod _ _
  have he := List.getElem?_eq_getElem hi
  have hel := hc.szs _ (List.mem_of_getElem? he)
  have hd := List.getElem?_eq_getElem (show j % n.1 < (n.2[j / n.1]).length by omega)
  obtain ⟨v, hv, _⟩ := hc.cells _ _ _ _ he hd
  rw [hdm] at hv
  refine ⟨World.block_lt_of_cell? _ _ hv, ?_⟩
  unfold ownE labE
  unfold nodeIn at hn
  split at hn
  · rename_i sz es hg
    obtain ⟨a, b⟩ := (h.roots r _ hg).2 p n hn
    have := b.lab a (j := j) (by have := Nat.mul_le_mul_right n.1 hc.le; omega)
    rw [this, Option.bind_some, hmap_out hr]
    simp
  · rename_i sz es hg
    obtain ⟨a, b⟩ := (h.roots r _ hg).2 p n hn
    have hst := b j (by rw [hc.szp]; exact hj)
    cases hlab : g (pl r p).b ((pl r p).off + j) with
    | none => simp
    | some x =>
      exfalso
      rcases (h.lab _ _ _ hlab).2.1 with k | k
      · have := hst.1; omega
      · exact hst.2 k
  · simp at hn
theorem enter_read (h : Hp w0 own0 pl0 g pl roots nx nc fix w) (hn : (Ids E).Nodup) {id r : Nat} {p : Path} {lo sz : Nat} (hE : (id, Ent.read r p lo sz) ∈ E) (hr : r ∉ handE E) {l : List (List D)} (hl : nodeIn roots r p = some (sz, l)) {n : Nat} (hlm : lo + n ≤ l.length) (g' : Lab) (nx' : Nat) :
    RootOk (stable w (ownE g E)) w g' (plE pl E) nx' id (.im sz ((l.drop lo).take n)) := by
  have hg := get_of_mem hn hE
  have hp0 : plE pl E id [] = ⟨(pl r p).nil, (pl r p).b, (pl r p).off + lo * sz, (pl r p).cap - lo, sz⟩ := by unfold plE; rw [hg]
  have hp1 : ∀ i c q, plE pl E id ((i, c) :: q) = pl r (p ++ (lo + i, c) :: q) := fun i c q => by unfold plE; rw [hg]
  obtain ⟨_, hc⟩ := h.node hl
  have hszp := hc.szp
  intro q m hq
  cases q with
  | nil =>
    simp only [nodeAt, Option.some.injEq] at hq; subst hq
    refine ⟨⟨by rw [hp0], by rw [hp0]; have := hc.le; simp; simp only at this; omega, by rw [hp0]; intro hnil; have := hc.nil hnil; simp only; omega, fun e he => hc.szs e (List.mem_of_mem_drop (List.mem_of_mem_take he)), ?_⟩, ?_⟩
    · intro i e c d he hd
      have he' := get_drop_take rfl _ _ he
      obtain ⟨v, hv, hdv⟩ := hc.cells _ e c d he' hd
      rw [hp0, List.nil_append, hp1]
      refine ⟨v, ?_, hdv⟩
      simp only
      rw [show (pl r p).off + lo * sz + (i * sz + c) = (pl r p).off + ((lo + i) * sz + c) by rw [Nat.add_mul]; omega]
      exact hv
    · intro j hj
      rw [hp0] at hj ⊢
      simp only at hj ⊢
      rw [Nat.add_assoc]
      have hlen : ((l.drop lo).take n).length = n := by simp; omega
      rw [hlen] at hj
      refine stable_enter h hr hl ?_
      simp only
      have := Nat.mul_le_mul_right sz hlm
      rw [Nat.add_mul] at this
      omega
  | cons a q =>
    obtain ⟨i, c⟩ := a
    have hq' : nodeIn roots r (p ++ (lo + i, c) :: q) = some m := by
      have hnode : nodeAt sz l ((lo + i, c) :: q) = some m := by
        unfold nodeAt at hq ⊢
        by_cases hi : i < n
        · rw [List.getElem?_take, if_pos hi, List.getElem?_drop] at hq; exact hq
        · rw [List.getElem?_take, if_neg hi] at hq; simp at hq
      unfold nodeIn at hl ⊢
      cases hg2 : get roots r with
      | none => rw [hg2] at hl; simp at hl
      | some R =>
        rw [hg2] at hl
        cases R with
        | tr s2 e2 => simp only at hl ⊢; rw [nodeAt_append, hl]; exact hnode
        | im s2 e2 => simp only at hl ⊢; rw [nodeAt_append, hl]; exact hnode
        | bx c2 => simp at hl
        | ib c2 => simp at hl
    obtain ⟨_, a⟩ := h.node hq'
    refine ⟨a.move (hp1 i c q) (fun j k _ _ _ _ => by rw [List.cons_append, hp1]; simp) fun _ _ => rfl, ?_⟩
    intro j hj
    rw [hp1] at hj ⊢
    exact stable_enter h hr hq' (by rw [a.szp] at hj; exact hj)
theorem CR_enter_tree (hn : (Ids E).Nodup) {id r : Nat} {p : Path} (hE : (id, Ent.tree r p) ∈ E) {sz n : Nat} {v : Value} (hw : Win (pl r p) sz 0 n v) {N : Nat} (hN : id < N) : CR (plE pl E) N (.rf id [] sz 0 n) v := by
  have hg := get_of_mem hn hE
  refine ⟨hN, ?_⟩
  rw [show plE pl E id [] = pl r (p ++ []) by unfold plE; rw [hg], List.append_nil]
  exact hw
theorem CR_enter_read (hn : (Ids E).Nodup) {id r : Nat} {p : Path} {lo sz : Nat} (hE : (id, Ent.read r p lo sz) ∈ E) {n : Nat} {v : Value} (hw : Win (pl r p) sz lo n v) (hl : lo = 0 ∨ 0 < n) {N : Nat} (hN : id < N) : CR (plE pl E) N (.rf id [] sz 0 n) v := by
  have hg := get_of_mem hn hE
  refine ⟨hN, ?_⟩
  rw [show plE pl E id [] = ⟨(pl r p).nil, (pl r p).b, (pl r p).off + lo * sz, (pl r p).cap - lo, sz⟩ by unfold plE; rw [hg]]
  obtain ⟨h1, h2, h3, A, rfl, h4⟩ := hw
  refine ⟨rfl, fun hnil => ?_, by simp only; omega, A, rfl, fun _ => ?_⟩
  · have := h2 hnil; simp only; omega
  · rw [h4 (by omega), h1]; simp
theorem CR_enter_nil (hn : (Ids E).Nodup) {id sz : Nat} (hE : (id, Ent.nil sz) ∈ E) {N : Nat} (hN : id < N) : CR (plE pl E) N (.rf id [] sz 0 0) (.slice none 0 0) := by
  have hg := get_of_mem hn hE
  refine ⟨hN, ?_⟩
  rw [show plE pl E id [] = ⟨true, 0, 0, 0, sz⟩ by unfold plE; rw [hg]]
  exact ⟨rfl, fun _ => rfl, Nat.le_refl _, none, rfl, fun _ => rfl⟩

/-- One cell that is handed on. -/
theorem enter_cell (h : Hp w0 own0 pl0 g pl roots nx nc fix w) (hn : (Ids E).Nodup) (hh : (handE E).Nodup) {m : M} {c : C} {d : D} {u : Value} (hg : Good pl roots E (m, c, d) u) {k : Kk} {N : Nat} (hE : ∀ x ∈ (enC m c d k).1, x ∈ E) (h1 : (inC m d k).2.2.1 ≤ N) (h2 : (inC m d k).2.2.2 ≤ N) :
    CR (plE pl E) N (inC m d k).1 u ∧ ∀ y ∈ (inC m d k).2.1, y.1 < N ∧ RootOk (stable w (ownE g E)) w (labE g E) (plE pl E) N y.1 y.2 := by
  cases d with
  | lf v => exact ⟨hg, by simp [inC]⟩
  | hole => exact ⟨hg, by simp [inC]⟩
  | sl sz es =>
    rcases hg with ⟨rfl, rfl, rfl⟩ | ⟨r, p, lo, n, rfl, hw, hgg⟩
    · cases m with
      | io =>
        simp only [inC] at h1 h2 ⊢
        have hE' := hE (k.1, .nil sz) (by simp [enC, srcT])
        exact ⟨CR_enter_nil hn hE' (by omega), by simp only [List.mem_singleton, forall_eq]; exact ⟨by omega, (enter_nil hn hE' rfl w _ _ _).1⟩⟩
      | ow =>
        simp only [inC] at h1 h2 ⊢
        have hE' := hE (k.2, .nil sz) (by simp [enC, srcT])
        exact ⟨CR_enter_nil hn hE' (by omega), by simp only [List.mem_singleton, forall_eq]; exact ⟨by omega, (enter_nil hn hE' rfl w _ _ _).1⟩⟩
      | rd =>
        simp only [inC] at h1 h2 ⊢
        have hE' := hE (k.2, .nil sz) (by simp [enC, srcR])
        exact ⟨CR_enter_nil hn hE' (by omega), by simp only [List.mem_singleton, forall_eq]; exact ⟨by omega, (enter_nil hn hE' rfl w _ _ _).2⟩⟩
      | rx =>
        simp only [inC] at h1 h2 ⊢
        have hE' := hE (k.1, .nil sz) (by simp [enC, srcR])
        exact ⟨CR_enter_nil hn hE' (by omega), by simp only [List.mem_singleton, forall_eq]; exact ⟨by omega, (enter_nil hn hE' rfl w _ _ _).2⟩⟩
    · have rdr : ∀ id, (id, Ent.read r p lo sz) ∈ E → (lo = 0 ∨ 0 < n) → r ∉ handE E → (∃ l, nodeIn roots r p = some (sz, l) ∧ lo + n ≤ l.length ∧ es = (l.drop lo).take n) → id < N →
          CR (plE pl E) N (.rf id [] sz 0 es.length) u ∧ RootOk (stable w (ownE g E)) w (labE g E) (plE pl E) N id (.im sz es) := by
        rintro id hid hlo hr ⟨l, hl, hlm, rfl⟩ hN
        have : ((l.drop lo).take n).length = n := by simp; omega
        rw [this]
        exact ⟨CR_enter_read hn hid hw hlo hN, enter_read h hn hid hr hl hlm _ _⟩
      have trr : ∀ id, (id, Ent.tree r p) ∈ E → lo = 0 → (∃ sz0 es0, get roots r = some (.tr sz0 es0) ∧ nodeAt sz0 es0 p = some (sz, es) ∧ n = es.length) → id < N →
          CR (plE pl E) N (.rf id [] sz 0 es.length) u ∧ RootOk (stable w (ownE g E)) w (labE g E) (plE pl E) N id (.tr sz es) := by
        rintro id hid rfl ⟨sz0, es0, hr, hp, rfl⟩ hN
        exact ⟨CR_enter_tree hn hid hw hN, enter_tree h hn hh hid hr hp _ _⟩
      cases m with
      | io =>
        simp only [inC] at h1 h2 ⊢
        rcases hgg with ⟨hm, _⟩ | ⟨_, hlo, hx⟩
        · simp at hm
        have hE' := hE (k.1, .tree r p) (by simp [enC, srcT])
        have := trr _ hE' hlo hx (by omega)
        exact ⟨this.1, by simp only [List.mem_singleton, forall_eq]; exact ⟨by omega, this.2⟩⟩
      | ow =>
        simp only [inC] at h1 h2 ⊢
        rcases hgg with ⟨hm, _⟩ | ⟨_, hlo, hx⟩
        · simp at hm
        have hE' := hE (k.2, .tree r p) (by simp [enC, srcT])
        have := trr _ hE' hlo hx (by omega)
        exact ⟨this.1, by simp only [List.mem_singleton, forall_eq]; exact ⟨by omega, this.2⟩⟩
      | rd =>
        simp only [inC] at h1 h2 ⊢
        rcases hgg with ⟨_, hlo, hr, hx⟩ | ⟨hm, _⟩
        · have hE' := hE (k.2, .read r p lo sz) (by simp [enC, srcR])
          have := rdr _ hE' hlo hr hx (by omega)
          exact ⟨this.1, by simp only [List.mem_singleton, forall_eq]; exact ⟨by omega, this.2⟩⟩
        · simp at hm
      | rx =>
        simp only [inC] at h1 h2 ⊢
        rcases hgg with ⟨_, hlo, hr, hx⟩ | ⟨hm, _⟩
        · have hE' := hE (k.1, .read r p lo sz) (by simp [enC, srcR])
          have := rdr _ hE' hlo hr hx (by omega)
          exact ⟨this.1, by simp only [List.mem_singleton, forall_eq]; exact ⟨by omega, this.2⟩⟩
        · simp at hm
theorem enter_cells (h : Hp w0 own0 pl0 g pl roots nx nc fix w) (hn : (Ids E).Nodup) (hh : (handE E).Nodup) {N : Nat} : ∀ (fl : List (M × C × D)) (us : List Value) (k : Kk), All2 (Good pl roots E) fl us → (∀ x ∈ (enCs fl k).1, x ∈ E) → (inCs (fl.map md) k).2.2.1 ≤ N → (inCs (fl.map md) k).2.2.2 ≤ N →
    All2 (CR (plE pl E) N) (inCs (fl.map md) k).1 us ∧ ∀ y ∈ (inCs (fl.map md) k).2.1, y.1 < N ∧ RootOk (stable w (ownE g E)) w (labE g E) (plE pl E) N y.1 y.2
  | [], [], k, _, _, _, _ => ⟨trivial, by simp [inCs]⟩
  | [], _ :: _, _, hg, _, _, _ => hg.elim
  | _ :: _, [], _, hg, _, _, _ => hg.elim
  | (m, c, d) :: fl, u :: us, k, hg, hE, h1, h2 => by
    simp only [List.map_cons, md, inCs] at h1 h2 ⊢
    have u2 := inCs_up (fl.map md) (inC m d k).2.2
    simp only [enCs, List.mem_append] at hE
    have e1 := enter_cell h hn hh hg.1 (fun x hx => hE x (.inl hx)) (N := N) (by omega) (by omega)
    have e2 := enter_cells h hn hh fl us (inC m d k).2.2 hg.2 (fun x hx => hE x (.inr (by rw [enC_k]; exact hx))) h1 h2
    refine ⟨⟨e1.1, e2.1⟩, fun y hy => ?_⟩
    rcases List.mem_append.1 hy with hy | hy
    · exact e1.2 y hy
    · exact e2.2 y hy
/-- A variable that is handed by its address. -/
theorem enter_box (h : Hp w0 own0 pl0 g pl roots nx nc fix w) (hn : (Ids E).Nodup) (hh : (handE E).Nodup) {id r c k : Nat} (hE : (id, Ent.box r c k) ∈ E) {cs : List C} (hr : get roots r = some (.bx cs)) (hc : c + k ≤ cs.length) {ys : List C} {us : List Value} {N : Nat} (hys : All2 (CR (plE pl E) N) ys us) (hk : ys.length = k)
    (hus : ∀ j u, us[j]? = some u → w.cell? ⟨(pl r []).b, (pl r []).off + (c + j), none⟩ = some u) (st : Nat → Nat → Prop) :
    RootOk st w (labE g E) (plE pl E) N id (.bx ys) := by
  have hg := get_of_mem hn hE
  intro j x hx
  obtain ⟨u, hu, hcr⟩ := hys.get j x hx
  have hj : j < k := by rw [← hk]; exact (List.getElem?_eq_some_iff.1 hx).1
  obtain ⟨v, h1, _, h3, h4⟩ := (h.roots r _ hr).2 (c + j) _ (List.getElem?_eq_getElem (by omega))
  rw [show plE pl E id [] = ⟨false, (pl r []).b, (pl r []).off + c, 0, 1⟩ by unfold plE; rw [hg]]
  simp only [Nat.add_assoc]
  refine ⟨u, hus j u hu, hcr, ?_, h4⟩
  unfold labE
  rw [h3]
  exact hmap_box hh hE hj
end
end Go.Vs
