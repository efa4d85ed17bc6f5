import Derived.Test.YteaoaehkkcbmbaaGreatDoorVsQva
set_option linter.all false
namespace Go.Vs
noncomputable section
def Pj{t:B9}(h:Dw t=true):EU 100 t:=by
 obtain⟨c,d,e,f,g,j⟩:=cb h;exact⟨by omega,λr b=>by obtain⟨i,a,rfl⟩:=MI b;exact bL (fT c a),by omega⟩
def ek{t:B9}{r:Bo}(h:Dw t=true):Dw (Hi t r).1=true:=by
 unfold Hi;split
 .rename_i a;simp only[A6]at a;exact a.2.2
 exact h
def Zi9{b : List UInt8}{s : Cs}(m : Int)(C : 0 ≤ m ∧ m ≤ 100)(h : DD b)(q : 0 ≤ s.1) : ∃ (t : B9) (i : Cs), XS ((b, s), m) = some (t, i) ∧ Dw t = true ∧ 0 ≤ i.1 := by
  rw[XS];simp only;rw[CS (by omega) (by omega)];obtain ⟨v, f, k, g, _, u⟩ := Dl (s := s) (m + 1) h q;have g := g (by omega);rw[k, Ad];obtain ⟨o, x, t, c, rfl, y, A⟩ := IO (step := YS ((b, s), m)) (λn z => ∃ (t : B9) (c : Cs), z = (c.1, (c.2, (t.1, (t.2.1, (t.2.2, ((v : Int) - (n : Int))))))) ∧ Dw t = true ∧ 0 ≤ c.1) v (λo => ∃ (t : B9) (c : Cs), o = .inl (c.1, (c.2, (t.1, (t.2.1, t.2.2)))) ∧ Dw t = true ∧ 0 ≤ c.1)
    (fun n z D e => by
      obtain ⟨t, c, rfl, a, d⟩ := e;rw[YS];simp only;rw[D4 (by omega), Ah];obtain ⟨r, j, l, B, E, w⟩ := VS (s := c) h d;rw[show L0 (b, (c.1, c.2)) = _ from l, Ad];have p := kT (t := t) (r := r) ((Pj a).mono (by omega)) (B.mono (by omega));rw[show P5 ((t.1, (t.2.1, t.2.2)), r) = _ from p, Ad, E8 (by omega) (by omega), show ((v : Int) - (n : Int)) - 1 = (v : Int) - ((n + 1 : Nat) : Int) by omega];exact .inl ⟨_, rfl, (Hi t r).1, j, rfl, ek a, w⟩)
    (fun z e => by
      obtain ⟨t, c, rfl, a, d⟩ := e;rw[YS];simp only;rw[Ee (by omega), Ag];exact ⟨_, rfl, t, c, rfl, a, d⟩)
    (f.1, (f.2, ([], (0, ([], (v : Int)))))) ⟨([], 0, []), f, by simp, rfl, u⟩
  simp only[x, A4];exact ⟨t, c, rfl, y, A⟩
def Zi8{b : List UInt8}{s : Cs}(m : Int)(K : 0 ≤ m ∧ m ≤ 100)(c : DD b)(L : 0 ≤ s.1) : ∃ (t : B9) (E : Cs), XQ ((b, s), m) = some (t, E) ∧ EU 1000 t ∧ 0 ≤ E.1 := by
  rw[XQ];obtain ⟨t, F, G, T, M⟩ := Zi9 (s := s) m K c L;obtain ⟨Y, h, Z⟩ := Pj T;rw[G, Ad];simp only;obtain ⟨i, d, H, _, _, f⟩ := Dl (s := F) 10 c M;simp only[H, Ad, Eu];by_cases y : (i : Int) = 0
  · rw[AF y, Ah]
    obtain ⟨r, q, e, k, g⟩ := rY (s := d) c f;rw[e, Ad, B8 (by omega), AY, A4];refine ⟨_, _, rfl, ⟨by simp[Ax]; omega, λx a => ?_, by simp only; omega⟩, g⟩;rcases C7.1 a with a | a
    · exact (h x a).mono (by omega)
    rw[Db] at a; subst a; exact k.mono (by omega)
  rw[AG y, Ag];by_cases A : (i : Int) = 1
  · rw[AF A, Ah]
    obtain ⟨v, q, e, k, g⟩ := F6 (s := d) [(-1), 7, 8] c f (by simp);rw[e, Ad, A4];exact ⟨_, _, rfl, ⟨by simp only; omega, λx a => (h x a).mono (by omega), by simp only; omega⟩, g⟩
  rw[AG A, Ag];by_cases B : (i : Int) = 2
  · rw[AF B, Ah]
    obtain ⟨v, q, e, k, g⟩ := F6 (s := d) [0, 1, 9, 10] c f (by simp);obtain ⟨w, S, I, N⟩ := rU (s := q) c g;obtain ⟨u, X, J, U, O⟩ := F6 (s := S) [0, 6, 7] c N (by simp);have R : Bk (t.2.2.length + 1) 24 = true := B8 (by omega);simp only[e, I, J, Ad, R, AY, MQ, A4];exact ⟨_, _, rfl, ⟨by simp only; omega, λx a => (h x a).mono (by omega), by simp[Ax]; omega⟩, O⟩
  rw[AG B, Ag];by_cases C : (i : Int) = 3
  · rw[AF C, Ah]
    obtain ⟨o, P, l, rfl, W, Q⟩ := IO (step := YR (t, F) ((i : Int), d)) (λn z => ∃ l : List A8, z = (l, (n : Int)) ∧ l.length ≤ 100 + n ∧ ∀ x ∈ l, Fz 100 x) 7 (λo => ∃ l : List A8, o = .inl (d.1, (d.2, (l, t.2))) ∧ l.length ≤ 107 ∧ ∀ x ∈ l, Fz 100 x)
      (fun n z V p => by
        obtain ⟨l, rfl, D, j⟩ := p;rw[YR];simp only;rw[Bw (by omega), Ah, Znt (by simp), AY, B8 (by omega), AY, CX (by omega)];refine .inl ⟨_, rfl, _, rfl, by simp[Ax]; omega, λx a => ?_⟩;rcases C7.1 a with a | a
        · exact j x a
        · rw[Db] at a; subst a; exact ⟨by simp[Ax], by simp, by simp⟩)
      (fun z p => by
        obtain ⟨l, rfl, D, j⟩ := p;rw[YR];simp only;rw[B1 (by omega), Ag];exact ⟨_, rfl, l, rfl, D, j⟩)
      (t.1, 0) ⟨t.1, rfl, by omega, h⟩
    rw[P, A4];exact ⟨_, _, rfl, ⟨by simp only; omega, λx a => (Q x a).mono (by omega), by simp only; omega⟩, f⟩
  rw[AG C, Ag, A4];exact ⟨_, _, rfl, ⟨by simp only; omega, λx a => (h x a).mono (by omega), by simp only; omega⟩, f⟩
end
end Go.Vs
