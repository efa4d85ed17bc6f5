import Derived.Test.YtmfmjngkbddenaaGreatDoorVsQto
set_option linter.all false
namespace Go.Vs
noncomputable section
theorem Yqi {b : List UInt8} {s : Cs} (m : Int) (hm : 0 ≤ m ∧ m ≤ 100) (hb : B20 b) (hs : 0 ≤ s.1) : ∃ (t : Bw) (s' : Cs), Zdc ((b, s), m) = some (t, s') ∧ HoldS t ∧ t.2.2.1 ≤ 101 ∧ 0 ≤ s'.1 := by
  rw [Zdc, Yt1, Aa];obtain ⟨f1, f2⟩ := Yj5;generalize Vz = f at f1 f2;simp only;rw [Cz (by omega) (by omega)];obtain ⟨v, s1, e1, b1, _, k1⟩ := I1 (s := s) (m + 1) hb hs;have b1 := b1 (by omega);rw [e1, Aa];obtain ⟨o, q1, t, c, rfl, q2, q3, q4⟩ := M7 (step := Zd6 ((b, s), m)) (fun n z => ∃ (t : Bw) (c : Cs), z = (c.1, (c.2, (t.1.1, (t.1.2.1, (t.1.2.2.1, (t.1.2.2.2, (t.2.1.1, (t.2.1.2.1, (t.2.1.2.2, (t.2.2.1, (t.2.2.2, ((v : Int) - (n : Int)))))))))))))
 ∧ HoldS t ∧ t.2.2.1 ≤ 1 + (n : Int) ∧ 0 ≤ c.1) v (fun o => ∃ (t : Bw) (c : Cs), o = .inl (c.1, (c.2, (t.1.1, (t.1.2.1, (t.1.2.2.1, (t.1.2.2.2, (t.2.1.1, (t.2.1.2.1, (t.2.1.2.2, t.2.2))))))))) ∧ HoldS t ∧ t.2.2.1 ≤ 1 + (v : Int) ∧ 0 ≤ c.1)
    (fun n z hn hz => by
      obtain ⟨t, c, rfl, ht, hu, hc⟩ := hz;rw [Zd6];simp only;rw [Dq (by omega), Ad];obtain ⟨r, c2, e2, r1, r2, k2⟩ := Zxi (s := c) hb hc;rw [show U5 (b, (c.1, c.2)) = _ from e2, Aa];have ea := Yup (s := t) (r := r) (Zhp (Qw ht)) (r1.mono (by omega)) (T2 (Qw ht)) ht.up.1;obtain ⟨a1, a2, _, _⟩ := Yeg (r := r) ht (by omega);rw [show Yu (((t.1.1, (t.1.2.1, (t.1.2.2.1, t.1.2.2.2))), ((t.2.1.1, (t.2.1.2.1, t.2.1.2.2)), (t.2.2.1, t.2.2.2))), r) = _ from ea, Aa, Ei (by omega) (by omega), show ((v : Int) - (n : Int)) - 1 = (v : Int) - ((n + 1 : Nat) : Int) by omega];exact .inl ⟨_, rfl, (Gr t r).1, c2, rfl, a1, by omega, k2⟩)
    (fun z hz => by
      obtain ⟨t, c, rfl, ht, hu, hc⟩ := hz;rw [Zd6];simp only;rw [Eb (by omega), Ac];exact ⟨_, rfl, t, c, rfl, ht, hu, hc⟩)
    (s1.1, (s1.2, (f.1.1, (f.1.2.1, (f.1.2.2.1, (f.1.2.2.2, (f.2.1.1, (f.2.1.2.1, (f.2.1.2.2, (f.2.2.1, (f.2.2.2, (v : Int)))))))))))) ⟨f, s1, by simp, f1, by omega, k1⟩
  simp only [q1, Ar];exact ⟨t, c, rfl, q2, by omega, q4⟩
theorem Yd8 {x:List UInt8}(hx:B20 x):∃(t:Bw) (r:Rec) (k:Int),Zc2 x=some (t,(r,k))/\HoldS t/\t.2.2.1<=101/\smC 100 r:=by
 rw[Zc2];obtain⟨h,e0⟩:=Yqj hx;obtain⟨v,s0,ev,hv,k0⟩:=Wh (b:=x) (s:=(0,h)) [8,8,36] hx (by simp) (by simp);have hv:0<=v/\v<=100:=by
  simp only[Kh,Ktg,or_false]at hv;omega
 obtain⟨t,s1,e1,t1,tg,k1⟩:=Yqi (b:=x) (s:=s0) v hv hx k0;obtain⟨r,s3,e3,r3,_,k3⟩:=Zxi (s:=s1) hx k1;obtain⟨v4,s4,e4,_,_,k4⟩:=I1 (s:=s3) 256 hx k3;rw[e0,Aa,ev,Aa,e1,Aa];simp only[e3,e4,Aa];exact⟨_,_,_,rfl,t1,tg,r3⟩
end
end Go.Vs
