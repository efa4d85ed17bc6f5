import Derived.Test.YtmfmjngkbddenaaGreatDoorVsW5
import Derived.Test.YtmfmjngkbddenaaGreatDoorVsQto
set_option linter.all false
namespace Go.Vs
noncomputable section
theorem Yp0 {b : List UInt8} {s : Cs} (m : Int) (hm : 0 ≤ m ∧ m ≤ 100) (hb : B20 b) (hs : 0 ≤ s.1) : ∃ (t : Bv) (s' : Cs), Zc3 ((b, s), m) = some (t, s') ∧ HoldS t ∧ t.2.2.1 ≤ 101 ∧ 0 ≤ s'.1 := by
  rw [Zc3, Ytk, Aa];obtain ⟨f1, f2⟩ := Yjo;generalize Vo = f at f1 f2;simp only;rw [C0 (by omega) (by omega)];obtain ⟨v, s1, e1, b1, _, k1⟩ := Iy (s := s) (m + 1) hb hs;have b1 := b1 (by omega);rw [e1, Aa];obtain ⟨o, q1, t, c, rfl, q2, q3, q4⟩ := M5 (step := Zdx ((b, s), m)) (fun n z => ∃ (t : Bv) (c : Cs), z = (c.1, (c.2, (t.1.1, (t.1.2.1, (t.1.2.2.1, (t.1.2.2.2, (t.2.1.1, (t.2.1.2.1, (t.2.1.2.2, (t.2.2.1, (t.2.2.2, ((v : Int) - (n : Int)))))))))))))
 ∧ HoldS t ∧ t.2.2.1 ≤ 1 + (n : Int) ∧ 0 ≤ c.1) v (fun o => ∃ (t : Bv) (c : Cs), o = .inl (c.1, (c.2, (t.1.1, (t.1.2.1, (t.1.2.2.1, (t.1.2.2.2, (t.2.1.1, (t.2.1.2.1, (t.2.1.2.2, t.2.2))))))))) ∧ HoldS t ∧ t.2.2.1 ≤ 1 + (v : Int) ∧ 0 ≤ c.1)
    (fun n z hn hz => by
      obtain ⟨t, c, rfl, ht, hu, hc⟩ := hz;rw [Zdx];simp only;rw [Dl (by omega), Ad];obtain ⟨r, c2, e2, r1, r2, k2⟩ := Zw6 (s := c) hb hc;rw [show Uv (b, (c.1, c.2)) = _ from e2, Aa];have ea := Yt8 (s := t) (r := r) (Za6 (Jo ht)) (r1.mono (by omega)) (Tn (Jo ht)) ht.up.1;obtain ⟨a1, a2, _, _⟩ := Zrm (r := r) ht (by omega);rw [show Yi (((t.1.1, (t.1.2.1, (t.1.2.2.1, t.1.2.2.2))), ((t.2.1.1, (t.2.1.2.1, t.2.1.2.2)), (t.2.2.1, t.2.2.2))), r) = _ from ea, Aa, Eh (by omega) (by omega), show ((v : Int) - (n : Int)) - 1 = (v : Int) - ((n + 1 : Nat) : Int) by omega];exact .inl ⟨_, rfl, (J5 t r).1, c2, rfl, a1, by omega, k2⟩)
    (fun z hz => by
      obtain ⟨t, c, rfl, ht, hu, hc⟩ := hz;rw [Zdx];simp only;rw [D7 (by omega), Ac];exact ⟨_, rfl, t, c, rfl, ht, hu, hc⟩)
    (s1.1, (s1.2, (f.1.1, (f.1.2.1, (f.1.2.2.1, (f.1.2.2.2, (f.2.1.1, (f.2.1.2.1, (f.2.1.2.2, (f.2.2.1, (f.2.2.2, (v : Int)))))))))))) ⟨f, s1, by simp, f1, by omega, k1⟩
  simp only [q1, Ar];exact ⟨t, c, rfl, q2, by omega, q4⟩
theorem Ydu {x:List UInt8}(hx:B20 x):∃(t:Bv) (r:Rec) (k:Int),Zct x=some (t,(r,k))/\HoldS t/\t.2.2.1<=101/\smC 100 r:=by
 rw[Zct];obtain⟨h,e0⟩:=Yp1 hx;obtain⟨v,s0,ev,hv,k0⟩:=V7 (b:=x) (s:=(0,h)) [8,8,36] hx (by simp) (by simp);have hv:0<=v/\v<=100:=by
  simp only[Kh,Ksg,or_false]at hv;omega
 obtain⟨t,s1,e1,t1,tg,k1⟩:=Yp0 (b:=x) (s:=s0) v hv hx k0;obtain⟨r,s3,e3,r3,_,k3⟩:=Zw6 (s:=s1) hx k1;obtain⟨v4,s4,e4,_,_,k4⟩:=Iy (s:=s3) 256 hx k3;rw[e0,Aa,ev,Aa,e1,Aa];simp only[e3,e4,Aa];exact⟨_,_,_,rfl,t1,tg,r3⟩
theorem Yqe (x:List UInt8):Ziy x=some true:=by
 rw[Ziy];by_cases hx:x.length<=1048576
 case neg=>rw[Yem (by omega),Aa,Ad]
 obtain⟨s,r,k,e1,H,hg,hr⟩:=Ydu hx;have hr:=hr.mono (show 100<=1048576 by omega);obtain⟨a1,a2,a3,a4⟩:=Zrm (r:=r) H (by omega);obtain⟨b1,b2,b3,b4⟩:=Zga H (by omega);obtain⟨c1,c2,c3,c4⟩:=Zga a1 (by omega);obtain⟨d1,d2,d3,d4⟩:=Zga b1 (by omega);have sm:=Za6 (Jo H);have sx:=Za6 (Jo a1);have sl:=Za6 (Jo b1);have sy:=Za6 (Jo c1);have hA:=Yoq sm hr;have hP:=Zmj sm.2 hr;have hL:=Zml sm;have hF:=Zwh (n:=k) (T1 sx.1);rw[Zv1 a1]at hF;have hO:=Zwk sx.1;rw[Zv2 a1]at hO;have hG:=Zwh (n:=0) (T1 sl.1);rw[Zv1 b1]at hG;have hQ:=Zwk sl.1;rw[Zv2 b1]at hQ;have hR:=Zwm (g:=(J5 s r).1.2.2.1) (T1 sx.1);rw[Yoh a1]at hR;have o1:=V0 sm;rw[Tn (Jo H)]at o1;have o2:=V0 sx;rw[Tn (Jo a1)]at o2;have o3:=V0 sy;rw[Tn (Jo c1)]at o3;have same:∀t:Tab,smT 1048576 t->Et (t,t)=some true:=fun t h=>by rw[Yqb h h,Yug]
 have m1:=same _ sm.2;have m2:=same _ sx.2;have ap:(Da s.2.1 r).2=false->(Da s.2.1 r).1=s.2.1:=by
  intro h;unfold Da at h ⊢;split
  ·rename_i hc;rw[if_pos hc]at h;cases h
  ·rfl
 rw[Yel hx,Aa,Ac,e1,Aa];simp only[hA,hP,hL,hF,hO,hG,hQ,hR,o1,o2,Aa,Au,Ac,a3,Yef,c2,d2,b2,b3,C0 (show -9223372036854775808<=s.2.2.1+1 by have:=(Jo H).gen;omega) (show s.2.2.1+1<9223372036854775808 by omega),Ok,a1.cache];cases hk:(Da s.2.1 r).2 with
 | true =>
  simp only[Au,Ad,Ac,<-a4,m1,m2,Aa,o3,Ki,Ak,Int.ofNat_zero,Int.natCast_zero,Ok]
 | false =>
  rw[ap hk]at a4;rw[a4]at m2 ;simp only[A3,Au,Ad,Ac,a4,m1,Aa,o3,Ak,Ki,Int.natCast_zero,Ok]
end
end Go.Vs
