import Derived.Test.YtmfmjngkbddenaaGreatDoorVsW5
import Derived.Test.YtmfmjngkbddenaaGreatDoorVsQo1
set_option linter.all false
namespace Go.Vs
noncomputable section
abbrev Ca:=Int×List UInt8
theorem Zm7 {l:List UInt8}{k:Int}(h0:0<=k) (hk:k<=4611686018427387904) (hl:l.length<=9223372036854775807):SzR (Sh (l,k)) k ((l.length:Int)<=k):=by
 have e:A6 .i64 k (Ae l)=k-l.length:=Er (by simp only[Aj];omega) (by simp only[Aj];omega);exact (SzR.sub (P:=True) h0 hk hl fun h=>by simp only[e];exact SzR.done).mono (Klb _) fun h=>h.1
theorem Znc {x:List UInt8}(hl:x.length<=140737488355328):Qa x=some x:=by
 have:Qa x=R3 (fun b=>some b) 0 1 x:=rfl;rw[this];exact Y4 (by omega) (by omega) fun _ _=>rfl
theorem Zir {x:List UInt8}(hl:x.length<9223372036854775807):P6 (x,x)=some true:=by
 unfold P6;simp only[Fo,Ac];refine Hv (fun i=>(i:Int)) x.length true ?_ ?_ 0 rfl
 ·intro i hi;unfold Zgm;rw[A4 (by simp only[Aj];omega),Ag,Bt hi,Ab,Ab,Fo,Ac,Cs (by omega)]
 ·unfold Zgm;rw[A0 (by simp only[Aj];omega),Ac]
theorem Zxm {c:Ca}{k:Int}(h0:0<=k) (hk:k<=4611686018427387904) (hl:c.2.length<=9223372036854775807):SzR (Zai (c,k)) k ((c.2.length:Int)<=k):=SzR.one h0 (Zm7 h0 hk hl)
theorem Zxz {c:Ca}(hl:c.2.length<=140737488355328):V0 c=some c:=by
 unfold V0;rw[Znc hl];rfl
theorem Zrj {c:Ca}(hl:c.2.length<9223372036854775807):Vr (c,c)=some true:=by
 unfold Vr;simp only[Fo,Ac,Zir hl,Ab,A5]
def HB (m:Int) (b:UInt8) (m':Int):Prop:=m<9223372036854775807/\0<=m/\b=u8 (Ak .u8 m)/\m'=m+1
theorem Yms {x:List UInt8}{m:Int}(h0:0<=m) (hm:m<=1152921504606846976) (hl:x.length<=140737488355328):∃m' x',L9 (x,m)=some (m',x')/\L8 (x',m)=some m'/\x'.length=x.length/\m<=m'/\m'<=m+x.length:=by
 obtain⟨l',m',h1,h2,h3,h4,h5⟩:=X3 (H:=HB) (K:=1) (x:=x) (m0:=m) (step:=Zbk) (by omega) (by omega) (by
  intro l k i hi hll hx hk1 hk2;refine⟨u8 (Ak .u8 k),k+1, ?_,⟨by omega,by omega,rfl,rfl⟩, ?_, ?_⟩
  ·simp only[Zbk];rw[A4 (by simp only[Aj];omega),Ag];simp (disch:=omega) only[Gr,hx,Ab,D9,C8]
  ·omega
  ·omega) (by
  intro l k hll;simp only[Zbk];rw[A0 (by simp only[Aj];omega),Ac])
 refine⟨m',l', ?_, ?_,h3,h4,by omega⟩
 ·unfold L9;simp only[h1,A3,h3,Fs,Av]
 ·unfold L8;simp only;rw[Xf (H:=HB) (m1:=m') (by omega) h2 (by
   rintro k k' i hi ⟨q1,q2,a,b⟩;simp only[Zgo];rw[A4 (by simp only[Aj];omega),Ag,Bt hi,Ab,a,Fo,Ac,b,C8 (by omega) (by omega),C8 (by omega) (by omega)]) (by
   intro k;simp only[Zgo];rw[A0 (by simp only[Aj];omega),Ac])]
  rfl
theorem Xz {x:List UInt8}{m:Int}(h0:0<=m) (hm:m<=1152921504606846976) (hl:x.length<=1048576):∃m' x',L9 (x,m)=some (m',x')/\L8 (x',m)=some m'/\x'.length=x.length/\m<=m'/\m'<=m+1048576:=by
 obtain⟨m',x',a,b,c,d,e⟩:=Yms (x:=x) h0 hm (by omega);exact⟨m',x',a,b,c,d,by omega⟩
theorem Ymx {m : Int} (h : m < 9223372036854775808) : ∃ s, Vz m = some s := by
  unfold Vz;by_cases h0 : m ≤ 0
  · rw [G8 h0]; exact ⟨_, rfl⟩
  rw [Jv (by omega), Ac];have hin : 0 ≤ ((m, []) : Int × List UInt8).1 ∧ ((m, []) : Int × List UInt8).1 < 2 ^ (63 - 0) ∧ ((m, []) : Int × List UInt8).2.length = 0 := by
    have e63 : (2 : Int) ^ 63 = 9223372036854775808 := by decide
    rw [Koc, e63];exact ⟨by simp only; omega, h, rfl⟩
  obtain ⟨r, h1, s, rfl, h2⟩ := M9 (step := Zbl)
    (fun i s => 0 ≤ s.1 ∧ s.1 < 2 ^ (63 - i) ∧ s.2.length = i) 63 (fun r => ∃ s, r = .inl s ∧ s.length ≤ 63) (by
      rintro i ⟨z, l⟩ hi ⟨a, b, c⟩;simp only [Zbl] at a b c ⊢;by_cases hz : 0 < z
      · rw [Dq hz, Ag, Zw6 (by simp only [Kg, Ki]; omega), Av]
        left;have e : Zjg .i64 z 10 = z.tdiv 10 := by
          have : z.tdiv 10 = z / 10 := Kkg a;have h63 : (2 : Int) ^ (63 - i) ≤ 2 ^ 63 := by
            have := Kig (n := 2) (by decide) (show 63 - i ≤ 63 by omega)
            exact_mod_cast this
          have e63 : (2 : Int) ^ 63 = 9223372036854775808 := by decide
          refine Zi ?_ ?_ <;> omega
        refine ⟨_, rfl, ?_, ?_, ?_⟩
        · simp only [e]; rw [Kkg a]; omega
        · simp only [e]; rw [Kkg a]
          have : (2 : Int) ^ (63 - i) = 2 * 2 ^ (63 - (i + 1)) := by
            rw [show 63 - i = (63 - (i + 1)) + 1 by omega, Int.pow_succ]; omega
          omega
        · simp only [Al, Ky, Kg, Ki, c]; omega
      · rw [Ej (by omega), Ac]
        exact .inr ⟨_, rfl, l, rfl, by omega⟩)
    (by
      rintro ⟨z, l⟩ ⟨a, b, c⟩;simp only [Zbl, Kme, Int.pow_zero] at a b c ⊢;rw [Ej (by omega), Ac];exact ⟨_, rfl, l, rfl, by omega⟩) (m, []) hin
  rw [h1, A3, Zw6 (by simp only [Kg, Ki]; omega)];exact ⟨_, rfl⟩
abbrev Row:=List UInt8×Ca×Ca×Int×Bool
def smR (B:Nat) (r:Row):Prop:=r.1.length<=B/\r.2.1.2.length<=B/\r.2.2.1.2.length<=B
theorem Zxn {r:Row}{k:Int}(h0:0<=k) (hk:k<=1048576) (hl:smR 9223372036854775807 r):SzR (Si (r,k)) k (smR 1048576 r):=by
 obtain⟨a,b,c⟩:=hl;have e:A6 .i64 k (Ae r.1)=k-r.1.length:=Er (by simp only[Aj];omega) (by simp only[Aj];omega);unfold Si;refine (SzR.sub (P:=r.2.1.2.length<=1048576/\r.2.2.1.2.length<=1048576) h0 (by omega) a fun h=>?_).mono (Klb _) fun h=>⟨by have:=h.1;omega,h.2⟩;simp only[e];refine SzR.seq (by omega) ((Zxm (c:=r.2.1) (by omega) (by omega) b).mono (Klb _) fun h=>by omega) fun z hz hz2=>?_;exact SzR.one hz ((Zxm (c:=r.2.2.1) hz (by omega) c).mono (Klb _) fun h=>by omega)
theorem Zx1 {r:Row}(h:smR 140737488355328 r):Qc r=some r:=by
 unfold Qc;rw[Zxz (c:=(r.2.1.1,r.2.1.2)) h.2.1,Ab,Zxz (c:=(r.2.2.1.1,r.2.2.1.2)) h.2.2];rfl
theorem Zrk {r:Row}(h:smR 9223372036854775806 r):P7 (r,r)=some true:=by
 have e1:=Zrj (c:=(r.2.1.1,r.2.1.2)) (Nat.lt_succ_of_le h.2.1);have e2:=Zrj (c:=(r.2.2.1.1,r.2.2.1.2)) (Nat.lt_succ_of_le h.2.2);unfold P7;simp only[Fo,Ac,Zl8,A5,e1,e2,Ab,Zb1]
theorem smR.mono {A B:Nat}{r:Row}(h:smR A r) (hab:A<=B):smR B r:=⟨Kka h.1 hab,Kka h.2.1 hab,Kka h.2.2 hab⟩
def F3 (c:Ca):Bool:=decide (0<=c.1/\c.1<=5)&&decide (c.2.length<=20)
def Di (c:Ca):Option (List UInt8):=if F3 c then Mt c.1.toNat c.2 else none
def Ps (a b:Ca):Bool:=match Di a,Di b with
 | some x,some y=>x==y
 | _,_=>false
theorem Yap {c:Ca}{t:List UInt8}(h:Di c=some t):F3 c=true/\Mt c.1.toNat c.2=some t:=by
 unfold Di at h;split at h
 ·rename_i h1;exact⟨h1,h⟩
 ·cases h
theorem Zma (c:Ca):Ma c=some (F3 c):=by
 unfold Ma Wc F3;simp only[En,Ab,W1];split
 ·rename_i h;have:(0:Int)<=c.1/\c.1<=5:=by simpa using h
  rw[decide_eq_true this];simp only[Knc,iLe,Aj];exact congrArg some (decide_eq_decide.2 (by omega))
 ·rename_i h;have:¬((0:Int)<=c.1/\c.1<=5):=by simpa using h
  rw[decide_eq_false this];rfl
theorem Zsy (c:Ca):Vh c=some (F3 c):=Zma c
theorem Zpj {c:Ca}{F:Int×List UInt8->Option (List UInt8×Bool)}(hF:∀{cs:Nat}{b:List UInt8},cs<=5->b.length<=1048576->F ((cs:Int),b)=some (I3 (Mt cs b))) :
  (bnd (some (F3 c)) (fun z1=>(cnd (Ah z1) (some ([],false)) (bnd (F (c.1,c.2)) (fun z2=>(some (z2.1,z2.2)))))))=some (I3 (Di c)):=by
 rw[Ab];unfold Di;cases h:F3 c with
 | false=>rfl
 | true =>
  simp only[A5,Ac,if_true];simp only[F3,Ke,decide_eq_true_eq]at h;obtain⟨⟨h0,h5⟩,hl⟩:=h;obtain⟨t,b⟩:=c;simp only at h0 h5 hl ⊢;obtain⟨n,rfl⟩:=Kid h0;rw[hF (by omega) (by omega),Ab];rfl
theorem Zmb (c:Ca):H8 c=some (I3 (Di c)):=by
 unfold H8;rw[show Ma (c.1,c.2)=some (F3 c) from Zma c];exact Zpj fun h1 h2=>Yom h1 h2
theorem Zjh (c:Ca):P4 c=some (I3 (Di c)):=by
 unfold P4;rw[show Vh (c.1,c.2)=some (F3 c) from Zsy c];exact Zpj fun h1 h2=>Yk1 h1 h2
theorem Zwp {a b:Ca}{F:Ca->Option (List UInt8×Bool)}(hF:∀c,F c=some (I3 (Di c))):(bnd (F (a.1,a.2)) (fun z1=>(bnd
 (F (b.1,b.2)) (fun z2=>(cnd z1.2 (cnd z2.2 (some (sEq z1.1 z2.1)) (some false)) (some false))))))=some (Ps a b):=by
 rw[hF,Ab,hF,Ab];unfold Ps;cases h1:Di a<;>cases h2:Di b<;>rfl
theorem Yow (a b:Ca):Bn (a,b)=some (Ps a b):=Zwp Zmb
theorem Yld (a b:Ca):Zfy (a,b)=some (Ps a b):=Zwp Zjh
def Fe (c:Ca):Bool:=decide (c.1=0)&&c.2.isEmpty
def Ug (c:UInt8):Bool:=decide (97<=c.toNat/\c.toNat<=122)||decide (48<=c.toNat/\c.toNat<=57)
def Fd (s:List UInt8):Bool:=s.all Ug&&decide (1<=s.length/\s.length<=6)
def J8 (o:Ca) (has:Int) (aside:Bool):Bool:=if has=2 then Fe o else decide (1<=o.1/\o.1<=5)&&decide (o.2.length<=20)&&((Di o).isSome||(aside&&decide (has=1)))
def J7 (n:Ca) (has:Int):Bool:=if has=1 then Fe n else decide (n.1=0)&&(Di n).isSome
def Cu (r:Row):Bool:=Fd r.1&&decide (1<=r.2.2.2.1/\r.2.2.2.1<=3)&&J8 r.2.1 r.2.2.2.1 r.2.2.2.2&&J7 r.2.2.1 r.2.2.2.1&&(decide (r.2.2.2.1≠3)||Ps r.2.1 r.2.2.1)
theorem Zea {c:Ca}(h:Fe c=true):c=(0,[]):=by
 obtain⟨a,b⟩:=c;simp only[Fe,Ke,decide_eq_true_eq,Kld]at h;rw[h.1,h.2]
theorem Rr {r:Row}(h:Cu r=true):Fd r.1=true/\1<=r.2.2.2.1/\r.2.2.2.1<=3/\J8 r.2.1 r.2.2.2.1 r.2.2.2.2=true/\J7 r.2.2.1 r.2.2.2.1=true/\(r.2.2.2.1=3->Ps r.2.1 r.2.2.1=true):=by
 simp only[Cu,Ke,Knb,decide_eq_true_eq]at h;obtain⟨⟨⟨⟨a,b⟩,c⟩,d⟩,e⟩:=h;exact⟨a,b.1,b.2,c,d,fun h3=>e.elim (fun k=>(k h3).elim) id⟩
theorem Zuc {s:List UInt8}(h:Fd s=true):1<=s.length/\s.length<=6:=by
 simp only[Fd,Ke,decide_eq_true_eq]at h;exact h.2
theorem Zmc {s : List UInt8} (hl : s.length < 9223372036854775807) : Sj s = some (Fd s) := by
  unfold Sj;have stp : ∀ i (h : i < s.length), Wl s (i : Int) = if Ug s[i] then some (.inl ((i + 1 : Nat) : Int)) else some (.inr (.inr false)) := by
    intro i h;unfold Wl;rw [A4 (by rw [Aj]; omega), Ag, Bt h];simp only [Ab, Mq, En, Cs (show i < 9223372036854775807 by omega)];unfold Ug;by_cases h1 : 97 ≤ s[i].toNat ∧ s[i].toNat ≤ 122
    · rw [decide_eq_true (show (97 : Int) ≤ (s[i].toNat : Int) ∧ (s[i].toNat : Int) ≤ 122 by omega), decide_eq_true h1]; rfl
    · rw [decide_eq_false (show ¬ ((97 : Int) ≤ (s[i].toNat : Int) ∧ (s[i].toNat : Int) ≤ 122) by omega), decide_eq_false h1]
      by_cases h2 : 48 ≤ s[i].toNat ∧ s[i].toNat ≤ 57
      · rw [decide_eq_true (show (48 : Int) ≤ (s[i].toNat : Int) ∧ (s[i].toNat : Int) ≤ 57 by omega), decide_eq_true h2]; rfl
      · rw [decide_eq_false (show ¬ ((48 : Int) ≤ (s[i].toNat : Int) ∧ (s[i].toNat : Int) ≤ 57) by omega), decide_eq_false h2]; rfl
  obtain ⟨r, h1, h2⟩ := M9 (step := Wl s) (fun i z => z = (i : Int) ∧ i ≤ s.length ∧ s.all Ug = (s.drop i).all Ug) s.length
    (fun r => Ao (some r) (fun (z1 : Unit) => (bnd (Bv ((Ae s), (1, 6))) (fun z2 => (some z2)))) = some (Fd s)) (by
      rintro i z hi ⟨rfl, _, hp⟩;rw [stp i hi];rw [Kfc hi, List.all_cons] at hp;cases hb : Ug s[i] with
      | true =>
        left;rw [hb, Knc] at hp;exact ⟨_, by rw [if_pos rfl], rfl, hi, hp⟩
      | false =>
        right;rw [hb, Kjd] at hp;exact ⟨_, by rw [if_neg (by decide)], by rw [M3, Fd, hp]; rfl⟩)
    (by
      rintro z ⟨rfl, _, hp⟩;refine ⟨.inl (), ?_, ?_⟩
      · unfold Wl
        rw [A0 (by rw [Aj]; exact Klb _), Ac]
      · rw [A3, En, Ab, Fd, hp, Khg]
        simp only [List.all_nil, Knc, Aj];exact congrArg some (decide_eq_decide.2 (by omega))) 0 ⟨rfl, Kpa _, by rw [Kha]⟩
  rw [h1, h2]
theorem Zsz {s:List UInt8}(hl:s.length<9223372036854775807):Vk s=some (Fd s):=Zmc hl
theorem Zjf {r:Row}(h:smR 1048576 r):N3 r=some r:=by
 have e:∀c:Ca,c.2.length<=1048576->Vp c=some c:=fun c h=>by
  unfold Vp;rw[Pa (by omega)];rfl
 unfold N3;rw[e (r.2.1.1,r.2.1.2) h.2.1,Ab,e (r.2.2.1.1,r.2.2.1.2) h.2.2];rfl
theorem Zl6 {r:Row}(h:smR 1048576 r):N5 r=some r:=by
 have e:∀c:Ca,c.2.length<=1048576->Wd c=some c:=fun c h=>by
  unfold Wd;rw[Bk (by omega)];rfl
 unfold N5;rw[e (r.2.1.1,r.2.1.2) h.2.1,Ab,e (r.2.2.1.1,r.2.2.1.2) h.2.2];rfl
end
end Go.Vs
