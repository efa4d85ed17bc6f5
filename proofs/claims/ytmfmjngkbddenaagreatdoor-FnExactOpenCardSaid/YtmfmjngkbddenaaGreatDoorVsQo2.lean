import Derived.Test.YtmfmjngkbddenaaGreatDoorVsW5
import Derived.Test.YtmfmjngkbddenaaGreatDoorVsQo1
set_option linter.all false
namespace Go.Vs
noncomputable section
abbrev Ce:=Int×List UInt8
theorem Yas {l:List UInt8}{k:Int}(h0:0<=k) (hk:k<=4611686018427387904) (hl:l.length<=9223372036854775807):SzR (Xm (l,k)) k ((l.length:Int)<=k):=by
 have e:A1 .i64 k (Ae l)=k-l.length:=D3 (by simp only[Ai];omega) (by simp only[Ai];omega);exact (SzR.sub (P:=True) h0 hk hl fun h=>by simp only[e];exact SzR.done).mono (Koc _) fun h=>h.1
theorem Ya6 {x:List UInt8}(hl:x.length<=140737488355328):T6 x=some x:=by
 have:T6 x=Za2 (fun b=>some b) 0 1 x:=rfl;rw[this];exact Zpx (by omega) (by omega) fun _ _=>rfl
theorem Zle {x:List UInt8}(hl:x.length<9223372036854775807):Re (x,x)=some true:=by
 unfold Re;simp only[Eo,Ac];refine Gn (fun i=>(i:Int)) x.length true ?_ ?_ 0 rfl
 ·intro i hi;unfold Zi1;rw[A5 (by simp only[Ai];omega),Ad,Bp hi,Aa,Aa,Eo,Ac,Cw (by omega)]
 ·unfold Zi1;rw[A3 (by simp only[Ai];omega),Ac]
theorem Zt0 {c:Ce}(hl:c.2.length<9223372036854775807):Xh (c,c)=some true:=by
 unfold Xh;simp only[Eo,Ac,Zle hl,Aa,Az]
def HB (m:Int) (b:UInt8) (m':Int):Prop:=m<9223372036854775807/\0<=m/\b=u8 (Ak .u8 m)/\m'=m+1
theorem Yqb {x:List UInt8}{m:Int}(h0:0<=m) (hm:m<=1152921504606846976) (hl:x.length<=140737488355328):∃m' x',Pe (x,m)=some (m',x')/\Nb (x',m)=some m'/\x'.length=x.length/\m<=m'/\m'<=m+x.length:=by
 obtain⟨l',m',h1,h2,h3,h4,h5⟩:=Zv (H:=HB) (K:=1) (x:=x) (m0:=m) (step:=Zdc) (by omega) (by omega) (by
  intro l k i hi hll hx hk1 hk2;refine⟨u8 (Ak .u8 k),k+1, ?_,⟨by omega,by omega,rfl,rfl⟩, ?_, ?_⟩
  ·simp only[Zdc];rw[A5 (by simp only[Ai];omega),Ad];simp (disch:=omega) only[Ha,hx,Aa,Es,C3]
  ·omega
  ·omega) (by
  intro l k hll;simp only[Zdc];rw[A3 (by simp only[Ai];omega),Ac])
 refine⟨m',l', ?_, ?_,h3,h4,by omega⟩
 ·unfold Pe;simp only[h1,Ax,h3,H2,Av]
 ·unfold Nb;simp only;rw[Y8 (H:=HB) (m1:=m') (by omega) h2 (by
   rintro k k' i hi ⟨q1,q2,a,b⟩;simp only[Zi3];rw[A5 (by simp only[Ai];omega),Ad,Bp hi,Aa,a,Eo,Ac,b,C3 (by omega) (by omega),C3 (by omega) (by omega)]) (by
   intro k;simp only[Zi3];rw[A3 (by simp only[Ai];omega),Ac])]
  rfl
theorem Zf1 {x:List UInt8}{m:Int}(h0:0<=m) (hm:m<=1152921504606846976) (hl:x.length<=1048576):∃m' x',Pe (x,m)=some (m',x')/\Nb (x',m)=some m'/\x'.length=x.length/\m<=m'/\m'<=m+1048576:=by
 obtain⟨m',x',a,b,c,d,e⟩:=Yqb (x:=x) h0 hm (by omega);exact⟨m',x',a,b,c,d,by omega⟩
theorem Yqg {m : Int} (h : m < 9223372036854775808) : ∃ s, Xl m = some s := by
  unfold Xl;by_cases h0 : m ≤ 0
  · rw [G8 h0]; exact ⟨_, rfl⟩
  rw [Jp (by omega), Ac];have hin : 0 ≤ ((m, []) : Int × List UInt8).1 ∧ ((m, []) : Int × List UInt8).1 < 2 ^ (63 - 0) ∧ ((m, []) : Int × List UInt8).2.length = 0 := by
    have e63 : (2 : Int) ^ 63 = 9223372036854775808 := by decide
    rw [Kxc, e63];exact ⟨by simp only; omega, h, rfl⟩
  obtain ⟨r, h1, s, rfl, h2⟩ := Lm (step := Zdd)
    (fun i s => 0 ≤ s.1 ∧ s.1 < 2 ^ (63 - i) ∧ s.2.length = i) 63 (fun r => ∃ s, r = .inl s ∧ s.length ≤ 63) (by
      rintro i ⟨z, l⟩ hi ⟨a, b, c⟩;simp only [Zdd] at a b c ⊢;by_cases hz : 0 < z
      · rw [Df hz, Ad, Yad (by simp only [Ke, Ki]; omega), Av]
        left;have e : Zl6 .i64 z 10 = z.tdiv 10 := by
          have : z.tdiv 10 = z / 10 := Kng a;have h63 : (2 : Int) ^ (63 - i) ≤ 2 ^ 63 := by
            have := Klg (n := 2) (by decide) (show 63 - i ≤ 63 by omega)
            exact_mod_cast this
          have e63 : (2 : Int) ^ 63 = 9223372036854775808 := by decide
          refine Zbf ?_ ?_ <;> omega
        refine ⟨_, rfl, ?_, ?_, ?_⟩
        · simp only [e]; rw [Kng a]; omega
        · simp only [e]; rw [Kng a]
          have : (2 : Int) ^ (63 - i) = 2 * 2 ^ (63 - (i + 1)) := by
            rw [show 63 - i = (63 - (i + 1)) + 1 by omega, Int.pow_succ]; omega
          omega
        · simp only [Al, Kz, Ke, Ki, c]; omega
      · rw [Dx (by omega), Ac]
        exact .inr ⟨_, rfl, l, rfl, by omega⟩)
    (by
      rintro ⟨z, l⟩ ⟨a, b, c⟩;simp only [Zdd, Kge, Int.pow_zero] at a b c ⊢;rw [Dx (by omega), Ac];exact ⟨_, rfl, l, rfl, by omega⟩) (m, []) hin
  rw [h1, Ax, Yad (by simp only [Ke, Ki]; omega)];exact ⟨_, rfl⟩
abbrev Row:=List UInt8×Ce×Ce×Int×Bool
def smR (B:Nat) (r:Row):Prop:=r.1.length<=B/\r.2.1.2.length<=B/\r.2.2.1.2.length<=B
theorem Yik {r:Row}(h:smR 9223372036854775806 r):Xi (r,r)=some true:=by
 have e1:=Zt0 (c:=(r.2.1.1,r.2.1.2)) (Nat.lt_succ_of_le h.2.1);have e2:=Zt0 (c:=(r.2.2.1.1,r.2.2.1.2)) (Nat.lt_succ_of_le h.2.2);unfold Xi;simp only[Eo,Ac,Zzh,Az,e1,e2,Aa,Zdu]
theorem smR.mono {A B:Nat}{r:Row}(h:smR A r) (hab:A<=B):smR B r:=⟨Kqa h.1 hab,Kqa h.2.1 hab,Kqa h.2.2 hab⟩
def Gf (c:Ce):Bool:=decide (0<=c.1/\c.1<=5)&&decide (c.2.length<=20)
def D1 (c:Ce):Option (List UInt8):=if Gf c then Nx c.1.toNat c.2 else none
def Qx (a b:Ce):Bool:=match D1 a,D1 b with
 | some x,some y=>x==y
 | _,_=>false
theorem Yd6 {c:Ce}{t:List UInt8}(h:D1 c=some t):Gf c=true/\Nx c.1.toNat c.2=some t:=by
 unfold D1 at h;split at h
 ·rename_i h1;exact⟨h1,h⟩
 ·cases h
theorem Zos (c:Ce):Nc c=some (Gf c):=by
 unfold Nc Xy Gf;simp only[D0,Aa,Ys];split
 ·rename_i h;have:(0:Int)<=c.1/\c.1<=5:=by simpa using h
  rw[decide_eq_true this];simp only[Kqc,iLe,Ai];exact congrArg some (decide_eq_decide.2 (by omega))
 ·rename_i h;have:¬((0:Int)<=c.1/\c.1<=5):=by simpa using h
  rw[decide_eq_false this];rfl
theorem Zve (c:Ce):W3 c=some (Gf c):=Zos c
theorem Zr4 {c:Ce}{F:Int×List UInt8->Option (List UInt8×Bool)}(hF:∀{cs:Nat}{b:List UInt8},cs<=5->b.length<=1048576->F ((cs:Int),b)=some (Jw (Nx cs b))) :
  (bnd (some (Gf c)) (fun z1=>(cnd (Ah z1) (some ([],false)) (bnd (F (c.1,c.2)) (fun z2=>(some (z2.1,z2.2)))))))=some (Jw (D1 c)):=by
 rw[Aa];unfold D1;cases h:Gf c with
 | false=>rfl
 | true =>
  simp only[Az,Ac,if_true];simp only[Gf,Kd,decide_eq_true_eq]at h;obtain⟨⟨h0,h5⟩,hl⟩:=h;obtain⟨t,b⟩:=c;simp only at h0 h5 hl ⊢;obtain⟨n,rfl⟩:=Kpc h0;rw[hF (by omega) (by omega),Aa];rfl
theorem Zot (c:Ce):Iz c=some (Jw (D1 c)):=by
 unfold Iz;rw[show Nc (c.1,c.2)=some (Gf c) from Zos c];exact Zr4 fun h1 h2=>Yse h1 h2
theorem Zl7 (c:Ce):Ra c=some (Jw (D1 c)):=by
 unfold Ra;rw[show W3 (c.1,c.2)=some (Gf c) from Zve c];exact Zr4 fun h1 h2=>Yod h1 h2
theorem Zzw {a b:Ce}{F:Ce->Option (List UInt8×Bool)}(hF:∀c,F c=some (Jw (D1 c))):(bnd (F (a.1,a.2)) (fun z1=>(bnd
 (F (b.1,b.2)) (fun z2=>(cnd z1.2 (cnd z2.2 (some (sEq z1.1 z2.1)) (some false)) (some false))))))=some (Qx a b):=by
 rw[hF,Aa,hF,Aa];unfold Qx;cases h1:D1 a<;>cases h2:D1 b<;>rfl
theorem Yst (a b:Ce):Bx (a,b)=some (Qx a b):=Zzw Zot
theorem You (a b:Ce):Zie (a,b)=some (Qx a b):=Zzw Zl7
def E1 (c:Ce):Bool:=decide (c.1=0)&&c.2.isEmpty
def Vy (c:UInt8):Bool:=decide (97<=c.toNat/\c.toNat<=122)||decide (48<=c.toNat/\c.toNat<=57)
def Fw (s:List UInt8):Bool:=s.all Vy&&decide (1<=s.length/\s.length<=6)
def Im (o:Ce) (has:Int) (aside:Bool):Bool:=if has=2 then E1 o else decide (1<=o.1/\o.1<=5)&&decide (o.2.length<=20)&&((D1 o).isSome||(aside&&decide (has=1)))
def Il (n:Ce) (has:Int):Bool:=if has=1 then E1 n else decide (n.1=0)&&(D1 n).isSome
def Ci (r:Row):Bool:=Fw r.1&&decide (1<=r.2.2.2.1/\r.2.2.2.1<=3)&&Im r.2.1 r.2.2.2.1 r.2.2.2.2&&Il r.2.2.1 r.2.2.2.1&&(decide (r.2.2.2.1≠3)||Qx r.2.1 r.2.2.1)
theorem Sp {c:Ce}(h:E1 c=true):c=(0,[]):=by
 obtain⟨a,b⟩:=c;simp only[E1,Kd,decide_eq_true_eq,Ksd]at h;rw[h.1,h.2]
theorem Mw {r:Row}(h:Ci r=true):Fw r.1=true/\1<=r.2.2.2.1/\r.2.2.2.1<=3/\Im r.2.1 r.2.2.2.1 r.2.2.2.2=true/\Il r.2.2.1 r.2.2.2.1=true/\(r.2.2.2.1=3->Qx r.2.1 r.2.2.1=true):=by
 simp only[Ci,Kd,Kbb,decide_eq_true_eq]at h;obtain⟨⟨⟨⟨a,b⟩,c⟩,d⟩,e⟩:=h;exact⟨a,b.1,b.2,c,d,fun h3=>e.elim (fun k=>(k h3).elim) id⟩
theorem Zw {s:List UInt8}(h:Fw s=true):1<=s.length/\s.length<=6:=by
 simp only[Fw,Kd,decide_eq_true_eq]at h;exact h.2
theorem Zou {s : List UInt8} (hl : s.length < 9223372036854775807) : T9 s = some (Fw s) := by
  unfold T9;have stp : ∀ i (h : i < s.length), Yb s (i : Int) = if Vy s[i] then some (.inl ((i + 1 : Nat) : Int)) else some (.inr (.inr false)) := by
    intro i h;unfold Yb;rw [A5 (by rw [Ai]; omega), Ad, Bp h];simp only [Aa, Nt, D0, Cw (show i < 9223372036854775807 by omega)];unfold Vy;by_cases h1 : 97 ≤ s[i].toNat ∧ s[i].toNat ≤ 122
    · rw [decide_eq_true (show (97 : Int) ≤ (s[i].toNat : Int) ∧ (s[i].toNat : Int) ≤ 122 by omega), decide_eq_true h1]; rfl
    · rw [decide_eq_false (show ¬ ((97 : Int) ≤ (s[i].toNat : Int) ∧ (s[i].toNat : Int) ≤ 122) by omega), decide_eq_false h1]
      by_cases h2 : 48 ≤ s[i].toNat ∧ s[i].toNat ≤ 57
      · rw [decide_eq_true (show (48 : Int) ≤ (s[i].toNat : Int) ∧ (s[i].toNat : Int) ≤ 57 by omega), decide_eq_true h2]; rfl
      · rw [decide_eq_false (show ¬ ((48 : Int) ≤ (s[i].toNat : Int) ∧ (s[i].toNat : Int) ≤ 57) by omega), decide_eq_false h2]; rfl
  obtain ⟨r, h1, h2⟩ := Lm (step := Yb s) (fun i z => z = (i : Int) ∧ i ≤ s.length ∧ s.all Vy = (s.drop i).all Vy) s.length
    (fun r => Ao (some r) (fun (z1 : Unit) => (bnd (Br ((Ae s), (1, 6))) (fun z2 => (some z2)))) = some (Fw s)) (by
      rintro i z hi ⟨rfl, _, hp⟩;rw [stp i hi];rw [Kcc hi, List.all_cons] at hp;cases hb : Vy s[i] with
      | true =>
        left;rw [hb, Kqc] at hp;exact ⟨_, by rw [if_pos rfl], rfl, hi, hp⟩
      | false =>
        right;rw [hb, Ktd] at hp;exact ⟨_, by rw [if_neg (by decide)], by rw [Oa, Fw, hp]; rfl⟩)
    (by
      rintro z ⟨rfl, _, hp⟩;refine ⟨.inl (), ?_, ?_⟩
      · unfold Yb
        rw [A3 (by rw [Ai]; exact Koc _), Ac]
      · rw [Ax, D0, Aa, Fw, hp, Kkg]
        simp only [List.all_nil, Kqc, Ai];exact congrArg some (decide_eq_decide.2 (by omega))) 0 ⟨rfl, Koa _, by rw [Kv]⟩
  rw [h1, h2]
theorem Zvg {s:List UInt8}(hl:s.length<9223372036854775807):W9 s=some (Fw s):=Zou hl
theorem Zl5 {r:Row}(h:smR 1048576 r):Pd r=some r:=by
 have e:∀c:Ce,c.2.length<=1048576->Xf c=some c:=fun c h=>by
  unfold Xf;rw[Mg (by omega)];rfl
 unfold Pd;rw[e (r.2.1.1,r.2.1.2) h.2.1,Aa,e (r.2.2.1.1,r.2.2.1.2) h.2.2];rfl
theorem Zop {r:Row}(h:smR 1048576 r):Pj r=some r:=by
 have e:∀c:Ce,c.2.length<=1048576->Xz c=some c:=fun c h=>by
  unfold Xz;rw[Bq (by omega)];rfl
 unfold Pj;rw[e (r.2.1.1,r.2.1.2) h.2.1,Aa,e (r.2.2.1.1,r.2.2.1.2) h.2.2];rfl
end
end Go.Vs
