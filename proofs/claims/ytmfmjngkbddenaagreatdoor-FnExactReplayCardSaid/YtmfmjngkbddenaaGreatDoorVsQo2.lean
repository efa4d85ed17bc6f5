import Derived.Test.YtmfmjngkbddenaaGreatDoorVsW5
import Derived.Test.YtmfmjngkbddenaaGreatDoorVsQo1
set_option linter.all false
namespace Go.Vs
noncomputable section
abbrev Cc:=Int×List UInt8
theorem Zu9 {l:List UInt8}{k:Int}(h0:0<=k) (hk:k<=4611686018427387904) (hl:l.length<=9223372036854775807):SzR (U9 (l,k)) k ((l.length:Int)<=k):=by
 have e:Ax .i64 k (Af l)=k-l.length:=D7 (by simp only[Aj];omega) (by simp only[Aj];omega);exact (SzR.sub (P:=True) h0 hk hl fun h=>by simp only[e];exact SzR.done).mono (Kec _) fun h=>h.1
theorem Zvo {x:List UInt8}(hl:x.length<=140737488355328):Rr x=some x:=by
 have:Rr x=Yj (fun b=>some b) 0 1 x:=rfl;rw[this];exact Zlk (by omega) (by omega) fun _ _=>rfl
theorem Zg9 {x:List UInt8}(hl:x.length<9223372036854775807):Po (x,x)=some true:=by
 unfold Po;simp only[E6,Ae];refine Jp (fun i=>(i:Int)) x.length true ?_ ?_ 0 rfl
 ·intro i hi;unfold Zfe;rw[A6 (by simp only[Aj];omega),Ag,B9 hi,Ab,Ab,E6,Ae,Dg (by omega)]
 ·unfold Zfe;rw[A3 (by simp only[Aj];omega),Ae]
theorem Zpc {c:Cc}(hl:c.2.length<9223372036854775807):U5 (c,c)=some true:=by
 unfold U5;simp only[E6,Ae,Zg9 hl,Ab,Bd]
def HB (m:Int) (b:UInt8) (m':Int):Prop:=m<9223372036854775807/\0<=m/\b=u8 (Ak .u8 m)/\m'=m+1
theorem Yim {x:List UInt8}{m:Int}(h0:0<=m) (hm:m<=1152921504606846976) (hl:x.length<=140737488355328):∃m' x',Ng (x,m)=some (m',x')/\L1 (x',m)=some m'/\x'.length=x.length/\m<=m'/\m'<=m+x.length:=by
 obtain⟨l',m',h1,h2,h3,h4,h5⟩:=Xe (H:=HB) (K:=1) (x:=x) (m0:=m) (step:=Zam) (by omega) (by omega) (by
  intro l k i hi hll hx hk1 hk2;refine⟨u8 (Ak .u8 k),k+1, ?_,⟨by omega,by omega,rfl,rfl⟩, ?_, ?_⟩
  ·simp only[Zam];rw[A6 (by simp only[Aj];omega),Ag];simp (disch:=omega) only[Gd,hx,Ab,D9,C9]
  ·omega
  ·omega) (by
  intro l k hll;simp only[Zam];rw[A3 (by simp only[Aj];omega),Ae])
 refine⟨m',l', ?_, ?_,h3,h4,by omega⟩
 ·unfold Ng;simp only[h1,A2,h3,Hw,A4]
 ·unfold L1;simp only;rw[Ws (H:=HB) (m1:=m') (by omega) h2 (by
   rintro k k' i hi ⟨q1,q2,a,b⟩;simp only[Zfg];rw[A6 (by simp only[Aj];omega),Ag,B9 hi,Ab,a,E6,Ae,b,C9 (by omega) (by omega),C9 (by omega) (by omega)]) (by
   intro k;simp only[Zfg];rw[A3 (by simp only[Aj];omega),Ae])]
  rfl
theorem Zcv {x:List UInt8}{m:Int}(h0:0<=m) (hm:m<=1152921504606846976) (hl:x.length<=1048576):∃m' x',Ng (x,m)=some (m',x')/\L1 (x',m)=some m'/\x'.length=x.length/\m<=m'/\m'<=m+1048576:=by
 obtain⟨m',x',a,b,c,d,e⟩:=Yim (x:=x) h0 hm (by omega);exact⟨m',x',a,b,c,d,by omega⟩
theorem Yis {m : Int} (h : m < 9223372036854775808) : ∃ s, U8 m = some s := by
  unfold U8;by_cases h0 : m ≤ 0
  · rw [Gv h0]; exact ⟨_, rfl⟩
  rw [Jl (by omega), Ae];have hin : 0 ≤ ((m, []) : Int × List UInt8).1 ∧ ((m, []) : Int × List UInt8).1 < 2 ^ (63 - 0) ∧ ((m, []) : Int × List UInt8).2.length = 0 := by
    have e63 : (2 : Int) ^ 63 = 9223372036854775808 := by decide
    rw [Koc, e63];exact ⟨by simp only; omega, h, rfl⟩
  obtain ⟨r, h1, s, rfl, h2⟩ := Jq (step := Zan)
    (fun i s => 0 ≤ s.1 ∧ s.1 < 2 ^ (63 - i) ∧ s.2.length = i) 63 (fun r => ∃ s, r = .inl s ∧ s.length ≤ 63) (by
      rintro i ⟨z, l⟩ hi ⟨a, b, c⟩;simp only [Zan] at a b c ⊢;by_cases hz : 0 < z
      · rw [Dp hz, Ag, Zuv (by simp only [Kh, Ko]; omega), A4]
        left;have e : Zh0 .i64 z 10 = z.tdiv 10 := by
          have : z.tdiv 10 = z / 10 := Kkg a;have h63 : (2 : Int) ^ (63 - i) ≤ 2 ^ 63 := by
            have := Kig (n := 2) (by decide) (show 63 - i ≤ 63 by omega)
            exact_mod_cast this
          have e63 : (2 : Int) ^ 63 = 9223372036854775808 := by decide
          refine Yw ?_ ?_ <;> omega
        refine ⟨_, rfl, ?_, ?_, ?_⟩
        · simp only [e]; rw [Kkg a]; omega
        · simp only [e]; rw [Kkg a]
          have : (2 : Int) ^ (63 - i) = 2 * 2 ^ (63 - (i + 1)) := by
            rw [show 63 - i = (63 - (i + 1)) + 1 by omega, Int.pow_succ]; omega
          omega
        · simp only [A0, Kab, Kh, Ko, c]; omega
      · rw [Er (by omega), Ae]
        exact .inr ⟨_, rfl, l, rfl, by omega⟩)
    (by
      rintro ⟨z, l⟩ ⟨a, b, c⟩;simp only [Zan, Kjf, Int.pow_zero] at a b c ⊢;rw [Er (by omega), Ae];exact ⟨_, rfl, l, rfl, by omega⟩) (m, []) hin
  rw [h1, A2, Zuv (by simp only [Kh, Ko]; omega)];exact ⟨_, rfl⟩
abbrev Row:=List UInt8×Cc×Cc×Int×Bool
def smR (B:Nat) (r:Row):Prop:=r.1.length<=B/\r.2.1.2.length<=B/\r.2.2.1.2.length<=B
theorem Ych {r:Row}(h:smR 9223372036854775806 r):U6 (r,r)=some true:=by
 have e1:=Zpc (c:=(r.2.1.1,r.2.1.2)) (Nat.lt_succ_of_le h.2.1);have e2:=Zpc (c:=(r.2.2.1.1,r.2.2.1.2)) (Nat.lt_succ_of_le h.2.2);unfold U6;simp only[E6,Ae,Zt0,Bd,e1,e2,Ab,Za0]
theorem smR.mono {A B:Nat}{r:Row}(h:smR A r) (hab:A<=B):smR B r:=⟨Kja h.1 hab,Kja h.2.1 hab,Kja h.2.2 hab⟩
def Fq (c:Cc):Bool:=decide (0<=c.1/\c.1<=5)&&decide (c.2.length<=20)
def Dj (c:Cc):Option (List UInt8):=if Fq c then Md c.1.toNat c.2 else none
def O2 (a b:Cc):Bool:=match Dj a,Dj b with
 | some x,some y=>x==y
 | _,_=>false
theorem Zyg {c:Cc}{t:List UInt8}(h:Dj c=some t):Fq c=true/\Md c.1.toNat c.2=some t:=by
 unfold Dj at h;split at h
 ·rename_i h1;exact⟨h1,h⟩
 ·cases h
theorem Zkj (c:Cc):L2 c=some (Fq c):=by
 unfold L2 Vh Fq;simp only[Ee,Ab,Wd];split
 ·rename_i h;have:(0:Int)<=c.1/\c.1<=5:=by simpa using h
  rw[decide_eq_true this];simp only[Knc,iLe,Aj];exact congrArg some (decide_eq_decide.2 (by omega))
 ·rename_i h;have:¬((0:Int)<=c.1/\c.1<=5):=by simpa using h
  rw[decide_eq_false this];rfl
theorem Zql (c:Cc):Uv c=some (Fq c):=Zkj c
theorem Zno {c:Cc}{F:Int×List UInt8->Option (List UInt8×Bool)}(hF:∀{cs:Nat}{b:List UInt8},cs<=5->b.length<=1048576->F ((cs:Int),b)=some (Ip (Md cs b))) :
  (bnd (some (Fq c)) (fun z1=>(cnd (Ah z1) (some ([],false)) (bnd (F (c.1,c.2)) (fun z2=>(some (z2.1,z2.2)))))))=some (Ip (Dj c)):=by
 rw[Ab];unfold Dj;cases h:Fq c with
 | false=>rfl
 | true =>
  simp only[Bd,Ae,if_true];simp only[Fq,Ke,decide_eq_true_eq]at h;obtain⟨⟨h0,h5⟩,hl⟩:=h;obtain⟨t,b⟩:=c;simp only at h0 h5 hl ⊢;obtain⟨n,rfl⟩:=Kdd h0;rw[hF (by omega) (by omega),Ab];rfl
theorem Zkk (c:Cc):Hs c=some (Ip (Dj c)):=by
 unfold Hs;rw[show L2 (c.1,c.2)=some (Fq c) from Zkj c];exact Zno fun h1 h2=>Ykl h1 h2
theorem Zh1 (c:Cc):Pj c=some (Ip (Dj c)):=by
 unfold Pj;rw[show Uv (c.1,c.2)=some (Fq c) from Zql c];exact Zno fun h1 h2=>Ygx h1 h2
theorem Zue {a b:Cc}{F:Cc->Option (List UInt8×Bool)}(hF:∀c,F c=some (Ip (Dj c))):(bnd (F (a.1,a.2)) (fun z1=>(bnd
 (F (b.1,b.2)) (fun z2=>(cnd z1.2 (cnd z2.2 (some (sEq z1.1 z2.1)) (some false)) (some false))))))=some (O2 a b):=by
 rw[hF,Ab,hF,Ab];unfold O2;cases h1:Dj a<;>cases h2:Dj b<;>rfl
theorem Ykv (a b:Cc):Bo (a,b)=some (O2 a b):=Zue Zkk
theorem Yha (a b:Cc):Zev (a,b)=some (O2 a b):=Zue Zh1
def Eh (c:Cc):Bool:=decide (c.1=0)&&c.2.isEmpty
def Tt (c:UInt8):Bool:=decide (97<=c.toNat/\c.toNat<=122)||decide (48<=c.toNat/\c.toNat<=57)
def Fk (s:List UInt8):Bool:=s.all Tt&&decide (1<=s.length/\s.length<=6)
def Hh (o:Cc) (has:Int) (aside:Bool):Bool:=if has=2 then Eh o else decide (1<=o.1/\o.1<=5)&&decide (o.2.length<=20)&&((Dj o).isSome||(aside&&decide (has=1)))
def Hg (n:Cc) (has:Int):Bool:=if has=1 then Eh n else decide (n.1=0)&&(Dj n).isSome
def C3 (r:Row):Bool:=Fk r.1&&decide (1<=r.2.2.2.1/\r.2.2.2.1<=3)&&Hh r.2.1 r.2.2.2.1 r.2.2.2.2&&Hg r.2.2.1 r.2.2.2.1&&(decide (r.2.2.2.1≠3)||O2 r.2.1 r.2.2.1)
theorem Qr {c:Cc}(h:Eh c=true):c=(0,[]):=by
 obtain⟨a,b⟩:=c;simp only[Eh,Ke,decide_eq_true_eq,Kpd]at h;rw[h.1,h.2]
theorem Zdo {r:Row}(h:C3 r=true):Fk r.1=true/\1<=r.2.2.2.1/\r.2.2.2.1<=3/\Hh r.2.1 r.2.2.2.1 r.2.2.2.2=true/\Hg r.2.2.1 r.2.2.2.1=true/\(r.2.2.2.1=3->O2 r.2.1 r.2.2.1=true):=by
 simp only[C3,Ke,Kfb,decide_eq_true_eq]at h;obtain⟨⟨⟨⟨a,b⟩,c⟩,d⟩,e⟩:=h;exact⟨a,b.1,b.2,c,d,fun h3=>e.elim (fun k=>(k h3).elim) id⟩
theorem Xf {s:List UInt8}(h:Fk s=true):1<=s.length/\s.length<=6:=by
 simp only[Fk,Ke,decide_eq_true_eq]at h;exact h.2
theorem Zkl {s : List UInt8} (hl : s.length < 9223372036854775807) : Ru s = some (Fk s) := by
  unfold Ru;have stp : ∀ i (h : i < s.length), Vr s (i : Int) = if Tt s[i] then some (.inl ((i + 1 : Nat) : Int)) else some (.inr (.inr false)) := by
    intro i h;unfold Vr;rw [A6 (by rw [Aj]; omega), Ag, B9 h];simp only [Ab, Mb, Ee, Dg (show i < 9223372036854775807 by omega)];unfold Tt;by_cases h1 : 97 ≤ s[i].toNat ∧ s[i].toNat ≤ 122
    · rw [decide_eq_true (show (97 : Int) ≤ (s[i].toNat : Int) ∧ (s[i].toNat : Int) ≤ 122 by omega), decide_eq_true h1]; rfl
    · rw [decide_eq_false (show ¬ ((97 : Int) ≤ (s[i].toNat : Int) ∧ (s[i].toNat : Int) ≤ 122) by omega), decide_eq_false h1]
      by_cases h2 : 48 ≤ s[i].toNat ∧ s[i].toNat ≤ 57
      · rw [decide_eq_true (show (48 : Int) ≤ (s[i].toNat : Int) ∧ (s[i].toNat : Int) ≤ 57 by omega), decide_eq_true h2]; rfl
      · rw [decide_eq_false (show ¬ ((48 : Int) ≤ (s[i].toNat : Int) ∧ (s[i].toNat : Int) ≤ 57) by omega), decide_eq_false h2]; rfl
  obtain ⟨r, h1, h2⟩ := Jq (step := Vr s) (fun i z => z = (i : Int) ∧ i ≤ s.length ∧ s.all Tt = (s.drop i).all Tt) s.length
    (fun r => Aq (some r) (fun (z1 : Unit) => (bnd (B0 ((Af s), (1, 6))) (fun z2 => (some z2)))) = some (Fk s)) (by
      rintro i z hi ⟨rfl, _, hp⟩;rw [stp i hi];rw [Kzb hi, List.all_cons] at hp;cases hb : Tt s[i] with
      | true =>
        left;rw [hb, Knc] at hp;exact ⟨_, by rw [if_pos rfl], rfl, hi, hp⟩
      | false =>
        right;rw [hb, Kud] at hp;exact ⟨_, by rw [if_neg (by decide)], by rw [Mj, Fk, hp]; rfl⟩)
    (by
      rintro z ⟨rfl, _, hp⟩;refine ⟨.inl (), ?_, ?_⟩
      · unfold Vr
        rw [A3 (by rw [Aj]; exact Kec _), Ae]
      · rw [A2, Ee, Ab, Fk, hp, Khg]
        simp only [List.all_nil, Knc, Aj];exact congrArg some (decide_eq_decide.2 (by omega))) 0 ⟨rfl, Kbb _, by rw [Kaa]⟩
  rw [h1, h2]
theorem Zqn {s:List UInt8}(hl:s.length<9223372036854775807):Uz s=some (Fk s):=Zkl hl
theorem Zqh {r:Row}(h:smR 1048576 r):Pk r=some r:=by
 have e:∀c:Cc,c.2.length<=1048576->U1 c=some c:=fun c h=>by
  unfold U1;rw[Zcn (by omega)];rfl
 unfold Pk;rw[e (r.2.1.1,r.2.1.2) h.2.1,Ab,e (r.2.2.1.1,r.2.2.1.2) h.2.2];rfl
theorem Ztz {r:Row}(h:smR 1048576 r):Pu r=some r:=by
 have e:∀c:Cc,c.2.length<=1048576->Vi c=some c:=fun c h=>by
  unfold Vi;rw[Dt (by omega)];rfl
 unfold Pu;rw[e (r.2.1.1,r.2.1.2) h.2.1,Ab,e (r.2.2.1.1,r.2.2.1.2) h.2.2];rfl
end
end Go.Vs
