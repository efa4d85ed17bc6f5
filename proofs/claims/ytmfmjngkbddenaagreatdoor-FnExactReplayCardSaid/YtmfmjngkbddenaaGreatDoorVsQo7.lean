import Derived.Test.YtmfmjngkbddenaaGreatDoorVsW5
import Derived.Test.YtmfmjngkbddenaaGreatDoorVsQo6
set_option linter.all false
namespace Go.Vs
noncomputable section
theorem Zau {α σ ρ:Type}{step:σ->Option (σ ⊕ ρ)}(st:Nat->σ) (x:List α) (p:α->Bool) (no yes:ρ)
  (hs:∀(i:Nat) (h:i<x.length),step (st i)=if p x[i]=true then some (.inl (st (i+1))) else some (.inr no)) (he:step (st x.length)=some (.inr yes)) (s0:σ) (h0:s0=st 0) :
  Ar step s0=some (if x.all p=true then yes else no):=by
 rw[Zhj (step:=step) st x (fun a=>!p a) (fun _=>no) yes (fun i hi=>by
  rw[hs i hi];cases p x[i]<;>rfl) he s0 h0]
 cases hq:x.findIdx? (fun a=>!p a) with
 | none =>
  rw[Kqf]at hq;rw[if_pos (Kma.2 fun a ha=>by simpa using hq a ha)]
 | some i =>
  rw[Kpf]at hq;obtain⟨h1,h2,_⟩:=hq;rw[if_neg (fun h=>by
   have:=Kma.1 h _ (Ktb h1);rw[this]at h2;cases h2)]
theorem Zij {ρ:Type}(c:Prop) [Decidable c] (r:ρ) (k:Unit->Option ρ):Aq (some (if c then (Sum.inl ():Unit ⊕ ρ) else .inr r)) k=if c then k () else some r:=by
 split<;>rfl
def O3 (b:List UInt8):Bool:=decide (b.length<=120)
def wrB (m:Int) (w:Wr):Bool:=decide (0<=w.1/\w.1<=m)&&decide (w.2.length<=120)
theorem Zn7 (secs:List (List UInt8)) (cache:List Wr) (fuse:Int):Ig secs cache fuse=(decide (1<=(secs.length:Int)/\(secs.length:Int)<=64)&&decide ((cache.length:Int)<=40)&&decide (-1<=fuse/\fuse<=1000)&&secs.all O3&&cache.all (wrB ((secs.length:Int)-1))):=by
 rw[Klc];simp only[Ig,Ke,decide_eq_true_eq,Kma,O3,wrB];constructor
 ·rintro ⟨a,b,c,d,e⟩;exact⟨⟨⟨⟨⟨by omega,by omega⟩,by omega⟩,c⟩,d⟩,fun w hw=>⟨⟨(e w hw).1,(e w hw).2.1⟩,(e w hw).2.2⟩⟩
 ·rintro ⟨⟨⟨⟨a,b⟩,c⟩,d⟩,e⟩;exact⟨⟨by omega,by omega⟩,by omega,c,d,fun w hw=>⟨(e w hw).1.1,(e w hw).1.2,(e w hw).2⟩⟩
theorem Ygz {x:Dv}(h:SmD x):Uw x=some (Ig x.1 x.2.1 x.2.2.1):=by
 obtain⟨secs,cache,fuse,down⟩:=x;obtain⟨h1,h2,h3,h4⟩:=h;simp only at h1 h2 h3 h4;have es:Ax .i64 (Af secs) 1=(secs.length:Int)-1:=D7 (by simp only[Aj];omega) (by simp only[Aj];omega);unfold Uw;simp only[Aj];rw[K6,Ab,Zn7];by_cases ha:1<=(secs.length:Int)/\(secs.length:Int)<=64
 case neg=>rw[decide_eq_false ha,Cp,Ag];simp
 rw[decide_eq_true ha,Bd,Ae];by_cases hb:(cache.length:Int)<=40
 case neg=>rw[Dp (by omega),Ag,decide_eq_false hb];simp
 rw[Er hb,Ae,decide_eq_true hb,K6,Ab];by_cases hc:-1<=fuse/\fuse<=1000
 case neg=>rw[decide_eq_false hc,Cp,Ag];simp
 rw[decide_eq_true hc,Bd,Ae];rw[Zau (step:=Zac (secs,(cache,(fuse,down)))) (fun i=>(i:Int)) secs O3 (.inr false) (.inl ()) (fun i hi=>by
  unfold Zac;simp only;rw[A6 (by simp only[Aj];omega),Ag,B9 hi,Ab,Dg (by omega)];unfold O3;by_cases hb:secs[i].length<=120
  ·rw[Er (by simp only[Aj];omega),Ae,decide_eq_true hb,if_pos (by simp)]
  ·rw[Dp (by simp only[Aj];omega),Ag,decide_eq_false hb,if_neg (by simp)]) (by
  unfold Zac;simp only;rw[A3 (by simp only[Aj];omega),Ae]) (0:Int) rfl,Zij]
 split
 case isFalse hn =>
  have:secs.all O3=false:=by simpa using hn
  rw[this];simp
 rename_i hy;rw[Zau (step:=Zad (secs,(cache,(fuse,down)))) (fun i=>(i:Int)) cache (wrB ((secs.length:Int)-1)) false true (fun i hi=>by
  unfold Zad;simp only;rw[A6 (by simp only[Aj];omega),Ag,B9 hi,Ab,es,K6,Ab,Dg (by omega)];unfold wrB;by_cases ha:0<=cache[i].1/\cache[i].1<=(secs.length:Int)-1
  ·rw[decide_eq_true ha,Bd,Ae];by_cases hb:cache[i].2.length<=120
   ·rw[Er (by simp only[Aj];omega),Ae,decide_eq_true hb,if_pos (by simp)]
   ·rw[Dp (by simp only[Aj];omega),Ag,decide_eq_false hb,if_neg (by simp)]
  ·rw[decide_eq_false ha,Cp,Ag,if_neg (by simp)]) (by
  unfold Zad;simp only;rw[A3 (by simp only[Aj];omega),Ae]) (0:Int) rfl,hy]
 cases cache.all (wrB ((secs.length:Int)-1))<;>simp
theorem Ykm {x:Dv}(h:SmD x):Zz x=some (Ig x.1 x.2.1 x.2.2.1):=by
 obtain⟨secs,cache,fuse,down⟩:=x;obtain⟨h1,h2,h3,h4⟩:=h;simp only at h1 h2 h3 h4;have es:Ax .i64 (Af secs) 1=(secs.length:Int)-1:=D7 (by simp only[Aj];omega) (by simp only[Aj];omega);unfold Zz;simp only;rw[Zau (step:=Zao (secs,(cache,(fuse,down)))) (fun i=>(i:Int)) secs O3 (.inr false) (.inl ()) (fun i hi=>by
  unfold Zao;simp only;rw[A6 (by simp only[Aj];omega),Ag,B9 hi,Ab,Dg (by omega)];unfold O3;by_cases hb:secs[i].length<=120
  ·rw[Er (by simp only[Aj];omega),Ae,decide_eq_true hb,if_pos (by simp)]
  ·rw[Dp (by simp only[Aj];omega),Ag,decide_eq_false hb,if_neg (by simp)]) (by
  unfold Zao;simp only;rw[A3 (by simp only[Aj];omega),Ae]) (0:Int) rfl,Zij]
 rw[Zn7];split
 case isFalse hn =>
  have:secs.all O3=false:=by simpa using hn
  rw[this];simp
 rename_i hy;rw[Zau (step:=Zap (secs,(cache,(fuse,down)))) (fun i=>(i:Int)) cache (wrB ((secs.length:Int)-1)) (.inr false) (.inl ()) (fun i hi=>by
  unfold Zap;simp only;rw[A6 (by simp only[Aj];omega),Ag,B9 hi,Ab,es,Ee,Ab,Ab,Dg (by omega)];unfold wrB;by_cases ha:0<=cache[i].1/\cache[i].1<=(secs.length:Int)-1
  ·rw[decide_eq_true ha,Bd,Ae];by_cases hb:cache[i].2.length<=120
   ·rw[Er (by simp only[Aj];omega),Ae,decide_eq_true hb,if_pos (by simp)]
   ·rw[Dp (by simp only[Aj];omega),Ag,decide_eq_false hb,if_neg (by simp)]
  ·rw[decide_eq_false ha,Cp,Ag,if_neg (by simp)]) (by
  unfold Zap;simp only;rw[A3 (by simp only[Aj];omega),Ae]) (0:Int) rfl,Zij]
 split
 case isFalse hn =>
  have:cache.all (wrB ((secs.length:Int)-1))=false:=by simpa using hn
  rw[this];simp
 rename_i hz;simp only[Aj];rw[Ee,Ab,hy,hz];simp only[Kbe];by_cases ha:1<=(secs.length:Int)/\(secs.length:Int)<=64
 case neg=>rw[decide_eq_false ha,Ae];simp
 rw[decide_eq_true ha,Ag];by_cases hb:(cache.length:Int)<=40
 case neg=>rw[Jl (by omega),Ae,decide_eq_false hb];simp
 rw[Gv hb,Ag,Ee,Ab,decide_eq_true hb];simp
def Yml (z:Int):Rec:=(3,([],(0,[]),(0,[]),0,false),[],z,0,0,0)
def rdD (x:Dv) (n:Int):List UInt8:=Ox x.1 x.2.1 x.2.2.1 n
theorem Yks {x:Dv}{n:Int}(h:SmD x):Va (x,n)=some (rdD x n):=by
 unfold Va rdD;simp only;have h1:=h.1;have h3:=h.2.2.1;rw[Ykm h,Zmp,Ab,decide_eq_true (by exact⟨by omega,by omega,fun b hb=>by have:=h.2.1 b hb;omega,fun w hw=>by have:=h.2.2.2 w hw;omega⟩),A4]
theorem Yg8 {x : Dv} {n : Int} (h : SmD x) : Y8 (x, n) = some (rdD x n) := by
  have h1 := h.1;have h3 := h.2.2.1;have es : Ax .i64 (Af x.1) 1 = (x.1.length : Int) - 1 := D7 (by simp only [Aj]; omega) (by simp only [Aj]; omega);have ec : Ax .i64 (Af x.2.1) 1 = (x.2.1.length : Int) - 1 := D7 (by simp only [Aj]; omega) (by simp only [Aj]; omega);unfold Y8 rdD;simp only [es, ec];rw [show Uw (x.1, (x.2.1, (x.2.2.1, x.2.2.2))) = some (Ig x.1 x.2.1 x.2.2.1) from Ygz h, Ab];cases hk : Ig x.1 x.2.1 x.2.2.1 with
  | false => rw [Cp, Ag, Zdf (fun h => by rw [hk] at h; cases h.1)]
  | true =>
    obtain ⟨_, d2, d3, d4, d5⟩ := Zy6 hk;rw [Bd, Ae, K6, Ab];by_cases ha : 0 ≤ n ∧ n ≤ (x.1.length : Int) - 1
    case neg => rw [decide_eq_false ha, Cp, Ag, Zdf (fun h => ha h.2)]
    rw [decide_eq_true ha, Bd, Ae];obtain ⟨k, rfl⟩ := Kdd ha.1;have hkl : k < x.1.length := by omega
    have hsk := d4 _ (Ktb hkl);rw [Zst hk hkl];obtain ⟨r, e1, e2⟩ := Jq (step := Zae (x, (k : Int))) (fun j (s : Int) => s = ((x.2.1.length - j : Nat) : Int) - 1 ∧ rdL x.2.1 k x.1[k] = rdL (x.2.1.take (x.2.1.length - j)) k x.1[k]) x.2.1.length (fun r => (r = .inl () ∧ rdL x.2.1 k x.1[k] = x.1[k]) ∨ r = .inr (rdL x.2.1 k x.1[k]))
      (fun j s hj hinv => by
        obtain ⟨rfl, hr⟩ := hinv;have hi : x.2.1.length - j - 1 < x.2.1.length := by omega
        have hwl := (d5 _ (Ktb hi)).2.2;have e0 : ((x.2.1.length - j : Nat) : Int) - 1 = ((x.2.1.length - j - 1 : Nat) : Int) := by omega
        unfold Zae;simp only;rw [e0, Tb (by omega), Ag, B9 hi, Ab, Ygt];by_cases hw : x.2.1[x.2.1.length - j - 1].1 = (k : Int)
        · rw [decide_eq_true hw, Ag, Ab, Zcn (by omega), Ab]
          refine .inr ⟨_, rfl, .inr ?_⟩;have := Zsr (b := x.1[k]) hi hw;rw [show x.2.1.length - j - 1 + 1 = x.2.1.length - j by omega] at this;rw [hr, this]
        · rw [decide_eq_false hw, Ae]
          refine .inl ⟨_, rfl, ?_, ?_⟩
          · rw [D7 (by omega) (by omega)]; omega
          · have := Zss (b := x.1[k]) hi hw
            rw [show x.2.1.length - j - 1 + 1 = x.2.1.length - j by omega] at this;rw [hr, this, show x.2.1.length - (j + 1) = x.2.1.length - j - 1 by omega])
      (fun s hinv => by
        obtain ⟨rfl, hr⟩ := hinv;refine ⟨.inl (), ?_, .inl ⟨rfl, ?_⟩⟩
        · unfold Zae
          simp only;rw [Qn (by omega), Ae]
        · rw [hr, Kjf]; rfl)
      ((x.2.1.length : Int) - 1) ⟨by simp, by simp⟩
    rw [e1];rcases e2 with ⟨rfl, e2⟩ | rfl
    · rw [A2, B9 hkl, Ab, Zcn (by omega), Ab, e2]
    · rfl
end
end Go.Vs
