import Derived.Test.YtmfmjngkbddenaaGreatDoorVsW5
import Derived.Test.YtmfmjngkbddenaaGreatDoorVsQo4
set_option linter.all false
namespace Go.Vs
noncomputable section
abbrev G9:=List UInt8×(Int×Option (List UInt8))×(Int×Option (List UInt8))×Int×Bool
abbrev tyR:Ty:=.P .S (.P (.P (.I .i64) (.L .Y)) (.P (.P (.I .i64) (.L .Y)) (.P (.I .i64) .B)))
abbrev Ly:Ty:=.P .S (.P (.P (.I .i64) (.H .Y)) (.P (.P (.I .i64) (.H .Y)) (.P (.I .i64) .B)))
def upR (r:Row):G9:=(r.1,((r.2.1.1,some r.2.1.2),((r.2.2.1.1,some r.2.2.1.2),r.2.2.2)))
def N4 (r:Row):G9:=(r.1,((r.2.1.1,none),((r.2.2.1.1,none),r.2.2.2)))
theorem Zbp:∀l:List Row,cvL tyR Ly l=some (l.map upR)
 | []=>rfl
 | r::l=>by
  have e:cv tyR Ly r=some (upR r):=rfl;simp only[cvL,e,Zbp l,Kc]
theorem Zbo:∀l:List Row,cvL Ly tyR (l.map upR)=some l
 | []=>rfl
 | r::l=>by
  have e:cv Ly tyR (upR r)=some r:=rfl;simp only[Kc,cvL,e,Zbo l]
def mvR (l:List Row) (k:Nat):List G9:=mvW tyR 0 k l
theorem Yiy (l:List Row) (k:Nat):mvR l k=(l.take k).map N4++(l.drop k).map upR:=by
 have e:mvR l k=(l.take k).map N4++(l.drop (0+k)).map upR:=rfl;rw[e,Kp]
theorem Yix (l:List Row) (k:Nat):(mvR l k).drop (k+1)=(l.drop (k+1)).map upR:=by
 rw[Yiy,List.drop_append,Knf (by simp;omega),Ks,Kn,Kta,<-Kdb,Kvc];by_cases h:k<=l.length
 ·rw[Kvd h,show k+(k+1-k)=k+1 by omega]
 ·rw[Knf (by omega),Knf (by omega)]
theorem Yi1 (l:List Row) (k:Nat) (h:k<=l.length):(mvW tyR 0 k l).length=l.length:=Zrr tyR 0 k l (by omega)
theorem Yiz (l:List Row) (k n:Nat):cvL Ly tyR (A9 n (C0 (k+1) (mvW tyR 0 k l)))=some ((l.drop (k+1)).take n):=by
 have e:cvL Ly tyR (((mvR l k).drop (k+1)).take n)=some ((l.drop (k+1)).take n):=by
  rw[Yix,<-Kcb,Zbo]
 exact e
def wrF (r:Row) (s:List Row×Bool) (x:Row):List Row×Bool :=
 let s1:=if (!s.2&&!(sLt x.1 r.1))=true then (s.1++[r],true) else s
 if sEq x.1 r.1=true then s1 else (s1.1++[x],s1.2)
def wrS (l:List Row) (r:Row) (i:Nat):List Row×Bool:=(l.take i).foldl (wrF r) ([],false)
def wrR (l:List Row) (r:Row):List Row:=if (wrS l r l.length).2=true then (wrS l r l.length).1 else (wrS l r l.length).1++[r]
def hsS (l:List Row) (r:Row) (i:Nat):List G9:=(l.take i).map (fun x=>if sEq x.1 r.1=true then upR x else N4 x)++(l.drop i).map upR
theorem Zes {l:List Row}{r:Row}{i:Nat}(h:i<l.length):wrS l r (i+1)=wrF r (wrS l r i) l[i]:=by
 unfold wrS;rw[Kfc h,Kse];rfl
theorem Us (l:List Row) (r:Row):∀i,i<=l.length->(wrS l r i).1.length+(if (wrS l r i).2=true then 0 else 1)<=i+1
 | 0,_=>by simp [wrS]
 | i+1,h=>by
  have ih:=Us l r i (by omega);rw[Zes (by omega)];generalize wrS l r i=s at ih;obtain⟨o,p⟩:=s;unfold wrF;cases p<;>cases sLt l[i].1 r.1<;>cases sEq l[i].1 r.1<;>simp at ih ⊢<;>omega
theorem Zl5 (l:List Row) (r:Row):∀i,i<=l.length->∀x∈(wrS l r i).1,x=r\/x∈l
 | 0,_,x,hx=>by simp [wrS]at hx
 | i+1,h,x,hx=>by
  have ih:=Zl5 l r i (by omega);rw[Zes (by omega)]at hx;generalize wrS l r i=s at ih hx;obtain⟨o,p⟩:=s;have hm:=Ktb (show i<l.length by omega);have key:x∈o\/x=r\/x=l[i]:=by
   revert hx
   unfold wrF;cases p<;>cases sLt l[i].1 r.1<;>cases sEq l[i].1 r.1<;>simp<;>intro hx<;>first|exact .inl hx|(rcases hx with h|h|h<;>simp [h])|(rcases hx with h|h<;>simp [h])
  rcases key with h|h|h
  ·exact ih x h
  ·exact .inl h
  ·exact .inr (h ▸ hm)
theorem Ynq (l:List Row) (r:Row):(wrR l r).length<=l.length+1:=by
 have:=Us l r l.length (Kd _);unfold wrR;split
 ·omega
 ·rename_i h;rw[if_neg h]at this;simp;omega
theorem Ynr {l:List Row}{r x:Row}(h:x∈wrR l r):x=r\/x∈l:=by
 unfold wrR at h;split at h
 ·exact Zl5 l r _ (Kd _) x h
 ·rcases Kea.1 h with h|h
  ·exact Zl5 l r _ (Kd _) x h
  ·exact .inl (by simpa using h)
theorem Zcf {l:List Row}{r:Row}{i:Nat}(h:i<=l.length):(hsS l r i).length=l.length:=by
 simp only[hsS,Kab,Kn,Kta,Kia];omega
theorem Zhy {l:List Row}{r:Row}{i:Nat}(h:i<l.length):(hsS l r i)[i]? = some (upR l[i]):=by
 unfold hsS;rw[Kfa (by simp;omega)];simp only[Kn,Kta];rw[show i-min i l.length=0 by omega,Kz,Kva,Kba,Kr h];rfl
theorem Zqf {l:List Row}{r:Row}{i:Nat}(h:i<l.length):(hsS l r i).set i (if sEq l[i].1 r.1=true then upR l[i] else N4 l[i])=hsS l r (i+1):=by
 unfold hsS;rw[Kkf _ _ (by simp;omega),Kzb h,Kfc h];simp only[Kn,Kta,Kc,Kw,Ksb,Klb];rw[show i-min i l.length=0 by omega];rfl
theorem Zqe {l:List Row}{r:Row}{i:Nat}(h:i<l.length) (he:sEq l[i].1 r.1=true):hsS l r i=hsS l r (i+1):=by
 rw[<-Zqf h,if_pos he];apply Ksc;intro j;rw[Kya];split
 ·rename_i e;subst e;rw[if_pos (by rw[Zcf (by omega)];exact h)];exact Zhy h
 ·rfl
theorem Zqd {l:List Row}{r:Row}{i:Nat}(h:i<l.length) (he:sEq l[i].1 r.1=false):(hsS l r i).set i (N4 l[i])=hsS l r (i+1):=by
 rw[<-Zqf h,if_neg (by simp [he])]
theorem Yk6 {l:List Row}{r:Row}(hl:l.length<=1048576) (hr:smR 1048576 r):Vf (l.map upR,r)=some (wrR l r):=by
 have hc:=Ztz hr;have lp:Ar (Zas (l.map upR,r)) (l.map upR,([],(false,0)))=some (.inl (wrS l r l.length)):=by
  refine Jp (fun i=>(hsS l r i,((wrS l r i).1,((wrS l r i).2,(i:Int))))) l.length _ (fun i hi=>?_) ?_ _ (by simp [hsS,wrS])
  ·have hln:(hsS l r i).length=l.length:=Zcf (by omega);have hat:=Zhy (r:=r) hi;have hw:=Us l r i (by omega);have hat2:∀X,((hsS l r i).set i X)[i]? = some X:=fun X=>Kqc (by omega);have hg:=Zqd (r:=r) hi;have hsm:=Zqe (r:=r) hi;rw[Zas];simp only[Zes hi,wrF];rw[A6 (by rw[Aj,hln];omega),Ag];simp only[Gd,Mf,D9,hat,Ab,Am,hat2,Ktc,A0];generalize wrS l r i=s at hw;obtain⟨o,p⟩:=s;simp only at hw;have r1:Bp (o.length+1) 96=true:=Dt (by split at hw<;>omega)
   have r2:Bp ((o++[r]).length+1) 96=true:=Dt (by simp;split at hw<;>omega)
   have e1:(upR l[i]).1=l[i].1:=rfl;have e2:Gc (upR l[i]).2.1.2=true:=rfl;have e3:Gc (upR l[i]).2.2.1.2=true:=rfl;have e4:(l[i].1,((upR l[i]).2.1.1,Hu (upR l[i]).2.1.2),((upR l[i]).2.2.1.1,Hu (upR l[i]).2.2.1.2),(upR l[i]).2.2.2)=l[i]:=rfl;have e5:(l[i].1,((upR l[i]).2.1.1,none),((upR l[i]).2.2.1.1,none),(upR l[i]).2.2.2)=N4 l[i]:=rfl;simp only[e1,e2,e3,e4,e5,A4,hc,Ab,Dg (show i<9223372036854775807 by omega)];cases p<;>cases hlt:sLt l[i].1 r.1<;>cases heq:sEq l[i].1 r.1 <;>
    simp only[Bd,Cp,Ag,Ae,Ab,r1,r2,A4,A2,Kkd,Ktd,Kbe,Kof,Knc,Kud,if_true,Kka,if_false] <;>
    first
     | rw[<-hsm heq]
     | rw[hg heq]
  ·rw[Zas];simp only;rw[A3 (by rw[Aj,Zcf (Kd _)];omega),Ae]
 rw[Vf];simp only;rw[lp,A2,hc,Ab];have hw:=Us l r l.length (Kd _);unfold wrR;cases hp:(wrS l r l.length).2 with
 | true=>rw[Bd,Ae,A2,if_pos rfl]
 | false =>
  rw[hp]at hw;rw[Cp,Ag,Dt (by simp at hw;omega),A4,A2,if_neg (by simp)];rfl
theorem Yhp {l:List Row}{r:Row}(hl:l.length<=1048576) (hr:smR 1048576 r):U4 (l.map upR,r)=some (wrR l r):=by
 have hc:=Zqh hr;have lp:Ar (Zai (l.map upR,r)) ([],(false,(l.map upR,0)))=some (.inl (wrS l r l.length)):=by
  refine Jp (fun i=>((wrS l r i).1,((wrS l r i).2,(hsS l r i,(i:Int))))) l.length _ (fun i hi=>?_) ?_ _ (by simp [hsS,wrS])
  ·have hln:(hsS l r i).length=l.length:=Zcf (by omega);have hat:=Zhy (r:=r) hi;have hw:=Us l r i (by omega);have hat2:∀X,((hsS l r i).set i X)[i]? = some X:=fun X=>Kqc (by omega);have hg:=Zqd (r:=r) hi;have hsm:=Zqe (r:=r) hi;rw[Zai];simp only[Zes hi,wrF];rw[A6 (by rw[Aj,Kn];omega),Ag];simp only[Gd,Mf,D9,hat,Ab,Am,hat2,Ktc,A0];generalize wrS l r i=s at hw;obtain⟨o,p⟩:=s;simp only at hw;have r1:Bp (o.length+1) 96=true:=Dt (by split at hw<;>omega)
   have r2:Bp ((o++[r]).length+1) 96=true:=Dt (by simp;split at hw<;>omega)
   have e1:(upR l[i]).1=l[i].1:=rfl;have e2:Gc (upR l[i]).2.1.2=true:=rfl;have e3:Gc (upR l[i]).2.2.1.2=true:=rfl;have e4:(l[i].1,((upR l[i]).2.1.1,Hu (upR l[i]).2.1.2),((upR l[i]).2.2.1.1,Hu (upR l[i]).2.2.1.2),(upR l[i]).2.2.2)=l[i]:=rfl;have e5:(l[i].1,((upR l[i]).2.1.1,none),((upR l[i]).2.2.1.1,none),(upR l[i]).2.2.2)=N4 l[i]:=rfl;simp only[e1,e2,e3,e4,e5,A4,hc,Ab,Dg (show i<9223372036854775807 by omega)];cases p<;>cases hlt:sLt l[i].1 r.1<;>cases heq:sEq l[i].1 r.1 <;>
    simp only[Bd,Cp,Ag,Ae,Ab,r1,r2,A4,A2,Kkd,Ktd,Kbe,Kof,Knc,Kud,if_true,Kka,if_false] <;>
    first
     | rw[<-hsm heq]
     | rw[hg heq]
  ·rw[Zai];simp only;rw[A3 (by rw[Aj,Kn];omega),Ae]
 rw[U4];simp only;rw[lp,A2,hc,Ab];have hw:=Us l r l.length (Kd _);unfold wrR;cases hp:(wrS l r l.length).2 with
 | true=>rw[Bd,Ae,A2,if_pos rfl]
 | false =>
  rw[hp]at hw;rw[Cp,Ag,Dt (by simp at hw;omega),A4,A2,if_neg (by simp)];rfl
theorem Zhj {α σ ρ : Type} {step : σ → Option (σ ⊕ ρ)} (st : Nat → σ) (x : List α) (p : α → Bool) (found : Nat → ρ) (no : ρ)
    (hs : ∀ (i : Nat) (h : i < x.length), step (st i) = if p x[i] = true then some (.inr (found i)) else some (.inl (st (i + 1)))) (he : step (st x.length) = some (.inr no)) (s0 : σ) (h0 : s0 = st 0) :
    Ar step s0 = some (match x.findIdx? p with | some i => found i | none => no) := by
  obtain ⟨r, h1, h2⟩ := Jq (step := step) (fun i s => s = st i ∧ ∀ (j : Nat) (h : j < x.length), j < i → p x[j] = false) x.length (fun r => r = match x.findIdx? p with | some i => found i | none => no)
    (fun i s hi h => by
      obtain ⟨rfl, hp⟩ := h;rw [hs i hi];by_cases hq : p x[i] = true
      · refine .inr ⟨_, by rw [if_pos hq], ?_⟩
        have : x.findIdx? p = some i := by
          rw [Kpf];exact ⟨hi, hq, fun j hj => by simpa using hp j (by omega) hj⟩
        rw [this]
      · refine .inl ⟨_, by rw [if_neg hq], rfl, fun j hj hji => ?_⟩
        by_cases e : j = i
        · subst e; simpa using hq
        · exact hp j hj (by omega))
    (fun s h => by
      obtain ⟨rfl, hp⟩ := h;refine ⟨_, he, ?_⟩;have : x.findIdx? p = none := by
        rw [Kqf];intro y hy;obtain ⟨j, hj, rfl⟩ := Kad hy;exact hp j hj hj
      rw [this]) s0 ⟨h0, fun j _ h => absurd h (Kme _)⟩
  rw [h1, h2]
def Zdn (l:List Row) (key:List UInt8):Int:=match l.findIdx? (fun r=>r.1==key) with
 | some i=>(i:Int)
 | none=>-1
theorem Yku {t:Tab}{key:List UInt8}(h:t.1.length<9223372036854775807):Vb (t,key)=some (Zdn t.1 key):=by
 unfold Vb Zdn;exact Zhj (fun i=>(i:Int)) t.1 (fun r=>r.1==key) (fun i=>(i:Int)) (-1) (fun i hi=>by
  unfold Zfi;simp only;rw[A6 (by simp only[Aj];omega),Ag,B9 hi,Ab,Zkh,Znt,Dg (by omega)]) (by
  unfold Zfi;simp only;rw[A3 (by simp only[Aj];omega),Ae]) _ rfl
theorem Zt1 {x y:UInt8}{a b:List UInt8}:sLt (x::a) (y::b)=true ↔ x.toNat<y.toNat\/(x=y/\sLt a b=true):=by
 simp only[sLt,Op.bytesLess,Kfb,Ke,decide_eq_true_eq,beq_iff_eq];rw[UInt8.lt_iff_toNat_lt]
theorem Zdt {a:List UInt8}:sLt a []=false:=by cases a<;>rfl
theorem Zki:∀a:List UInt8,sLt a a=false
 | []=>rfl
 | x::a=>by
  cases h:sLt (x::a) (x::a) with
  | false=>rfl
  | true =>
   rcases Zt1.1 h with h|⟨_,h⟩
   ·omega
   ·rw[Zki a]at h;cases h
theorem Yki:∀{a b c:List UInt8},sLt a b=true->sLt b c=true->sLt a c=true:=by
 intro a
 induction a with
 | nil=>intro b c h1 h2;cases b with
  | nil=>rw[Zdt]at h1;cases h1
  | cons y b=>cases c with
   | nil=>rw[Zdt]at h2;cases h2
   | cons z c=>rfl
 | cons x a ih =>
  intro b c h1 h2;cases b with
  | nil=>rw[Zdt]at h1;cases h1
  | cons y b=>cases c with
   | nil=>rw[Zdt]at h2;cases h2
   | cons z c =>
    rw[Zt1]at h1 h2 ⊢;rcases h1 with h1|⟨rfl,h1⟩
    ·rcases h2 with h2|⟨rfl,h2⟩
     ·left;omega
     ·exact .inl h1
    ·rcases h2 with h2|⟨rfl,h2⟩
     ·exact .inl h2
     ·exact .inr ⟨rfl,ih h1 h2⟩
def Fy (key:List UInt8) (x:Row):Bool:=!(x.1==key)
def F7 (l:List Row) (key:List UInt8):List Row:=l.filter (Fy key)
abbrev Zw9:=Int×List UInt8×Int×Int×Int×Bool×List UInt8×Int×Int×Int×Int
def Sc (r:Rec):Zw9:=(r.1,(r.2.1.1,(r.2.1.2.1.1,(r.2.1.2.2.1.1,(r.2.1.2.2.2.1,(r.2.1.2.2.2.2,(r.2.2.1,(r.2.2.2.1,(r.2.2.2.2.1,(r.2.2.2.2.2.1,r.2.2.2.2.2.2))))))))))
def Zh6 (r:Rec) (i:Nat):Int×List UInt8×Int×Int×Int×Bool×List UInt8×Int×Int×Int×Int×Int:=(r.1,(r.2.1.1,(r.2.1.2.1.1,(r.2.1.2.2.1.1,(r.2.1.2.2.2.1,(r.2.1.2.2.2.2,(r.2.2.1,(r.2.2.2.1,(r.2.2.2.2.1,(r.2.2.2.2.2.1,(r.2.2.2.2.2.2,(i:Int))))))))))))
theorem Yg5 {l:List Row}{r:Rec}(hl:l.length<=1048576):Z9 (l,r)=some (match l.findIdx? (fun x=>x.1==r.2.2.1) with|some i=>((i:Int),Sc r)|none=>(-1,Sc r)):=by
 rw[Z9];exact Zhj (Zh6 r) l (fun x=>x.1==r.2.2.1) (fun i=>((i:Int),Sc r)) (-1,Sc r) (fun i hi=>by
  rw[Zfm];simp only[Zh6,Uu];rw[A6 (by rw[Aj];omega),Ag,B9 hi,Ab,Ab,Zkh,Znt,Dg (by omega)];rfl) (by
  rw[Zfm];simp only[Zh6];rw[A3 (by rw[Aj];omega),Ae];rfl) _ rfl
def P7 (r:Rec) (H:List G9) (i:Int) (j:Int):List G9×Int×List UInt8×Int×Int×Int×Bool×List UInt8×Int×Int×Int×Int×Int×Int:=(H,(r.1,(r.2.1.1,(r.2.1.2.1.1,(r.2.1.2.2.1.1,(r.2.1.2.2.2.1,(r.2.1.2.2.2.2,(r.2.2.1,(r.2.2.2.1,(r.2.2.2.2.1,(r.2.2.2.2.2.1,(r.2.2.2.2.2.2,(i,j)))))))))))))
def Zgt (r:Rec) (H:List G9) (i:Int):List G9×Int×List UInt8×Int×Int×Int×Bool×List UInt8×Int×Int×Int×Int×Int:=(H,(r.1,(r.2.1.1,(r.2.1.2.1.1,(r.2.1.2.2.1.1,(r.2.1.2.2.2.1,(r.2.1.2.2.2.2,(r.2.2.1,(r.2.2.2.1,(r.2.2.2.2.1,(r.2.2.2.2.2.1,(r.2.2.2.2.2.2,i))))))))))))
def Y1 (l:List Row) (key:List UInt8) (H:List G9) (i j:Nat):Prop:=H.length=l.length/\i<j/\j<=l.length/\i=(F7 (l.take j) key).length/\H.take i=(F7 (l.take j) key).map upR/\∀k,j<=k->H[k]? = (l.map upR)[k]?
theorem Zy5 {l:List Row}{r:Rec}{H:List G9}{i j:Nat}(hl:l.length<=1048576) (h:Y1 l r.2.2.1 H i j) (hj:j<l.length) :
  ∃(H':List G9) (i':Nat),Vt (l.map upR,r) (P7 r H (i:Int) (j:Int))=some (.inl (P7 r H' (i':Int) ((j+1:Nat):Int)))/\Y1 l r.2.2.1 H' i' (j+1):=by
 obtain⟨h1,h2,h3,h4,h5,h6⟩:=h;have hjj:H[j]? = some (upR l[j]):=by rw[h6 j (Kd _),Kz,Kr hj];rfl
 have hii:H[i]? = some (H[i]'(by omega)):=Kr (by omega);have htk:l.take (j+1)=l.take j++[l[j]]:=Kfc hj;have e1:Gc (upR l[j]).2.1.2=true:=rfl;have e2:Gc (upR l[j]).2.2.1.2=true:=rfl;rw[Vt];simp only[P7,Uu];rw[A6 (by rw[Aj];omega),Ag,Gd,hjj,Ab,e1,e2,A4,A4,Ab,Zkh];have e3:(upR l[j]).1=l[j].1:=rfl;rw[e3];cases hp:(l[j].1==r.2.2.1) with
 | true =>
  refine⟨H,i, ?_,h1,by omega,by omega, ?_, ?_,fun k hk=>h6 k (by omega)⟩
  ·rw[Bd,Ae,A2,Dg (by omega)]
  ·rw[htk];simp only[F7,Kee]at h4 ⊢;simp [Fy,hp];exact h4
  ·rw[htk];simp only[F7,Kee]at h5 ⊢;rw[h5];simp [Fy,hp]
 | false =>
  refine⟨(H.set i (upR l[j])).set j (N4 l[j]),i+1, ?_,by simp [h1],by omega,by omega, ?_, ?_,fun k hk=>?_⟩
  ·have e4:nNe i j=true:=by simp [nNe];omega
   rw[Cp,Ag,Gd,hii,Ab];simp only[D9,e4,A4,Mf,hjj,Ab,Hw,A2,Am,Dg (show j<9223372036854775807 by omega),Dg (show i<9223372036854775807 by omega)];rfl
  ·rw[htk];simp only[F7,Kee]at h4 ⊢;simp [Fy,hp];exact h4
  ·have e5:(H.set i (upR l[j])).take (i+1)=H.take i++[upR l[j]]:=by
    rw[Kfc (by rw[Khe];omega),Kde (Kd i),List.getElem_set_self]
   rw[Kde (by omega),e5,htk];simp only[F7,Kee]at h5 ⊢;rw[h5];simp [Fy,hp]
  ·rw[Kcd (by omega),Kcd (by omega)];exact h6 k (by omega)
theorem Zyz (H:List G9) (L:List Row) (i n:Nat) (hi:i<=H.length) (h:H.take i=L.map upR) (z:G9):cvL Ly tyR (A9 (i-0) (A0 (A9 i H) (E7 n z)))=some L:=by
 have e:A9 (i-0) (A0 (A9 i H) (E7 n z))=L.map upR:=by
  simp only[A9,A0,Koc];rw[List.take_append_of_le_length (by simp;omega),List.take_take,Nat.min_self,h]
 rw[e,Zbo]
theorem Ygy {l : List Row} {r : Rec} (hl : l.length ≤ 1048576) : Vj (l.map upR, r) = some (F7 l r.2.2.1, Sc r) := by
  rw [Vj];simp only;rw [Zbo, Ab, Yg5 hl, Ab];cases hf : l.findIdx? (fun x => x.1 == r.2.2.1) with
  | none =>
    simp only [Ww, Ag, Ab];rw [Kqf] at hf;have : F7 l r.2.2.1 = l := Kxe.2 fun x hx => by simp [Fy, hf x hx]
    rw [this]
  | some k =>
    rw [Kpf] at hf;obtain ⟨hk, hk1, hk2⟩ := hf;simp only;rw [Ep (by omega), Ae];have hd0 : F7 (l.take (k + 1)) r.2.2.1 = l.take k := by
      rw [Kfc hk];unfold F7;rw [Kee];have e1 : (l.take k).filter (Fy r.2.2.1) = l.take k := Kxe.2 fun x hx => by
        obtain ⟨j, hj, rfl⟩ := Kad hx;rw [Kta] at hj;have := hk2 j (by omega);rw [Keg];simp only [Fy];simpa using this
      have e2 : ([l[k]] : List Row).filter (Fy r.2.2.1) = [] := by simp [Fy, hk1]
      rw [e1, e2, Kv]
    obtain ⟨out, q1, i, H, rfl, q2⟩ := Jq (step := Vt (l.map upR, r)) (fun n s => ∃ H i, s = P7 r H ((i : Nat) : Int) ((k + 1 + n : Nat) : Int) ∧ Y1 l r.2.2.1 H i (k + 1 + n)) (l.length - (k + 1)) (fun o => ∃ i H, o = .inl (Zgt r H ((i : Nat) : Int)) ∧ Y1 l r.2.2.1 H i l.length)
      (fun n s hn hs => by
        obtain ⟨H, i, rfl, hi⟩ := hs;obtain ⟨H', i', g1, g2⟩ := Zy5 hl hi (by omega);exact .inl ⟨_, g1, H', i', by rw [show k + 1 + (n + 1) = k + 1 + n + 1 by omega], by rw [show k + 1 + (n + 1) = k + 1 + n + 1 by omega]; exact g2⟩)
      (fun s hs => by
        obtain ⟨H, i, rfl, hi⟩ := hs;have e : k + 1 + (l.length - (k + 1)) = l.length := by omega
        rw [e] at hi ⊢;refine ⟨.inl (Zgt r H (i : Int)), ?_, i, H, rfl, hi⟩;rw [Vt];simp only [P7];rw [A3 (by rw [Aj, hi.1]; omega), Ae];rfl)
      (P7 r (l.map upR) ((k : Nat) : Int) ((k + 1 + 0 : Nat) : Int)) ⟨_, _, rfl, by simp, by omega, by omega, by rw [Kba, hd0]; simp; omega, by rw [Kba, hd0, Kcb], fun _ _ => rfl⟩
    have q1' := q1;simp only [P7, Kba] at q1';simp only [Sc];rw [Dg (by omega), q1', A2];obtain ⟨g1, g2, g3, g4, g5, g6⟩ := q2;simp only [Zgt];have c1 : Co (i : Int) (Af H) (Af H) = true := by simp [Co, Af]; omega
    have c2 : nEq (nOf (i : Int) + (nOf (Af H) - nOf (i : Int))) H.length = true := by
      rw [Aj, D9, D9]; simp [nEq]; omega
    have c3 : ∀ z : G9, (A0 (A9 (nOf (i : Int)) H) (E7 (nOf (H.length : Int) - nOf (i : Int)) z)).length = H.length := fun z => by
      rw [D9, D9]; simp [A0, A9, E7]; omega
    have c4 : Co 0 (i : Int) (Af H) = true := by simp [Co, Af]; omega
    have c5 : Ht 0 (nOf (i : Int) - 0) H.length = true := by rw [D9]; simp [Ht]; omega
    rw [Kic] at g5;rw [c1, A4, c2, A4];simp only [Aj, c3];rw [Aj] at c4;rw [c4, A4, c5, A4];simp only [D9];rw [Zyz H (F7 l r.2.2.1) i _ (by omega) g5, Ab]
end
end Go.Vs
