import Derived.Test.YtmfmjngkbddenaaGreatDoorVsW5
import Derived.Test.YtmfmjngkbddenaaGreatDoorVsQo4
set_option linter.all false
namespace Go.Vs
noncomputable section
abbrev Ho:=List UInt8×(Int×Option (List UInt8))×(Int×Option (List UInt8))×Int×Bool
abbrev tyR:Ty:=.P .S (.P (.P (.I .i64) (.L .Y)) (.P (.P (.I .i64) (.L .Y)) (.P (.I .i64) .B)))
abbrev L1:Ty:=.P .S (.P (.P (.I .i64) (.H .Y)) (.P (.P (.I .i64) (.H .Y)) (.P (.I .i64) .B)))
def upR (r:Row):Ho:=(r.1,((r.2.1.1,some r.2.1.2),((r.2.2.1.1,some r.2.2.1.2),r.2.2.2)))
def Oz (r:Row):Ho:=(r.1,((r.2.1.1,none),((r.2.2.1.1,none),r.2.2.2)))
theorem Zcr:∀l:List Row,cvL tyR L1 l=some (l.map upR)
 | []=>rfl
 | r::l=>by
  have e:cv tyR L1 r=some (upR r):=rfl;simp only[cvL,e,Zcr l,Kc]
theorem Zcq:∀l:List Row,cvL L1 tyR (l.map upR)=some l
 | []=>rfl
 | r::l=>by
  have e:cv L1 tyR (upR r)=some r:=rfl;simp only[Kc,cvL,e,Zcq l]
def mvR (l:List Row) (k:Nat):List Ho:=mvW tyR 0 k l
theorem Ym3 (l:List Row) (k:Nat):mvR l k=(l.take k).map Oz++(l.drop k).map upR:=by
 have e:mvR l k=(l.take k).map Oz++(l.drop (0+k)).map upR:=rfl;rw[e,Kr]
theorem Ym2 (l:List Row) (k:Nat):(mvR l k).drop (k+1)=(l.drop (k+1)).map upR:=by
 rw[Ym3,List.drop_append,Kof (by simp;omega),Kp,Ko,Kbb,<-Keb,Ked];by_cases h:k<=l.length
 ·rw[Kpd h,show k+(k+1-k)=k+1 by omega]
 ·rw[Kof (by omega),Kof (by omega)]
theorem Ym6 (l:List Row) (k:Nat) (h:k<=l.length):(mvW tyR 0 k l).length=l.length:=Zt9 tyR 0 k l (by omega)
theorem Ym4 (l:List Row) (k n:Nat):cvL L1 tyR (Bq n (Dk (k+1) (mvW tyR 0 k l)))=some ((l.drop (k+1)).take n):=by
 have e:cvL L1 tyR (((mvR l k).drop (k+1)).take n)=some ((l.drop (k+1)).take n):=by
  rw[Ym2,<-Kdb,Zcq]
 exact e
def wrF (r:Row) (s:List Row×Bool) (x:Row):List Row×Bool :=
 let s1:=if (!s.2&&!(sLt x.1 r.1))=true then (s.1++[r],true) else s
 if sEq x.1 r.1=true then s1 else (s1.1++[x],s1.2)
def wrS (l:List Row) (r:Row) (i:Nat):List Row×Bool:=(l.take i).foldl (wrF r) ([],false)
def wrR (l:List Row) (r:Row):List Row:=if (wrS l r l.length).2=true then (wrS l r l.length).1 else (wrS l r l.length).1++[r]
def hsS (l:List Row) (r:Row) (i:Nat):List Ho:=(l.take i).map (fun x=>if sEq x.1 r.1=true then upR x else Oz x)++(l.drop i).map upR
theorem Zfv {l:List Row}{r:Row}{i:Nat}(h:i<l.length):wrS l r (i+1)=wrF r (wrS l r i) l[i]:=by
 unfold wrS;rw[Kec h,Klf];rfl
theorem Vd (l:List Row) (r:Row):∀i,i<=l.length->(wrS l r i).1.length+(if (wrS l r i).2=true then 0 else 1)<=i+1
 | 0,_=>by simp [wrS]
 | i+1,h=>by
  have ih:=Vd l r i (by omega);rw[Zfv (by omega)];generalize wrS l r i=s at ih;obtain⟨o,p⟩:=s;unfold wrF;cases p<;>cases sLt l[i].1 r.1<;>cases sEq l[i].1 r.1<;>simp at ih ⊢<;>omega
theorem Zn8 (l:List Row) (r:Row):∀i,i<=l.length->∀x∈(wrS l r i).1,x=r\/x∈l
 | 0,_,x,hx=>by simp [wrS]at hx
 | i+1,h,x,hx=>by
  have ih:=Zn8 l r i (by omega);rw[Zfv (by omega)]at hx;generalize wrS l r i=s at ih hx;obtain⟨o,p⟩:=s;have hm:=Khb (show i<l.length by omega);have key:x∈o\/x=r\/x=l[i]:=by
   revert hx
   unfold wrF;cases p<;>cases sLt l[i].1 r.1<;>cases sEq l[i].1 r.1<;>simp<;>intro hx<;>first|exact .inl hx|(rcases hx with h|h|h<;>simp [h])|(rcases hx with h|h<;>simp [h])
  rcases key with h|h|h
  ·exact ih x h
  ·exact .inl h
  ·exact .inr (h ▸ hm)
theorem Yr2 (l:List Row) (r:Row):(wrR l r).length<=l.length+1:=by
 have:=Vd l r l.length (Kd _);unfold wrR;split
 ·omega
 ·rename_i h;rw[if_neg h]at this;simp;omega
theorem Yr3 {l:List Row}{r x:Row}(h:x∈wrR l r):x=r\/x∈l:=by
 unfold wrR at h;split at h
 ·exact Zn8 l r _ (Kd _) x h
 ·rcases Kda.1 h with h|h
  ·exact Zn8 l r _ (Kd _) x h
  ·exact .inl (by simpa using h)
theorem Zdm {l:List Row}{r:Row}{i:Nat}(h:i<=l.length):(hsS l r i).length=l.length:=by
 simp only[hsS,Ky,Ko,Kbb,Kra];omega
theorem Zjd {l:List Row}{r:Row}{i:Nat}(h:i<l.length):(hsS l r i)[i]? = some (upR l[i]):=by
 unfold hsS;rw[Kga (by simp;omega)];simp only[Ko,Kbb];rw[show i-min i l.length=0 by omega,Kaa,Kva,Kca,Kq h];rfl
theorem Zst {l:List Row}{r:Row}{i:Nat}(h:i<l.length):(hsS l r i).set i (if sEq l[i].1 r.1=true then upR l[i] else Oz l[i])=hsS l r (i+1):=by
 unfold hsS;rw[Kpe _ _ (by simp;omega),Kfc h,Kec h];simp only[Ko,Kbb,Kc,Kv,Ksb,Kwa];rw[show i-min i l.length=0 by omega];rfl
theorem Zss {l:List Row}{r:Row}{i:Nat}(h:i<l.length) (he:sEq l[i].1 r.1=true):hsS l r i=hsS l r (i+1):=by
 rw[<-Zst h,if_pos he];apply Ksc;intro j;rw[Kcb];split
 ·rename_i e;subst e;rw[if_pos (by rw[Zdm (by omega)];exact h)];exact Zjd h
 ·rfl
theorem Zsr {l:List Row}{r:Row}{i:Nat}(h:i<l.length) (he:sEq l[i].1 r.1=false):(hsS l r i).set i (Oz l[i])=hsS l r (i+1):=by
 rw[<-Zst h,if_neg (by simp [he])]
theorem Yo8 {l:List Row}{r:Row}(hl:l.length<=1048576) (hr:smR 1048576 r):Wa (l.map upR,r)=some (wrR l r):=by
 have hc:=Zl6 hr;have lp:Ar (Zbs (l.map upR,r)) (l.map upR,([],(false,0)))=some (.inl (wrS l r l.length)):=by
  refine Hv (fun i=>(hsS l r i,((wrS l r i).1,((wrS l r i).2,(i:Int))))) l.length _ (fun i hi=>?_) ?_ _ (by simp [hsS,wrS])
  ·have hln:(hsS l r i).length=l.length:=Zdm (by omega);have hat:=Zjd (r:=r) hi;have hw:=Vd l r i (by omega);have hat2:∀X,((hsS l r i).set i X)[i]? = some X:=fun X=>Kqc (by omega);have hg:=Zsr (r:=r) hi;have hsm:=Zss (r:=r) hi;rw[Zbs];simp only[Zfv hi,wrF];rw[A4 (by rw[Aj,hln];omega),Ag];simp only[Gr,Mz,D9,hat,Ab,Ap,hat2,Ktc,Al];generalize wrS l r i=s at hw;obtain⟨o,p⟩:=s;simp only at hw;have r1:A1 (o.length+1) 96=true:=Bk (by split at hw<;>omega)
   have r2:A1 ((o++[r]).length+1) 96=true:=Bk (by simp;split at hw<;>omega)
   have e1:(upR l[i]).1=l[i].1:=rfl;have e2:Gq (upR l[i]).2.1.2=true:=rfl;have e3:Gq (upR l[i]).2.2.1.2=true:=rfl;have e4:(l[i].1,((upR l[i]).2.1.1,Ic (upR l[i]).2.1.2),((upR l[i]).2.2.1.1,Ic (upR l[i]).2.2.1.2),(upR l[i]).2.2.2)=l[i]:=rfl;have e5:(l[i].1,((upR l[i]).2.1.1,none),((upR l[i]).2.2.1.1,none),(upR l[i]).2.2.2)=Oz l[i]:=rfl;simp only[e1,e2,e3,e4,e5,Av,hc,Ab,Cs (show i<9223372036854775807 by omega)];cases p<;>cases hlt:sLt l[i].1 r.1<;>cases heq:sEq l[i].1 r.1 <;>
    simp only[A5,B6,Ag,Ac,Ab,r1,r2,Av,A3,Kbd,Knd,Ktd,Kre,Knc,Kjd,if_true,Kja,if_false] <;>
    first
     | rw[<-hsm heq]
     | rw[hg heq]
  ·rw[Zbs];simp only;rw[A0 (by rw[Aj,Zdm (Kd _)];omega),Ac]
 rw[Wa];simp only;rw[lp,A3,hc,Ab];have hw:=Vd l r l.length (Kd _);unfold wrR;cases hp:(wrS l r l.length).2 with
 | true=>rw[A5,Ac,A3,if_pos rfl]
 | false =>
  rw[hp]at hw;rw[B6,Ag,Bk (by simp at hw;omega),Av,A3,if_neg (by simp)];rfl
theorem Ylq {l:List Row}{r:Row}(hl:l.length<=1048576) (hr:smR 1048576 r):Vq (l.map upR,r)=some (wrR l r):=by
 have hc:=Zjf hr;have lp:Ar (Zbg (l.map upR,r)) ([],(false,(l.map upR,0)))=some (.inl (wrS l r l.length)):=by
  refine Hv (fun i=>((wrS l r i).1,((wrS l r i).2,(hsS l r i,(i:Int))))) l.length _ (fun i hi=>?_) ?_ _ (by simp [hsS,wrS])
  ·have hln:(hsS l r i).length=l.length:=Zdm (by omega);have hat:=Zjd (r:=r) hi;have hw:=Vd l r i (by omega);have hat2:∀X,((hsS l r i).set i X)[i]? = some X:=fun X=>Kqc (by omega);have hg:=Zsr (r:=r) hi;have hsm:=Zss (r:=r) hi;rw[Zbg];simp only[Zfv hi,wrF];rw[A4 (by rw[Aj,Ko];omega),Ag];simp only[Gr,Mz,D9,hat,Ab,Ap,hat2,Ktc,Al];generalize wrS l r i=s at hw;obtain⟨o,p⟩:=s;simp only at hw;have r1:A1 (o.length+1) 96=true:=Bk (by split at hw<;>omega)
   have r2:A1 ((o++[r]).length+1) 96=true:=Bk (by simp;split at hw<;>omega)
   have e1:(upR l[i]).1=l[i].1:=rfl;have e2:Gq (upR l[i]).2.1.2=true:=rfl;have e3:Gq (upR l[i]).2.2.1.2=true:=rfl;have e4:(l[i].1,((upR l[i]).2.1.1,Ic (upR l[i]).2.1.2),((upR l[i]).2.2.1.1,Ic (upR l[i]).2.2.1.2),(upR l[i]).2.2.2)=l[i]:=rfl;have e5:(l[i].1,((upR l[i]).2.1.1,none),((upR l[i]).2.2.1.1,none),(upR l[i]).2.2.2)=Oz l[i]:=rfl;simp only[e1,e2,e3,e4,e5,Av,hc,Ab,Cs (show i<9223372036854775807 by omega)];cases p<;>cases hlt:sLt l[i].1 r.1<;>cases heq:sEq l[i].1 r.1 <;>
    simp only[A5,B6,Ag,Ac,Ab,r1,r2,Av,A3,Kbd,Knd,Ktd,Kre,Knc,Kjd,if_true,Kja,if_false] <;>
    first
     | rw[<-hsm heq]
     | rw[hg heq]
  ·rw[Zbg];simp only;rw[A0 (by rw[Aj,Ko];omega),Ac]
 rw[Vq];simp only;rw[lp,A3,hc,Ab];have hw:=Vd l r l.length (Kd _);unfold wrR;cases hp:(wrS l r l.length).2 with
 | true=>rw[A5,Ac,A3,if_pos rfl]
 | false =>
  rw[hp]at hw;rw[B6,Ag,Bk (by simp at hw;omega),Av,A3,if_neg (by simp)];rfl
theorem Ziy {α σ ρ : Type} {step : σ → Option (σ ⊕ ρ)} (st : Nat → σ) (x : List α) (p : α → Bool) (found : Nat → ρ) (no : ρ)
    (hs : ∀ (i : Nat) (h : i < x.length), step (st i) = if p x[i] = true then some (.inr (found i)) else some (.inl (st (i + 1)))) (he : step (st x.length) = some (.inr no)) (s0 : σ) (h0 : s0 = st 0) :
    Ar step s0 = some (match x.findIdx? p with | some i => found i | none => no) := by
  obtain ⟨r, h1, h2⟩ := M9 (step := step) (fun i s => s = st i ∧ ∀ (j : Nat) (h : j < x.length), j < i → p x[j] = false) x.length (fun r => r = match x.findIdx? p with | some i => found i | none => no)
    (fun i s hi h => by
      obtain ⟨rfl, hp⟩ := h;rw [hs i hi];by_cases hq : p x[i] = true
      · refine .inr ⟨_, by rw [if_pos hq], ?_⟩
        have : x.findIdx? p = some i := by
          rw [Krf];exact ⟨hi, hq, fun j hj => by simpa using hp j (by omega) hj⟩
        rw [this]
      · refine .inl ⟨_, by rw [if_neg hq], rfl, fun j hj hji => ?_⟩
        by_cases e : j = i
        · subst e; simpa using hq
        · exact hp j hj (by omega))
    (fun s h => by
      obtain ⟨rfl, hp⟩ := h;refine ⟨_, he, ?_⟩;have : x.findIdx? p = none := by
        rw [Ksf];intro y hy;obtain ⟨j, hj, rfl⟩ := Khd hy;exact hp j hj hj
      rw [this]) s0 ⟨h0, fun j _ h => absurd h (Kge _)⟩
  rw [h1, h2]
def Zet (l:List Row) (key:List UInt8):Int:=match l.findIdx? (fun r=>r.1==key) with
 | some i=>(i:Int)
 | none=>-1
theorem Yov {t:Tab}{key:List UInt8}(h:t.1.length<9223372036854775807):V6 (t,key)=some (Zet t.1 key):=by
 unfold V6 Zet;exact Ziy (fun i=>(i:Int)) t.1 (fun r=>r.1==key) (fun i=>(i:Int)) (-1) (fun i hi=>by
  unfold Zgs;simp only;rw[A4 (by simp only[Aj];omega),Ag,Bt hi,Ab,Zl7,Zpo,Cs (by omega)]) (by
  unfold Zgs;simp only;rw[A0 (by simp only[Aj];omega),Ac]) _ rfl
theorem Zwe {x y:UInt8}{a b:List UInt8}:sLt (x::a) (y::b)=true ↔ x.toNat<y.toNat\/(x=y/\sLt a b=true):=by
 simp only[sLt,Op.bytesLess,Knb,Ke,decide_eq_true_eq,beq_iff_eq];rw[UInt8.lt_iff_toNat_lt]
theorem Zex {a:List UInt8}:sLt a []=false:=by cases a<;>rfl
theorem Zl9:∀a:List UInt8,sLt a a=false
 | []=>rfl
 | x::a=>by
  cases h:sLt (x::a) (x::a) with
  | false=>rfl
  | true =>
   rcases Zwe.1 h with h|⟨_,h⟩
   ·omega
   ·rw[Zl9 a]at h;cases h
theorem Yog:∀{a b c:List UInt8},sLt a b=true->sLt b c=true->sLt a c=true:=by
 intro a
 induction a with
 | nil=>intro b c h1 h2;cases b with
  | nil=>rw[Zex]at h1;cases h1
  | cons y b=>cases c with
   | nil=>rw[Zex]at h2;cases h2
   | cons z c=>rfl
 | cons x a ih =>
  intro b c h1 h2;cases b with
  | nil=>rw[Zex]at h1;cases h1
  | cons y b=>cases c with
   | nil=>rw[Zex]at h2;cases h2
   | cons z c =>
    rw[Zwe]at h1 h2 ⊢;rcases h1 with h1|⟨rfl,h1⟩
    ·rcases h2 with h2|⟨rfl,h2⟩
     ·left;omega
     ·exact .inl h1
    ·rcases h2 with h2|⟨rfl,h2⟩
     ·exact .inl h2
     ·exact .inr ⟨rfl,ih h1 h2⟩
def F8 (key:List UInt8) (x:Row):Bool:=!(x.1==key)
def Gk (l:List Row) (key:List UInt8):List Row:=l.filter (F8 key)
abbrev Zzi:=Int×List UInt8×Int×Int×Int×Bool×List UInt8×Int×Int×Int×Int
def S8 (r:Rec):Zzi:=(r.1,(r.2.1.1,(r.2.1.2.1.1,(r.2.1.2.2.1.1,(r.2.1.2.2.2.1,(r.2.1.2.2.2.2,(r.2.2.1,(r.2.2.2.1,(r.2.2.2.2.1,(r.2.2.2.2.2.1,r.2.2.2.2.2.2))))))))))
def Zjp (r:Rec) (i:Nat):Int×List UInt8×Int×Int×Int×Bool×List UInt8×Int×Int×Int×Int×Int:=(r.1,(r.2.1.1,(r.2.1.2.1.1,(r.2.1.2.2.1.1,(r.2.1.2.2.2.1,(r.2.1.2.2.2.2,(r.2.2.1,(r.2.2.2.1,(r.2.2.2.2.1,(r.2.2.2.2.2.1,(r.2.2.2.2.2.2,(i:Int))))))))))))
theorem Yk8 {l:List Row}{r:Rec}(hl:l.length<=1048576):Za6 (l,r)=some (match l.findIdx? (fun x=>x.1==r.2.2.1) with|some i=>((i:Int),S8 r)|none=>(-1,S8 r)):=by
 rw[Za6];exact Ziy (Zjp r) l (fun x=>x.1==r.2.2.1) (fun i=>((i:Int),S8 r)) (-1,S8 r) (fun i hi=>by
  rw[Zgw];simp only[Zjp,Vg];rw[A4 (by rw[Aj];omega),Ag,Bt hi,Ab,Ab,Zl7,Zpo,Cs (by omega)];rfl) (by
  rw[Zgw];simp only[Zjp];rw[A0 (by rw[Aj];omega),Ac];rfl) _ rfl
def Qt (r:Rec) (H:List Ho) (i:Int) (j:Int):List Ho×Int×List UInt8×Int×Int×Int×Bool×List UInt8×Int×Int×Int×Int×Int×Int:=(H,(r.1,(r.2.1.1,(r.2.1.2.1.1,(r.2.1.2.2.1.1,(r.2.1.2.2.2.1,(r.2.1.2.2.2.2,(r.2.2.1,(r.2.2.2.1,(r.2.2.2.2.1,(r.2.2.2.2.2.1,(r.2.2.2.2.2.2,(i,j)))))))))))))
def Zh3 (r:Rec) (H:List Ho) (i:Int):List Ho×Int×List UInt8×Int×Int×Int×Bool×List UInt8×Int×Int×Int×Int×Int:=(H,(r.1,(r.2.1.1,(r.2.1.2.1.1,(r.2.1.2.2.1.1,(r.2.1.2.2.2.1,(r.2.1.2.2.2.2,(r.2.2.1,(r.2.2.2.1,(r.2.2.2.2.1,(r.2.2.2.2.2.1,(r.2.2.2.2.2.2,i))))))))))))
def Zn (l:List Row) (key:List UInt8) (H:List Ho) (i j:Nat):Prop:=H.length=l.length/\i<j/\j<=l.length/\i=(Gk (l.take j) key).length/\H.take i=(Gk (l.take j) key).map upR/\∀k,j<=k->H[k]? = (l.map upR)[k]?
theorem Ybg {l:List Row}{r:Rec}{H:List Ho}{i j:Nat}(hl:l.length<=1048576) (h:Zn l r.2.2.1 H i j) (hj:j<l.length) :
  ∃(H':List Ho) (i':Nat),Wm (l.map upR,r) (Qt r H (i:Int) (j:Int))=some (.inl (Qt r H' (i':Int) ((j+1:Nat):Int)))/\Zn l r.2.2.1 H' i' (j+1):=by
 obtain⟨h1,h2,h3,h4,h5,h6⟩:=h;have hjj:H[j]? = some (upR l[j]):=by rw[h6 j (Kd _),Kaa,Kq hj];rfl
 have hii:H[i]? = some (H[i]'(by omega)):=Kq (by omega);have htk:l.take (j+1)=l.take j++[l[j]]:=Kec hj;have e1:Gq (upR l[j]).2.1.2=true:=rfl;have e2:Gq (upR l[j]).2.2.1.2=true:=rfl;rw[Wm];simp only[Qt,Vg];rw[A4 (by rw[Aj];omega),Ag,Gr,hjj,Ab,e1,e2,Av,Av,Ab,Zl7];have e3:(upR l[j]).1=l[j].1:=rfl;rw[e3];cases hp:(l[j].1==r.2.2.1) with
 | true =>
  refine⟨H,i, ?_,h1,by omega,by omega, ?_, ?_,fun k hk=>h6 k (by omega)⟩
  ·rw[A5,Ac,A3,Cs (by omega)]
  ·rw[htk];simp only[Gk,Kxd]at h4 ⊢;simp [F8,hp];exact h4
  ·rw[htk];simp only[Gk,Kxd]at h5 ⊢;rw[h5];simp [F8,hp]
 | false =>
  refine⟨(H.set i (upR l[j])).set j (Oz l[j]),i+1, ?_,by simp [h1],by omega,by omega, ?_, ?_,fun k hk=>?_⟩
  ·have e4:nNe i j=true:=by simp [nNe];omega
   rw[B6,Ag,Gr,hii,Ab];simp only[D9,e4,Av,Mz,hjj,Ab,Fs,A3,Ap,Cs (show j<9223372036854775807 by omega),Cs (show i<9223372036854775807 by omega)];rfl
  ·rw[htk];simp only[Gk,Kxd]at h4 ⊢;simp [F8,hp];exact h4
  ·have e5:(H.set i (upR l[j])).take (i+1)=H.take i++[upR l[j]]:=by
    rw[Kec (by rw[Kae];omega),Kwd (Kd i),List.getElem_set_self]
   rw[Kwd (by omega),e5,htk];simp only[Gk,Kxd]at h5 ⊢;rw[h5];simp [F8,hp]
  ·rw[Kad (by omega),Kad (by omega)];exact h6 k (by omega)
theorem Yba (H:List Ho) (L:List Row) (i n:Nat) (hi:i<=H.length) (h:H.take i=L.map upR) (z:Ho):cvL L1 tyR (Bq (i-0) (Al (Bq i H) (Es n z)))=some L:=by
 have e:Bq (i-0) (Al (Bq i H) (Es n z))=L.map upR:=by
  simp only[Bq,Al,Koc];rw[List.take_append_of_le_length (by simp;omega),List.take_take,Nat.min_self,h]
 rw[e,Zcq]
theorem Yk2 {l : List Row} {r : Rec} (hl : l.length ≤ 1048576) : We (l.map upR, r) = some (Gk l r.2.2.1, S8 r) := by
  rw [We];simp only;rw [Zcq, Ab, Yk8 hl, Ab];cases hf : l.findIdx? (fun x => x.1 == r.2.2.1) with
  | none =>
    simp only [T2, Ag, Ab];rw [Ksf] at hf;have : Gk l r.2.2.1 = l := Kse.2 fun x hx => by simp [F8, hf x hx]
    rw [this]
  | some k =>
    rw [Krf] at hf;obtain ⟨hk, hk1, hk2⟩ := hf;simp only;rw [Dp (by omega), Ac];have hd0 : Gk (l.take (k + 1)) r.2.2.1 = l.take k := by
      rw [Kec hk];unfold Gk;rw [Kxd];have e1 : (l.take k).filter (F8 r.2.2.1) = l.take k := Kse.2 fun x hx => by
        obtain ⟨j, hj, rfl⟩ := Khd hx;rw [Kbb] at hj;have := hk2 j (by omega);rw [Kfg];simp only [F8];simpa using this
      have e2 : ([l[k]] : List Row).filter (F8 r.2.2.1) = [] := by simp [F8, hk1]
      rw [e1, e2, Kw]
    obtain ⟨out, q1, i, H, rfl, q2⟩ := M9 (step := Wm (l.map upR, r)) (fun n s => ∃ H i, s = Qt r H ((i : Nat) : Int) ((k + 1 + n : Nat) : Int) ∧ Zn l r.2.2.1 H i (k + 1 + n)) (l.length - (k + 1)) (fun o => ∃ i H, o = .inl (Zh3 r H ((i : Nat) : Int)) ∧ Zn l r.2.2.1 H i l.length)
      (fun n s hn hs => by
        obtain ⟨H, i, rfl, hi⟩ := hs;obtain ⟨H', i', g1, g2⟩ := Ybg hl hi (by omega);exact .inl ⟨_, g1, H', i', by rw [show k + 1 + (n + 1) = k + 1 + n + 1 by omega], by rw [show k + 1 + (n + 1) = k + 1 + n + 1 by omega]; exact g2⟩)
      (fun s hs => by
        obtain ⟨H, i, rfl, hi⟩ := hs;have e : k + 1 + (l.length - (k + 1)) = l.length := by omega
        rw [e] at hi ⊢;refine ⟨.inl (Zh3 r H (i : Int)), ?_, i, H, rfl, hi⟩;rw [Wm];simp only [Qt];rw [A0 (by rw [Aj, hi.1]; omega), Ac];rfl)
      (Qt r (l.map upR) ((k : Nat) : Int) ((k + 1 + 0 : Nat) : Int)) ⟨_, _, rfl, by simp, by omega, by omega, by rw [Kca, hd0]; simp; omega, by rw [Kca, hd0, Kdb], fun _ _ => rfl⟩
    have q1' := q1;simp only [Qt, Kca] at q1';simp only [S8];rw [Cs (by omega), q1', A3];obtain ⟨g1, g2, g3, g4, g5, g6⟩ := q2;simp only [Zh3];have c1 : Dx (i : Int) (Ae H) (Ae H) = true := by simp [Dx, Ae]; omega
    have c2 : nEq (nOf (i : Int) + (nOf (Ae H) - nOf (i : Int))) H.length = true := by
      rw [Aj, D9, D9]; simp [nEq]; omega
    have c3 : ∀ z : Ho, (Al (Bq (nOf (i : Int)) H) (Es (nOf (H.length : Int) - nOf (i : Int)) z)).length = H.length := fun z => by
      rw [D9, D9]; simp [Al, Bq, Es]; omega
    have c4 : Dx 0 (i : Int) (Ae H) = true := by simp [Dx, Ae]; omega
    have c5 : Ib 0 (nOf (i : Int) - 0) H.length = true := by rw [D9]; simp [Ib]; omega
    rw [Khc] at g5;rw [c1, Av, c2, Av];simp only [Aj, c3];rw [Aj] at c4;rw [c4, Av, c5, Av];simp only [D9];rw [Yba H (Gk l r.2.2.1) i _ (by omega) g5, Ab]
end
end Go.Vs
