import Derived.Test.YtmfmjngkbddenaaGreatDoorVsW5
import Derived.Test.YtmfmjngkbddenaaGreatDoorVsQo4
set_option linter.all false
namespace Go.Vs
noncomputable section
abbrev Ig:=List UInt8×(Int×Option (List UInt8))×(Int×Option (List UInt8))×Int×Bool
abbrev tyR:Ty:=.P .S (.P (.P (.I .i64) (.L .Y)) (.P (.P (.I .i64) (.L .Y)) (.P (.I .i64) .B)))
abbrev M4:Ty:=.P .S (.P (.P (.I .i64) (.H .Y)) (.P (.P (.I .i64) (.H .Y)) (.P (.I .i64) .B)))
def upR (r:Row):Ig:=(r.1,((r.2.1.1,some r.2.1.2),((r.2.2.1.1,some r.2.2.1.2),r.2.2.2)))
def P7 (r:Row):Ig:=(r.1,((r.2.1.1,none),((r.2.2.1.1,none),r.2.2.2)))
theorem Zek:∀l:List Row,cvL tyR M4 l=some (l.map upR)
 | []=>rfl
 | r::l=>by
  have e:cv tyR M4 r=some (upR r):=rfl;simp only[cvL,e,Zek l,Kc]
theorem Zej:∀l:List Row,cvL M4 tyR (l.map upR)=some l
 | []=>rfl
 | r::l=>by
  have e:cv M4 tyR (upR r)=some r:=rfl;simp only[Kc,cvL,e,Zej l]
def mvR (l:List Row) (k:Nat):List Ig:=mvW tyR 0 k l
theorem Yql (l:List Row) (k:Nat):mvR l k=(l.take k).map P7++(l.drop k).map upR:=by
 have e:mvR l k=(l.take k).map P7++(l.drop (0+k)).map upR:=rfl;rw[e,Km]
theorem Yqk (l:List Row) (k:Nat):(mvR l k).drop (k+1)=(l.drop (k+1)).map upR:=by
 rw[Yql,List.drop_append,Krf (by simp;omega),Kj,Kt,Kab,<-Kkb,Ked];by_cases h:k<=l.length
 ·rw[Kxd h,show k+(k+1-k)=k+1 by omega]
 ·rw[Krf (by omega),Krf (by omega)]
theorem Yqo (l:List Row) (k:Nat) (h:k<=l.length):(mvW tyR 0 k l).length=l.length:=Zws tyR 0 k l (by omega)
theorem Yqm (l:List Row) (k n:Nat):cvL M4 tyR (A9 n (Dk (k+1) (mvW tyR 0 k l)))=some ((l.drop (k+1)).take n):=by
 have e:cvL M4 tyR (((mvR l k).drop (k+1)).take n)=some ((l.drop (k+1)).take n):=by
  rw[Yqk,<-Kib,Zej]
 exact e
def wrF (r:Row) (s:List Row×Bool) (x:Row):List Row×Bool :=
 let s1:=if (!s.2&&!(sLt x.1 r.1))=true then (s.1++[r],true) else s
 if sEq x.1 r.1=true then s1 else (s1.1++[x],s1.2)
def wrS (l:List Row) (r:Row) (i:Nat):List Row×Bool:=(l.take i).foldl (wrF r) ([],false)
def wrR (l:List Row) (r:Row):List Row:=if (wrS l r l.length).2=true then (wrS l r l.length).1 else (wrS l r l.length).1++[r]
def hsS (l:List Row) (r:Row) (i:Nat):List Ig:=(l.take i).map (fun x=>if sEq x.1 r.1=true then upR x else P7 x)++(l.drop i).map upR
theorem Zia {l:List Row}{r:Row}{i:Nat}(h:i<l.length):wrS l r (i+1)=wrF r (wrS l r i) l[i]:=by
 unfold wrS;rw[Kzb h,Kfe];rfl
theorem W0 (l:List Row) (r:Row):∀i,i<=l.length->(wrS l r i).1.length+(if (wrS l r i).2=true then 0 else 1)<=i+1
 | 0,_=>by simp [wrS]
 | i+1,h=>by
  have ih:=W0 l r i (by omega);rw[Zia (by omega)];generalize wrS l r i=s at ih;obtain⟨o,p⟩:=s;unfold wrF;cases p<;>cases sLt l[i].1 r.1<;>cases sEq l[i].1 r.1<;>simp at ih ⊢<;>omega
theorem Zqm (l:List Row) (r:Row):∀i,i<=l.length->∀x∈(wrS l r i).1,x=r\/x∈l
 | 0,_,x,hx=>by simp [wrS]at hx
 | i+1,h,x,hx=>by
  have ih:=Zqm l r i (by omega);rw[Zia (by omega)]at hx;generalize wrS l r i=s at ih hx;obtain⟨o,p⟩:=s;have hm:=Kcb (show i<l.length by omega);have key:x∈o\/x=r\/x=l[i]:=by
   revert hx
   unfold wrF;cases p<;>cases sLt l[i].1 r.1<;>cases sEq l[i].1 r.1<;>simp<;>intro hx<;>first|exact .inl hx|(rcases hx with h|h|h<;>simp [h])|(rcases hx with h|h<;>simp [h])
  rcases key with h|h|h
  ·exact ih x h
  ·exact .inl h
  ·exact .inr (h ▸ hm)
theorem Yvq (l:List Row) (r:Row):(wrR l r).length<=l.length+1:=by
 have:=W0 l r l.length (Kf _);unfold wrR;split
 ·omega
 ·rename_i h;rw[if_neg h]at this;simp;omega
theorem Yvr {l:List Row}{r x:Row}(h:x∈wrR l r):x=r\/x∈l:=by
 unfold wrR at h;split at h
 ·exact Zqm l r _ (Kf _) x h
 ·rcases Kia.1 h with h|h
  ·exact Zqm l r _ (Kf _) x h
  ·exact .inl (by simpa using h)
theorem Zfi {l:List Row}{r:Row}{i:Nat}(h:i<=l.length):(hsS l r i).length=l.length:=by
 simp only[hsS,Kz,Kt,Kab,Kpa];omega
theorem Zl3 {l:List Row}{r:Row}{i:Nat}(h:i<l.length):(hsS l r i)[i]? = some (upR l[i]):=by
 unfold hsS;rw[Kla (by simp;omega)];simp only[Kt,Kab];rw[show i-min i l.length=0 by omega,Kga,Kdb,Kw,Ku h];rfl
theorem Zu9 {l:List Row}{r:Row}{i:Nat}(h:i<l.length):(hsS l r i).set i (if sEq l[i].1 r.1=true then upR l[i] else P7 l[i])=hsS l r (i+1):=by
 unfold hsS;rw[Kze _ _ (by simp;omega),Kcc h,Kzb h];simp only[Kt,Kab,Kc,Kaa,Khb,Kxa];rw[show i-min i l.length=0 by omega];rfl
theorem Zu8 {l:List Row}{r:Row}{i:Nat}(h:i<l.length) (he:sEq l[i].1 r.1=true):hsS l r i=hsS l r (i+1):=by
 rw[<-Zu9 h,if_pos he];apply Kbd;intro j;rw[Kgb];split
 ·rename_i e;subst e;rw[if_pos (by rw[Zfi (by omega)];exact h)];exact Zl3 h
 ·rfl
theorem Zu7 {l:List Row}{r:Row}{i:Nat}(h:i<l.length) (he:sEq l[i].1 r.1=false):(hsS l r i).set i (P7 l[i])=hsS l r (i+1):=by
 rw[<-Zu9 h,if_neg (by simp [he])]
theorem Ys4 {l:List Row}{r:Row}(hl:l.length<=1048576) (hr:smR 1048576 r):Xv (l.map upR,r)=some (wrR l r):=by
 have hc:=Zop hr;have lp:Ar (Zdl (l.map upR,r)) (l.map upR,([],(false,0)))=some (.inl (wrS l r l.length)):=by
  refine Gn (fun i=>(hsS l r i,((wrS l r i).1,((wrS l r i).2,(i:Int))))) l.length _ (fun i hi=>?_) ?_ _ (by simp [hsS,wrS])
  ·have hln:(hsS l r i).length=l.length:=Zfi (by omega);have hat:=Zl3 (r:=r) hi;have hw:=W0 l r i (by omega);have hat2:∀X,((hsS l r i).set i X)[i]? = some X:=fun X=>Kzc (by omega);have hg:=Zu7 (r:=r) hi;have hsm:=Zu8 (r:=r) hi;rw[Zdl];simp only[Zia hi,wrF];rw[A5 (by rw[Ai,hln];omega),Ad];simp only[Ha,N6,Es,hat,Aa,Aq,hat2,Kcd,Al];generalize wrS l r i=s at hw;obtain⟨o,p⟩:=s;simp only at hw;have r1:A6 (o.length+1) 96=true:=Bq (by split at hw<;>omega)
   have r2:A6 ((o++[r]).length+1) 96=true:=Bq (by simp;split at hw<;>omega)
   have e1:(upR l[i]).1=l[i].1:=rfl;have e2:G7 (upR l[i]).2.1.2=true:=rfl;have e3:G7 (upR l[i]).2.2.1.2=true:=rfl;have e4:(l[i].1,((upR l[i]).2.1.1,I3 (upR l[i]).2.1.2),((upR l[i]).2.2.1.1,I3 (upR l[i]).2.2.1.2),(upR l[i]).2.2.2)=l[i]:=rfl;have e5:(l[i].1,((upR l[i]).2.1.1,none),((upR l[i]).2.2.1.1,none),(upR l[i]).2.2.2)=P7 l[i]:=rfl;simp only[e1,e2,e3,e4,e5,Av,hc,Aa,Cw (show i<9223372036854775807 by omega)];cases p<;>cases hlt:sLt l[i].1 r.1<;>cases heq:sEq l[i].1 r.1 <;>
    simp only[Az,Bd,Ad,Ac,Aa,r1,r2,Av,Ax,Kld,Kwd,Kde,Kbf,Kqc,Ktd,if_true,Kma,if_false] <;>
    first
     | rw[<-hsm heq]
     | rw[hg heq]
  ·rw[Zdl];simp only;rw[A3 (by rw[Ai,Zfi (Kf _)];omega),Ac]
 rw[Xv];simp only;rw[lp,Ax,hc,Aa];have hw:=W0 l r l.length (Kf _);unfold wrR;cases hp:(wrS l r l.length).2 with
 | true=>rw[Az,Ac,Ax,if_pos rfl]
 | false =>
  rw[hp]at hw;rw[Bd,Ad,Bq (by simp at hw;omega),Av,Ax,if_neg (by simp)];rfl
theorem Yo9 {l:List Row}{r:Row}(hl:l.length<=1048576) (hr:smR 1048576 r):Xg (l.map upR,r)=some (wrR l r):=by
 have hc:=Zl5 hr;have lp:Ar (Zc8 (l.map upR,r)) ([],(false,(l.map upR,0)))=some (.inl (wrS l r l.length)):=by
  refine Gn (fun i=>((wrS l r i).1,((wrS l r i).2,(hsS l r i,(i:Int))))) l.length _ (fun i hi=>?_) ?_ _ (by simp [hsS,wrS])
  ·have hln:(hsS l r i).length=l.length:=Zfi (by omega);have hat:=Zl3 (r:=r) hi;have hw:=W0 l r i (by omega);have hat2:∀X,((hsS l r i).set i X)[i]? = some X:=fun X=>Kzc (by omega);have hg:=Zu7 (r:=r) hi;have hsm:=Zu8 (r:=r) hi;rw[Zc8];simp only[Zia hi,wrF];rw[A5 (by rw[Ai,Kt];omega),Ad];simp only[Ha,N6,Es,hat,Aa,Aq,hat2,Kcd,Al];generalize wrS l r i=s at hw;obtain⟨o,p⟩:=s;simp only at hw;have r1:A6 (o.length+1) 96=true:=Bq (by split at hw<;>omega)
   have r2:A6 ((o++[r]).length+1) 96=true:=Bq (by simp;split at hw<;>omega)
   have e1:(upR l[i]).1=l[i].1:=rfl;have e2:G7 (upR l[i]).2.1.2=true:=rfl;have e3:G7 (upR l[i]).2.2.1.2=true:=rfl;have e4:(l[i].1,((upR l[i]).2.1.1,I3 (upR l[i]).2.1.2),((upR l[i]).2.2.1.1,I3 (upR l[i]).2.2.1.2),(upR l[i]).2.2.2)=l[i]:=rfl;have e5:(l[i].1,((upR l[i]).2.1.1,none),((upR l[i]).2.2.1.1,none),(upR l[i]).2.2.2)=P7 l[i]:=rfl;simp only[e1,e2,e3,e4,e5,Av,hc,Aa,Cw (show i<9223372036854775807 by omega)];cases p<;>cases hlt:sLt l[i].1 r.1<;>cases heq:sEq l[i].1 r.1 <;>
    simp only[Az,Bd,Ad,Ac,Aa,r1,r2,Av,Ax,Kld,Kwd,Kde,Kbf,Kqc,Ktd,if_true,Kma,if_false] <;>
    first
     | rw[<-hsm heq]
     | rw[hg heq]
  ·rw[Zc8];simp only;rw[A3 (by rw[Ai,Kt];omega),Ac]
 rw[Xg];simp only;rw[lp,Ax,hc,Aa];have hw:=W0 l r l.length (Kf _);unfold wrR;cases hp:(wrS l r l.length).2 with
 | true=>rw[Az,Ac,Ax,if_pos rfl]
 | false =>
  rw[hp]at hw;rw[Bd,Ad,Bq (by simp at hw;omega),Av,Ax,if_neg (by simp)];rfl
theorem Zlo {α σ ρ : Type} {step : σ → Option (σ ⊕ ρ)} (st : Nat → σ) (x : List α) (p : α → Bool) (found : Nat → ρ) (no : ρ)
    (hs : ∀ (i : Nat) (h : i < x.length), step (st i) = if p x[i] = true then some (.inr (found i)) else some (.inl (st (i + 1)))) (he : step (st x.length) = some (.inr no)) (s0 : σ) (h0 : s0 = st 0) :
    Ar step s0 = some (match x.findIdx? p with | some i => found i | none => no) := by
  obtain ⟨r, h1, h2⟩ := Lm (step := step) (fun i s => s = st i ∧ ∀ (j : Nat) (h : j < x.length), j < i → p x[j] = false) x.length (fun r => r = match x.findIdx? p with | some i => found i | none => no)
    (fun i s hi h => by
      obtain ⟨rfl, hp⟩ := h;rw [hs i hi];by_cases hq : p x[i] = true
      · refine .inr ⟨_, by rw [if_pos hq], ?_⟩
        have : x.findIdx? p = some i := by
          rw [Ktf];exact ⟨hi, hq, fun j hj => by simpa using hp j (by omega) hj⟩
        rw [this]
      · refine .inl ⟨_, by rw [if_neg hq], rfl, fun j hj hji => ?_⟩
        by_cases e : j = i
        · subst e; simpa using hq
        · exact hp j hj (by omega))
    (fun s h => by
      obtain ⟨rfl, hp⟩ := h;refine ⟨_, he, ?_⟩;have : x.findIdx? p = none := by
        rw [Kuf];intro y hy;obtain ⟨j, hj, rfl⟩ := Kjd hy;exact hp j hj hj
      rw [this]) s0 ⟨h0, fun j _ h => absurd h (Kre _)⟩
  rw [h1, h2]
def Zgy (l:List Row) (key:List UInt8):Int:=match l.findIdx? (fun r=>r.1==key) with
 | some i=>(i:Int)
 | none=>-1
theorem Yss {t:Tab}{key:List UInt8}(h:t.1.length<9223372036854775807):Xs (t,key)=some (Zgy t.1 key):=by
 unfold Xs Zgy;exact Zlo (fun i=>(i:Int)) t.1 (fun r=>r.1==key) (fun i=>(i:Int)) (-1) (fun i hi=>by
  unfold Zi7;simp only;rw[A5 (by simp only[Ai];omega),Ad,Bp hi,Aa,Zoq,Zr9,Cw (by omega)]) (by
  unfold Zi7;simp only;rw[A3 (by simp only[Ai];omega),Ac]) _ rfl
theorem Zzi {x y:UInt8}{a b:List UInt8}:sLt (x::a) (y::b)=true ↔ x.toNat<y.toNat\/(x=y/\sLt a b=true):=by
 simp only[sLt,Op.bytesLess,Kbb,Kd,decide_eq_true_eq,beq_iff_eq];rw[UInt8.lt_iff_toNat_lt]
theorem Zg4 {a:List UInt8}:sLt a []=false:=by cases a<;>rfl
theorem Zor:∀a:List UInt8,sLt a a=false
 | []=>rfl
 | x::a=>by
  cases h:sLt (x::a) (x::a) with
  | false=>rfl
  | true =>
   rcases Zzi.1 h with h|⟨_,h⟩
   ·omega
   ·rw[Zor a]at h;cases h
theorem Ysa:∀{a b c:List UInt8},sLt a b=true->sLt b c=true->sLt a c=true:=by
 intro a
 induction a with
 | nil=>intro b c h1 h2;cases b with
  | nil=>rw[Zg4]at h1;cases h1
  | cons y b=>cases c with
   | nil=>rw[Zg4]at h2;cases h2
   | cons z c=>rfl
 | cons x a ih =>
  intro b c h1 h2;cases b with
  | nil=>rw[Zg4]at h1;cases h1
  | cons y b=>cases c with
   | nil=>rw[Zg4]at h2;cases h2
   | cons z c =>
    rw[Zzi]at h1 h2 ⊢;rcases h1 with h1|⟨rfl,h1⟩
    ·rcases h2 with h2|⟨rfl,h2⟩
     ·left;omega
     ·exact .inl h1
    ·rcases h2 with h2|⟨rfl,h2⟩
     ·exact .inl h2
     ·exact .inr ⟨rfl,ih h1 h2⟩
def Gl (key:List UInt8) (x:Row):Bool:=!(x.1==key)
def G0 (l:List Row) (key:List UInt8):List Row:=l.filter (Gl key)
abbrev Ycy:=Int×List UInt8×Int×Int×Int×Bool×List UInt8×Int×Int×Int×Int
def Ut (r:Rec):Ycy:=(r.1,(r.2.1.1,(r.2.1.2.1.1,(r.2.1.2.2.1.1,(r.2.1.2.2.2.1,(r.2.1.2.2.2.2,(r.2.2.1,(r.2.2.2.1,(r.2.2.2.2.1,(r.2.2.2.2.2.1,r.2.2.2.2.2.2))))))))))
def Zmd (r:Rec) (i:Nat):Int×List UInt8×Int×Int×Int×Bool×List UInt8×Int×Int×Int×Int×Int:=(r.1,(r.2.1.1,(r.2.1.2.1.1,(r.2.1.2.2.1.1,(r.2.1.2.2.2.1,(r.2.1.2.2.2.2,(r.2.2.1,(r.2.2.2.1,(r.2.2.2.2.1,(r.2.2.2.2.2.1,(r.2.2.2.2.2.2,(i:Int))))))))))))
theorem Yon {l:List Row}{r:Rec}(hl:l.length<=1048576):Zcv (l,r)=some (match l.findIdx? (fun x=>x.1==r.2.2.1) with|some i=>((i:Int),Ut r)|none=>(-1,Ut r)):=by
 rw[Zcv];exact Zlo (Zmd r) l (fun x=>x.1==r.2.2.1) (fun i=>((i:Int),Ut r)) (-1,Ut r) (fun i hi=>by
  rw[Zjb];simp only[Zmd,W2];rw[A5 (by rw[Ai];omega),Ad,Bp hi,Aa,Aa,Zoq,Zr9,Cw (by omega)];rfl) (by
  rw[Zjb];simp only[Zmd];rw[A3 (by rw[Ai];omega),Ac];rfl) _ rfl
def R1 (r:Rec) (H:List Ig) (i:Int) (j:Int):List Ig×Int×List UInt8×Int×Int×Int×Bool×List UInt8×Int×Int×Int×Int×Int×Int:=(H,(r.1,(r.2.1.1,(r.2.1.2.1.1,(r.2.1.2.2.1.1,(r.2.1.2.2.2.1,(r.2.1.2.2.2.2,(r.2.2.1,(r.2.2.2.1,(r.2.2.2.2.1,(r.2.2.2.2.2.1,(r.2.2.2.2.2.2,(i,j)))))))))))))
def Zkk (r:Rec) (H:List Ig) (i:Int):List Ig×Int×List UInt8×Int×Int×Int×Bool×List UInt8×Int×Int×Int×Int×Int:=(H,(r.1,(r.2.1.1,(r.2.1.2.1.1,(r.2.1.2.2.1.1,(r.2.1.2.2.2.1,(r.2.1.2.2.2.2,(r.2.2.1,(r.2.2.2.1,(r.2.2.2.2.1,(r.2.2.2.2.2.1,(r.2.2.2.2.2.2,i))))))))))))
def Zbk (l:List Row) (key:List UInt8) (H:List Ig) (i j:Nat):Prop:=H.length=l.length/\i<j/\j<=l.length/\i=(G0 (l.take j) key).length/\H.take i=(G0 (l.take j) key).map upR/\∀k,j<=k->H[k]? = (l.map upR)[k]?
theorem Yev {l:List Row}{r:Rec}{H:List Ig}{i j:Nat}(hl:l.length<=1048576) (h:Zbk l r.2.2.1 H i j) (hj:j<l.length) :
  ∃(H':List Ig) (i':Nat),Yc (l.map upR,r) (R1 r H (i:Int) (j:Int))=some (.inl (R1 r H' (i':Int) ((j+1:Nat):Int)))/\Zbk l r.2.2.1 H' i' (j+1):=by
 obtain⟨h1,h2,h3,h4,h5,h6⟩:=h;have hjj:H[j]? = some (upR l[j]):=by rw[h6 j (Kf _),Kga,Ku hj];rfl
 have hii:H[i]? = some (H[i]'(by omega)):=Ku (by omega);have htk:l.take (j+1)=l.take j++[l[j]]:=Kzb hj;have e1:G7 (upR l[j]).2.1.2=true:=rfl;have e2:G7 (upR l[j]).2.2.1.2=true:=rfl;rw[Yc];simp only[R1,W2];rw[A5 (by rw[Ai];omega),Ad,Ha,hjj,Aa,e1,e2,Av,Av,Aa,Zoq];have e3:(upR l[j]).1=l[j].1:=rfl;rw[e3];cases hp:(l[j].1==r.2.2.1) with
 | true =>
  refine⟨H,i, ?_,h1,by omega,by omega, ?_, ?_,fun k hk=>h6 k (by omega)⟩
  ·rw[Az,Ac,Ax,Cw (by omega)]
  ·rw[htk];simp only[G0,Kje]at h4 ⊢;simp [Gl,hp];exact h4
  ·rw[htk];simp only[G0,Kje]at h5 ⊢;rw[h5];simp [Gl,hp]
 | false =>
  refine⟨(H.set i (upR l[j])).set j (P7 l[j]),i+1, ?_,by simp [h1],by omega,by omega, ?_, ?_,fun k hk=>?_⟩
  ·have e4:nNe i j=true:=by simp [nNe];omega
   rw[Bd,Ad,Ha,hii,Aa];simp only[Es,e4,Av,N6,hjj,Aa,H2,Ax,Aq,Cw (show j<9223372036854775807 by omega),Cw (show i<9223372036854775807 by omega)];rfl
  ·rw[htk];simp only[G0,Kje]at h4 ⊢;simp [Gl,hp];exact h4
  ·have e5:(H.set i (upR l[j])).take (i+1)=H.take i++[upR l[j]]:=by
    rw[Kzb (by rw[Kme];omega),Kie (Kf i),List.getElem_set_self]
   rw[Kie (by omega),e5,htk];simp only[G0,Kje]at h5 ⊢;rw[h5];simp [Gl,hp]
  ·rw[Kkd (by omega),Kkd (by omega)];exact h6 k (by omega)
theorem Yep (H:List Ig) (L:List Row) (i n:Nat) (hi:i<=H.length) (h:H.take i=L.map upR) (z:Ig):cvL M4 tyR (A9 (i-0) (Al (A9 i H) (Fu n z)))=some L:=by
 have e:A9 (i-0) (Al (A9 i H) (Fu n z))=L.map upR:=by
  simp only[A9,Al,Kxc];rw[List.take_append_of_le_length (by simp;omega),List.take_take,Nat.min_self,h]
 rw[e,Zej]
theorem Yoe {l : List Row} {r : Rec} (hl : l.length ≤ 1048576) : X3 (l.map upR, r) = some (G0 l r.2.2.1, Ut r) := by
  rw [X3];simp only;rw [Zej, Aa, Yon hl, Aa];cases hf : l.findIdx? (fun x => x.1 == r.2.2.1) with
  | none =>
    simp only [Vh, Ad, Aa];rw [Kuf] at hf;have : G0 l r.2.2.1 = l := Kcf.2 fun x hx => by simp [Gl, hf x hx]
    rw [this]
  | some k =>
    rw [Ktf] at hf;obtain ⟨hk, hk1, hk2⟩ := hf;simp only;rw [Eg (by omega), Ac];have hd0 : G0 (l.take (k + 1)) r.2.2.1 = l.take k := by
      rw [Kzb hk];unfold G0;rw [Kje];have e1 : (l.take k).filter (Gl r.2.2.1) = l.take k := Kcf.2 fun x hx => by
        obtain ⟨j, hj, rfl⟩ := Kjd hx;rw [Kab] at hj;have := hk2 j (by omega);rw [Khg];simp only [Gl];simpa using this
      have e2 : ([l[k]] : List Row).filter (Gl r.2.2.1) = [] := by simp [Gl, hk1]
      rw [e1, e2, Kq]
    obtain ⟨out, q1, i, H, rfl, q2⟩ := Lm (step := Yc (l.map upR, r)) (fun n s => ∃ H i, s = R1 r H ((i : Nat) : Int) ((k + 1 + n : Nat) : Int) ∧ Zbk l r.2.2.1 H i (k + 1 + n)) (l.length - (k + 1)) (fun o => ∃ i H, o = .inl (Zkk r H ((i : Nat) : Int)) ∧ Zbk l r.2.2.1 H i l.length)
      (fun n s hn hs => by
        obtain ⟨H, i, rfl, hi⟩ := hs;obtain ⟨H', i', g1, g2⟩ := Yev hl hi (by omega);exact .inl ⟨_, g1, H', i', by rw [show k + 1 + (n + 1) = k + 1 + n + 1 by omega], by rw [show k + 1 + (n + 1) = k + 1 + n + 1 by omega]; exact g2⟩)
      (fun s hs => by
        obtain ⟨H, i, rfl, hi⟩ := hs;have e : k + 1 + (l.length - (k + 1)) = l.length := by omega
        rw [e] at hi ⊢;refine ⟨.inl (Zkk r H (i : Int)), ?_, i, H, rfl, hi⟩;rw [Yc];simp only [R1];rw [A3 (by rw [Ai, hi.1]; omega), Ac];rfl)
      (R1 r (l.map upR) ((k : Nat) : Int) ((k + 1 + 0 : Nat) : Int)) ⟨_, _, rfl, by simp, by omega, by omega, by rw [Kw, hd0]; simp; omega, by rw [Kw, hd0, Kib], fun _ _ => rfl⟩
    have q1' := q1;simp only [R1, Kw] at q1';simp only [Ut];rw [Cw (by omega), q1', Ax];obtain ⟨g1, g2, g3, g4, g5, g6⟩ := q2;simp only [Zkk];have c1 : Cp (i : Int) (Ae H) (Ae H) = true := by simp [Cp, Ae]; omega
    have c2 : nEq (nOf (i : Int) + (nOf (Ae H) - nOf (i : Int))) H.length = true := by
      rw [Ai, Es, Es]; simp [nEq]; omega
    have c3 : ∀ z : Ig, (Al (A9 (nOf (i : Int)) H) (Fu (nOf (H.length : Int) - nOf (i : Int)) z)).length = H.length := fun z => by
      rw [Es, Es]; simp [Al, A9, Fu]; omega
    have c4 : Cp 0 (i : Int) (Ae H) = true := by simp [Cp, Ae]; omega
    have c5 : I2 0 (nOf (i : Int) - 0) H.length = true := by rw [Es]; simp [I2]; omega
    rw [Kdc] at g5;rw [c1, Av, c2, Av];simp only [Ai, c3];rw [Ai] at c4;rw [c4, Av, c5, Av];simp only [Es];rw [Yep H (G0 l r.2.2.1) i _ (by omega) g5, Aa]
end
end Go.Vs
