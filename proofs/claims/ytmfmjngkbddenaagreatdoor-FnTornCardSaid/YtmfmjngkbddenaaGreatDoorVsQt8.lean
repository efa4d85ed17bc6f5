import Derived.Test.YtmfmjngkbddenaaGreatDoorVsQt7
set_option linter.all false
namespace Go.Vs
noncomputable section
def Zhq (l:List Row) (key:List UInt8):Int:=match l.findIdx? (fun r=>r.1==key) with
 | some i=>(i:Int)
 | none=>-1
theorem Yt8 {t:Tab}{key:List UInt8}(h:t.1.length<9223372036854775807):Yn (t,key)=some (Zhq t.1 key):=by
 unfold Yn Zhq;exact Zme (fun i=>(i:Int)) t.1 (fun r=>r.1==key) (fun i=>(i:Int)) (-1) (fun i hi=>by
  unfold Zju;simp only;rw[A3 (by simp only[Ak];omega),Ad,Bp hi,Aa,Zbk,Ztd,C4 (by omega)]) (by
  unfold Zju;simp only;rw[A6 (by simp only[Ak];omega),Ac]) _ rfl
theorem Zhv {x y:UInt8}{a b:List UInt8}:sLt (x::a) (y::b)=true ↔ x.toNat<y.toNat\/(x=y/\sLt a b=true):=by
 simp only[sLt,Op.bytesLess,Kmb,Kd,decide_eq_true_eq,beq_iff_eq];rw[UInt8.lt_iff_toNat_lt]
theorem Zhw {a:List UInt8}:sLt a []=false:=by cases a<;>rfl
theorem T4:∀a:List UInt8,sLt a a=false
 | []=>rfl
 | x::a=>by
  cases h:sLt (x::a) (x::a) with
  | false=>rfl
  | true =>
   rcases Zhv.1 h with h|⟨_,h⟩
   ·omega
   rw[T4 a]at h;cases h
theorem Zpv:∀{a b c:List UInt8},sLt a b=true->sLt b c=true->sLt a c=true:=by
 intro a
 induction a with
 | nil=>intro b c h1 h2;cases b with
  | nil=>rw[Zhw]at h1;cases h1
  | cons y b=>cases c with
   | nil=>rw[Zhw]at h2;cases h2
   | cons z c=>rfl
 | cons x a ih =>
  intro b c h1 h2;cases b with
  | nil=>rw[Zhw]at h1;cases h1
  | cons y b=>cases c with
   | nil=>rw[Zhw]at h2;cases h2
   | cons z c =>
    rw[Zhv]at h1 h2 ⊢;rcases h1 with h1|⟨rfl,h1⟩
    ·rcases h2 with h2|⟨rfl,h2⟩
     ·left;omega
     exact .inl h1
    rcases h2 with h2|⟨rfl,h2⟩
    ·exact .inl h2
    exact .inr ⟨rfl,ih h1 h2⟩
theorem Yax:∀a b:List UInt8,sLt a b=true\/a=b\/sLt b a=true:=by
 intro a
 induction a with
 | nil=>intro b;cases b with
  | nil=>exact .inr (.inl rfl)
  | cons y b=>exact .inl rfl
 | cons x a ih =>
  intro b;cases b with
  | nil=>exact .inr (.inr rfl)
  | cons y b =>
   rw[Zhv,Zhv];rcases Kdg x.toNat y.toNat with h|h|h
   ·exact .inl (.inl h)
   ·have e:x=y:=UInt8.toNat_inj.1 h;subst e;rcases ih b with h|h|h
    ·exact .inl (.inr ⟨rfl,h⟩)
    ·exact .inr (.inl (by rw[h]))
    exact .inr (.inr (.inr ⟨rfl,h⟩))
   exact .inr (.inr (.inl h))
abbrev Iq:=List UInt8×(Int×Option (List UInt8))×(Int×Option (List UInt8))×Int×Bool
abbrev tyR:Ty:=.P .S (.P (.P (.I .i64) (.L .Y)) (.P (.P (.I .i64) (.L .Y)) (.P (.I .i64) .B)))
abbrev Nq:Ty:=.P .S (.P (.P (.I .i64) (.H .Y)) (.P (.P (.I .i64) (.H .Y)) (.P (.I .i64) .B)))
def upR (r:Row):Iq:=(r.1,((r.2.1.1,some r.2.1.2),((r.2.2.1.1,some r.2.2.1.2),r.2.2.2)))
def Qs (r:Row):Iq:=(r.1,((r.2.1.1,none),((r.2.2.1.1,none),r.2.2.2)))
theorem Zfa:∀l:List Row,cvL tyR Nq l=some (l.map upR)
 | []=>rfl
 | r::l=>by
  have e:cv tyR Nq r=some (upR r):=rfl;simp only[cvL,e,Zfa l,Ke]
theorem Ze9:∀l:List Row,cvL Nq tyR (l.map upR)=some l
 | []=>rfl
 | r::l=>by
  have e:cv Nq tyR (upR r)=some r:=rfl;simp only[Ke,cvL,e,Ze9 l]
def mvR (l:List Row) (k:Nat):List Iq:=mvW tyR 0 k l
theorem Yrs (l:List Row) (k:Nat):mvR l k=(l.take k).map Qs++(l.drop k).map upR:=by
 have e:mvR l k=(l.take k).map Qs++(l.drop (0+k)).map upR:=rfl;rw[e,Kr]
theorem Yrr (l:List Row) (k:Nat):(mvR l k).drop (k+1)=(l.drop (k+1)).map upR:=by
 rw[Yrs,List.drop_append,Kvf (by simp;omega),Km,Ko,Kua,<-Kfb,Kbd];by_cases h:k<=l.length
 ·rw[Kod h,show k+(k+1-k)=k+1 by omega]
 rw[Kvf (by omega),Kvf (by omega)]
theorem Yrv (l:List Row) (k:Nat) (h:k<=l.length):(mvW tyR 0 k l).length=l.length:=Zye tyR 0 k l (by omega)
theorem Yrt (l:List Row) (k n:Nat):cvL Nq tyR (Br n (Dw (k+1) (mvW tyR 0 k l)))=some ((l.drop (k+1)).take n):=by
 have e:cvL Nq tyR (((mvR l k).drop (k+1)).take n)=some ((l.drop (k+1)).take n):=by
  rw[Yrr,<-Keb,Ze9]
 exact e
def wrF (r:Row) (s:List Row×Bool) (x:Row):List Row×Bool :=
 let s1:=if (!s.2&&!(sLt x.1 r.1))=true then (s.1++[r],true) else s
 if sEq x.1 r.1=true then s1 else (s1.1++[x],s1.2)
def wrS (l:List Row) (r:Row) (i:Nat):List Row×Bool:=(l.take i).foldl (wrF r) ([],false)
def wrR (l:List Row) (r:Row):List Row:=if (wrS l r l.length).2=true then (wrS l r l.length).1 else (wrS l r l.length).1++[r]
def hsS (l:List Row) (r:Row) (i:Nat):List Iq:=(l.take i).map (fun x=>if sEq x.1 r.1=true then upR x else Qs x)++(l.drop i).map upR
theorem Zi3 {l:List Row}{r:Row}{i:Nat}(h:i<l.length):wrS l r (i+1)=wrF r (wrS l r i) l[i]:=by
 unfold wrS;rw[Kbc h,Kae];rfl
theorem Xu (l:List Row) (r:Row):∀i,i<=l.length->(wrS l r i).1.length+(if (wrS l r i).2=true then 0 else 1)<=i+1
 | 0,_=>by simp [wrS]
 | i+1,h=>by
  have ih:=Xu l r i (by omega);rw[Zi3 (by omega)];generalize wrS l r i=s at ih;obtain⟨o,p⟩:=s;unfold wrF;cases p<;>cases sLt l[i].1 r.1<;>cases sEq l[i].1 r.1<;>simp at ih ⊢<;>omega
theorem Zrq (l:List Row) (r:Row):∀i,i<=l.length->∀x∈(wrS l r i).1,x=r\/x∈l
 | 0,_,x,hx=>by simp [wrS]at hx
 | i+1,h,x,hx=>by
  have ih:=Zrq l r i (by omega);rw[Zi3 (by omega)]at hx;generalize wrS l r i=s at ih hx;obtain⟨o,p⟩:=s;have hm:=Kcb (show i<l.length by omega);have key:x∈o\/x=r\/x=l[i]:=by
   revert hx
   unfold wrF;cases p<;>cases sLt l[i].1 r.1<;>cases sEq l[i].1 r.1<;>simp<;>intro hx<;>first|exact .inl hx|(rcases hx with h|h|h<;>simp [h])|(rcases hx with h|h<;>simp [h])
  rcases key with h|h|h
  ·exact ih x h
  ·exact .inl h
  exact .inr (h ▸ hm)
theorem Yx1 (l:List Row) (r:Row):(wrR l r).length<=l.length+1:=by
 have:=Xu l r l.length (Kc _);unfold wrR;split
 ·omega
 rename_i h;rw[if_neg h]at this;simp;omega
theorem Yx2 {l:List Row}{r x:Row}(h:x∈wrR l r):x=r\/x∈l:=by
 unfold wrR at h;split at h
 ·exact Zrq l r _ (Kc _) x h
 rcases Kca.1 h with h|h
 ·exact Zrq l r _ (Kc _) x h
 exact .inl (by simpa using h)
theorem Zf7 {l:List Row}{r:Row}{i:Nat}(h:i<=l.length):(hsS l r i).length=l.length:=by
 simp only[hsS,Kt,Ko,Kua,Kma];omega
theorem Zmw {l:List Row}{r:Row}{i:Nat}(h:i<l.length):(hsS l r i)[i]? = some (upR l[i]):=by
 unfold hsS;rw[Kia (by simp;omega)];simp only[Ko,Kua];rw[show i-min i l.length=0 by omega,Kba,Kdb,Kga,Ku h];rfl
theorem Zwk {l:List Row}{r:Row}{i:Nat}(h:i<l.length):(hsS l r i).set i (if sEq l[i].1 r.1=true then upR l[i] else Qs l[i])=hsS l r (i+1):=by
 unfold hsS;rw[Ktf _ _ (by simp;omega),Kwb h,Kbc h];simp only[Ko,Kua,Ke,Kx,Ktb,Kva];rw[show i-min i l.length=0 by omega];rfl
theorem Zwj {l:List Row}{r:Row}{i:Nat}(h:i<l.length) (he:sEq l[i].1 r.1=true):hsS l r i=hsS l r (i+1):=by
 rw[<-Zwk h,if_pos he];apply Kzc;intro j;rw[Kya];split
 ·rename_i e;subst e;rw[if_pos (by rw[Zf7 (by omega)];exact h)];exact Zmw h
 rfl
theorem Zwi {l:List Row}{r:Row}{i:Nat}(h:i<l.length) (he:sEq l[i].1 r.1=false):(hsS l r i).set i (Qs l[i])=hsS l r (i+1):=by
 rw[<-Zwk h,if_neg (by simp [he])]
theorem Yuo {l:List Row}{r:Row}(hl:l.length<=1048576) (hr:smR 1048576 r):Yt (l.map upR,r)=some (wrR l r):=by
 have hc:=Zbj hr;have lp:Aw (Zd5 (l.map upR,r)) (l.map upR,([],(false,0)))=some (.inl (wrS l r l.length)):=by
  refine I3 (fun i=>(hsS l r i,((wrS l r i).1,((wrS l r i).2,(i:Int))))) l.length _ (fun i hi=>?_) ?_ _ (by simp [hsS,wrS])
  ·have hln:(hsS l r i).length=l.length:=Zf7 (by omega);have hat:=Zmw (r:=r) hi;have hw:=Xu l r i (by omega);have hat2:∀X,((hsS l r i).set i X)[i]? = some X:=fun X=>Kwc (by omega);have hg:=Zwi (r:=r) hi;have hsm:=Zwj (r:=r) hi;rw[Zd5];simp only[Zi3 hi,wrF];rw[A3 (by rw[Ak,hln];omega),Ad];simp only[Tc,Zad,G5,hat,Aa,Bq,hat2,Kad,Al];generalize wrS l r i=s at hw;obtain⟨o,p⟩:=s;simp only at hw;have r1:A0 (o.length+1) 96=true:=Bj (by split at hw<;>omega)
   have r2:A0 ((o++[r]).length+1) 96=true:=Bj (by simp;split at hw<;>omega)
   have e1:(upR l[i]).1=l[i].1:=rfl;have e2:Hl (upR l[i]).2.1.2=true:=rfl;have e3:Hl (upR l[i]).2.2.1.2=true:=rfl;have e4:(l[i].1,((upR l[i]).2.1.1,Jo (upR l[i]).2.1.2),((upR l[i]).2.2.1.1,Jo (upR l[i]).2.2.1.2),(upR l[i]).2.2.2)=l[i]:=rfl;have e5:(l[i].1,((upR l[i]).2.1.1,none),((upR l[i]).2.2.1.1,none),(upR l[i]).2.2.2)=Qs l[i]:=rfl;simp only[e1,e2,e3,e4,e5,Az,hc,Aa,C4 (show i<9223372036854775807 by omega)];cases p<;>cases hlt:sLt l[i].1 r.1<;>cases heq:sEq l[i].1 r.1 <;>
    simp only[Av,A5,Ad,Ac,Aa,r1,r2,Az,Ar,Ksc,Kud,Kyd,Kxe,Kec,Knd,if_true,Kka,if_false] <;>
    first
     | rw[<-hsm heq]
     | rw[hg heq]
  rw[Zd5];simp only;rw[A6 (by rw[Ak,Zf7 (Kc _)];omega),Ac]
 rw[Yt];simp only;rw[lp,Ar,hc,Aa];have hw:=Xu l r l.length (Kc _);unfold wrR;cases hp:(wrS l r l.length).2 with
 | true=>rw[Av,Ac,Ar,if_pos rfl]
 | false =>
  rw[hp]at hw;rw[A5,Ad,Bj (by simp at hw;omega),Az,Ar,if_neg (by simp)];rfl
theorem Yp3 {l:List Row}{r:Row}(hl:l.length<=1048576) (hr:smR 1048576 r):Ye (l.map upR,r)=some (wrR l r):=by
 have hc:=Zmy hr;have lp:Aw (Zdz (l.map upR,r)) ([],(false,(l.map upR,0)))=some (.inl (wrS l r l.length)):=by
  refine I3 (fun i=>((wrS l r i).1,((wrS l r i).2,(hsS l r i,(i:Int))))) l.length _ (fun i hi=>?_) ?_ _ (by simp [hsS,wrS])
  ·have hln:(hsS l r i).length=l.length:=Zf7 (by omega);have hat:=Zmw (r:=r) hi;have hw:=Xu l r i (by omega);have hat2:∀X,((hsS l r i).set i X)[i]? = some X:=fun X=>Kwc (by omega);have hg:=Zwi (r:=r) hi;have hsm:=Zwj (r:=r) hi;rw[Zdz];simp only[Zi3 hi,wrF];rw[A3 (by rw[Ak,Ko];omega),Ad];simp only[Tc,Zad,G5,hat,Aa,Bq,hat2,Kad,Al];generalize wrS l r i=s at hw;obtain⟨o,p⟩:=s;simp only at hw;have r1:A0 (o.length+1) 96=true:=Bj (by split at hw<;>omega)
   have r2:A0 ((o++[r]).length+1) 96=true:=Bj (by simp;split at hw<;>omega)
   have e1:(upR l[i]).1=l[i].1:=rfl;have e2:Hl (upR l[i]).2.1.2=true:=rfl;have e3:Hl (upR l[i]).2.2.1.2=true:=rfl;have e4:(l[i].1,((upR l[i]).2.1.1,Jo (upR l[i]).2.1.2),((upR l[i]).2.2.1.1,Jo (upR l[i]).2.2.1.2),(upR l[i]).2.2.2)=l[i]:=rfl;have e5:(l[i].1,((upR l[i]).2.1.1,none),((upR l[i]).2.2.1.1,none),(upR l[i]).2.2.2)=Qs l[i]:=rfl;simp only[e1,e2,e3,e4,e5,Az,hc,Aa,C4 (show i<9223372036854775807 by omega)];cases p<;>cases hlt:sLt l[i].1 r.1<;>cases heq:sEq l[i].1 r.1 <;>
    simp only[Av,A5,Ad,Ac,Aa,r1,r2,Az,Ar,Ksc,Kud,Kyd,Kxe,Kec,Knd,if_true,Kka,if_false] <;>
    first
     | rw[<-hsm heq]
     | rw[hg heq]
  rw[Zdz];simp only;rw[A6 (by rw[Ak,Ko];omega),Ac]
 rw[Ye];simp only;rw[lp,Ar,hc,Aa];have hw:=Xu l r l.length (Kc _);unfold wrR;cases hp:(wrS l r l.length).2 with
 | true=>rw[Av,Ac,Ar,if_pos rfl]
 | false =>
  rw[hp]at hw;rw[A5,Ad,Bj (by simp at hw;omega),Az,Ar,if_neg (by simp)];rfl
def G3 (key:List UInt8) (x:Row):Bool:=!(x.1==key)
def Hf (l:List Row) (key:List UInt8):List Row:=l.filter (G3 key)
abbrev Yd6:=Int×List UInt8×Int×Int×Int×Bool×List UInt8×Int×Int×Int×Int
def Vg (r:Rec):Yd6:=(r.1,(r.2.1.1,(r.2.1.2.1.1,(r.2.1.2.2.1.1,(r.2.1.2.2.2.1,(r.2.1.2.2.2.2,(r.2.2.1,(r.2.2.2.1,(r.2.2.2.2.1,(r.2.2.2.2.2.1,r.2.2.2.2.2.2))))))))))
def Zm9 (r:Rec) (i:Nat):Int×List UInt8×Int×Int×Int×Bool×List UInt8×Int×Int×Int×Int×Int:=(r.1,(r.2.1.1,(r.2.1.2.1.1,(r.2.1.2.2.1.1,(r.2.1.2.2.2.1,(r.2.1.2.2.2.2,(r.2.2.1,(r.2.2.2.1,(r.2.2.2.2.1,(r.2.2.2.2.2.1,(r.2.2.2.2.2.2,(i:Int))))))))))))
theorem Ypj {l:List Row}{r:Rec}(hl:l.length<=1048576):Zdl (l,r)=some (match l.findIdx? (fun x=>x.1==r.2.2.1) with|some i=>((i:Int),Vg r)|none=>(-1,Vg r)):=by
 rw[Zdl];exact Zme (Zm9 r) l (fun x=>x.1==r.2.2.1) (fun i=>((i:Int),Vg r)) (-1,Vg r) (fun i hi=>by
  rw[Zjz];simp only[Zm9,Xx];rw[A3 (by rw[Ak];omega),Ad,Bp hi,Aa,Aa,Zbk,Ztd,C4 (by omega)];rfl) (by
  rw[Zjz];simp only[Zm9];rw[A6 (by rw[Ak];omega),Ac];rfl) _ rfl
def Sq (r:Rec) (H:List Iq) (i:Int) (j:Int):List Iq×Int×List UInt8×Int×Int×Int×Bool×List UInt8×Int×Int×Int×Int×Int×Int:=(H,(r.1,(r.2.1.1,(r.2.1.2.1.1,(r.2.1.2.2.1.1,(r.2.1.2.2.2.1,(r.2.1.2.2.2.2,(r.2.2.1,(r.2.2.2.1,(r.2.2.2.2.1,(r.2.2.2.2.2.1,(r.2.2.2.2.2.2,(i,j)))))))))))))
def Zld (r:Rec) (H:List Iq) (i:Int):List Iq×Int×List UInt8×Int×Int×Int×Bool×List UInt8×Int×Int×Int×Int×Int:=(H,(r.1,(r.2.1.1,(r.2.1.2.1.1,(r.2.1.2.2.1.1,(r.2.1.2.2.2.1,(r.2.1.2.2.2.2,(r.2.2.1,(r.2.2.2.1,(r.2.2.2.2.1,(r.2.2.2.2.2.1,(r.2.2.2.2.2.2,i))))))))))))
def Zcn (l:List Row) (key:List UInt8) (H:List Iq) (i j:Nat):Prop:=H.length=l.length/\i<j/\j<=l.length/\i=(Hf (l.take j) key).length/\H.take i=(Hf (l.take j) key).map upR/\∀k,j<=k->H[k]? = (l.map upR)[k]?
theorem Yga {l:List Row}{r:Rec}{H:List Iq}{i j:Nat}(hl:l.length<=1048576) (h:Zcn l r.2.2.1 H i j) (hj:j<l.length) :
  ∃(H':List Iq) (i':Nat),Y5 (l.map upR,r) (Sq r H (i:Int) (j:Int))=some (.inl (Sq r H' (i':Int) ((j+1:Nat):Int)))/\Zcn l r.2.2.1 H' i' (j+1):=by
 obtain⟨h1,h2,h3,h4,h5,h6⟩:=h;have hjj:H[j]? = some (upR l[j]):=by rw[h6 j (Kc _),Kba,Ku hj];rfl
 have hii:H[i]? = some (H[i]'(by omega)):=Ku (by omega);have htk:l.take (j+1)=l.take j++[l[j]]:=Kbc hj;have e1:Hl (upR l[j]).2.1.2=true:=rfl;have e2:Hl (upR l[j]).2.2.1.2=true:=rfl;rw[Y5];simp only[Sq,Xx];rw[A3 (by rw[Ak];omega),Ad,Tc,hjj,Aa,e1,e2,Az,Az,Aa,Zbk];have e3:(upR l[j]).1=l[j].1:=rfl;rw[e3];cases hp:(l[j].1==r.2.2.1) with
 | true =>
  refine⟨H,i, ?_,h1,by omega,by omega, ?_, ?_,fun k hk=>h6 k (by omega)⟩
  ·rw[Av,Ac,Ar,C4 (by omega)]
  ·rw[htk];simp only[Hf,Kce]at h4 ⊢;simp [G3,hp];exact h4
  rw[htk];simp only[Hf,Kce]at h5 ⊢;rw[h5];simp [G3,hp]
 | false =>
  refine⟨(H.set i (upR l[j])).set j (Qs l[j]),i+1, ?_,by simp [h1],by omega,by omega, ?_, ?_,fun k hk=>?_⟩
  ·have e4:nNe i j=true:=by simp [nNe];omega
   rw[A5,Ad,Tc,hii,Aa];simp only[G5,e4,Az,Zad,hjj,Aa,Yrw,Ar,Bq,C4 (show j<9223372036854775807 by omega),C4 (show i<9223372036854775807 by omega)];rfl
  ·rw[htk];simp only[Hf,Kce]at h4 ⊢;simp [G3,hp];exact h4
  ·have e5:(H.set i (upR l[j])).take (i+1)=H.take i++[upR l[j]]:=by
    rw[Kbc (by rw[Kee];omega),Kve (Kc i),List.getElem_set_self]
   rw[Kve (by omega),e5,htk];simp only[Hf,Kce]at h5 ⊢;rw[h5];simp [G3,hp]
  rw[Kgd (by omega),Kgd (by omega)];exact h6 k (by omega)
theorem Yf3 (H:List Iq) (L:List Row) (i n:Nat) (hi:i<=H.length) (h:H.take i=L.map upR) (z:Iq):cvL Nq tyR (Br (i-0) (Al (Br i H) (I2 n z)))=some L:=by
 have e:Br (i-0) (Al (Br i H) (I2 n z))=L.map upR:=by
  simp only[Br,Al,Kxc];rw[List.take_append_of_le_length (by simp;omega),List.take_take,Nat.min_self,h]
 rw[e,Ze9]
theorem Ypa {l : List Row} {r : Rec} (hl : l.length ≤ 1048576) : Yz (l.map upR, r) = some (Hf l r.2.2.1, Vg r) := by
  rw [Yz];simp only;rw [Ze9, Aa, Ypj hl, Aa];cases hf : l.findIdx? (fun x => x.1 == r.2.2.1) with
  | none =>
    simp only [V9, Ad, Aa];rw [Kag] at hf;have : Hf l r.2.2.1 = l := Kmd.2 fun x hx => by simp [G3, hf x hx]
    rw [this]
  | some k =>
    rw [Kzf] at hf;obtain ⟨hk, hk1, hk2⟩ := hf;simp only;rw [Dp (by omega), Ac];have hd0 : Hf (l.take (k + 1)) r.2.2.1 = l.take k := by
      rw [Kbc hk];unfold Hf;rw [Kce];have e1 : (l.take k).filter (G3 r.2.2.1) = l.take k := Kmd.2 fun x hx => by
        obtain ⟨j, hj, rfl⟩ := Krc hx;rw [Kua] at hj;have := hk2 j (by omega);rw [Kxf];simp only [G3];simpa using this
      have e2 : ([l[k]] : List Row).filter (G3 r.2.2.1) = [] := by simp [G3, hk1]
      rw [e1, e2, Kw]
    obtain ⟨out, q1, i, H, rfl, q2⟩ := M7 (step := Y5 (l.map upR, r)) (fun n s => ∃ H i, s = Sq r H ((i : Nat) : Int) ((k + 1 + n : Nat) : Int) ∧ Zcn l r.2.2.1 H i (k + 1 + n)) (l.length - (k + 1)) (fun o => ∃ i H, o = .inl (Zld r H ((i : Nat) : Int)) ∧ Zcn l r.2.2.1 H i l.length)
      (fun n s hn hs => by
        obtain ⟨H, i, rfl, hi⟩ := hs;obtain ⟨H', i', g1, g2⟩ := Yga hl hi (by omega);exact .inl ⟨_, g1, H', i', by rw [show k + 1 + (n + 1) = k + 1 + n + 1 by omega], by rw [show k + 1 + (n + 1) = k + 1 + n + 1 by omega]; exact g2⟩)
      (fun s hs => by
        obtain ⟨H, i, rfl, hi⟩ := hs;have e : k + 1 + (l.length - (k + 1)) = l.length := by omega
        rw [e] at hi ⊢;refine ⟨.inl (Zld r H (i : Int)), ?_, i, H, rfl, hi⟩;rw [Y5];simp only [Sq];rw [A6 (by rw [Ak, hi.1]; omega), Ac];rfl)
      (Sq r (l.map upR) ((k : Nat) : Int) ((k + 1 + 0 : Nat) : Int)) ⟨_, _, rfl, by simp, by omega, by omega, by rw [Kga, hd0]; simp; omega, by rw [Kga, hd0, Keb], fun _ _ => rfl⟩
    have q1' := q1;simp only [Sq, Kga] at q1';simp only [Vg];rw [C4 (by omega), q1', Ar];obtain ⟨g1, g2, g3, g4, g5, g6⟩ := q2;simp only [Zld];have c1 : Di (i : Int) (Ah H) (Ah H) = true := by simp [Di, Ah]; omega
    have c2 : nEq (nOf (i : Int) + (nOf (Ah H) - nOf (i : Int))) H.length = true := by
      rw [Ak, G5, G5]; simp [nEq]; omega
    have c3 : ∀ z : Iq, (Al (Br (nOf (i : Int)) H) (I2 (nOf (H.length : Int) - nOf (i : Int)) z)).length = H.length := fun z => by
      rw [G5, G5]; simp [Al, Br, I2]; omega
    have c4 : Di 0 (i : Int) (Ah H) = true := by simp [Di, Ah]; omega
    have c5 : Jn 0 (nOf (i : Int) - 0) H.length = true := by rw [G5]; simp [Jn]; omega
    rw [Kkc] at g5;rw [c1, Az, c2, Az];simp only [Ak, c3];rw [Ak] at c4;rw [c4, Az, c5, Az];simp only [G5];rw [Yf3 H (Hf l r.2.2.1) i _ (by omega) g5, Aa]
end
end Go.Vs
