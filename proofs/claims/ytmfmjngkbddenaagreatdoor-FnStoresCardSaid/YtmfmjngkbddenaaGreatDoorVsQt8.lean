import Derived.Test.YtmfmjngkbddenaaGreatDoorVsW5
import Derived.Test.YtmfmjngkbddenaaGreatDoorVsQt7
set_option linter.all false
namespace Go.Vs
noncomputable section
def Zhe (l:List Row) (key:List UInt8):Int:=match l.findIdx? (fun r=>r.1==key) with
 | some i=>(i:Int)
 | none=>-1
theorem Ytr {t:Tab}{key:List UInt8}(h:t.1.length<9223372036854775807):Yb (t,key)=some (Zhe t.1 key):=by
 unfold Yb Zhe;exact Zl0 (fun i=>(i:Int)) t.1 (fun r=>r.1==key) (fun i=>(i:Int)) (-1) (fun i hi=>by
  unfold Zjj;simp only;rw[A5 (by simp only[Ak];omega),Ad,Br hi,Aa,Zbb,Zsv,Cz (by omega)]) (by
  unfold Zjj;simp only;rw[A6 (by simp only[Ak];omega),Ac]) _ rfl
theorem Zhj {x y:UInt8}{a b:List UInt8}:sLt (x::a) (y::b)=true ↔ x.toNat<y.toNat\/(x=y/\sLt a b=true):=by
 simp only[sLt,Op.bytesLess,Kmb,Kd,decide_eq_true_eq,beq_iff_eq];rw[UInt8.lt_iff_toNat_lt]
theorem Zhk {a:List UInt8}:sLt a []=false:=by cases a<;>rfl
theorem Tr:∀a:List UInt8,sLt a a=false
 | []=>rfl
 | x::a=>by
  cases h:sLt (x::a) (x::a) with
  | false=>rfl
  | true =>
   rcases Zhj.1 h with h|⟨_,h⟩
   ·omega
   ·rw[Tr a]at h;cases h
theorem Zpe:∀{a b c:List UInt8},sLt a b=true->sLt b c=true->sLt a c=true:=by
 intro a
 induction a with
 | nil=>intro b c h1 h2;cases b with
  | nil=>rw[Zhk]at h1;cases h1
  | cons y b=>cases c with
   | nil=>rw[Zhk]at h2;cases h2
   | cons z c=>rfl
 | cons x a ih =>
  intro b c h1 h2;cases b with
  | nil=>rw[Zhk]at h1;cases h1
  | cons y b=>cases c with
   | nil=>rw[Zhk]at h2;cases h2
   | cons z c =>
    rw[Zhj]at h1 h2 ⊢;rcases h1 with h1|⟨rfl,h1⟩
    ·rcases h2 with h2|⟨rfl,h2⟩
     ·left;omega
     ·exact .inl h1
    ·rcases h2 with h2|⟨rfl,h2⟩
     ·exact .inl h2
     ·exact .inr ⟨rfl,ih h1 h2⟩
theorem Yaj:∀a b:List UInt8,sLt a b=true\/a=b\/sLt b a=true:=by
 intro a
 induction a with
 | nil=>intro b;cases b with
  | nil=>exact .inr (.inl rfl)
  | cons y b=>exact .inl rfl
 | cons x a ih =>
  intro b;cases b with
  | nil=>exact .inr (.inr rfl)
  | cons y b =>
   rw[Zhj,Zhj];rcases Kdg x.toNat y.toNat with h|h|h
   ·exact .inl (.inl h)
   ·have e:x=y:=UInt8.toNat_inj.1 h;subst e;rcases ih b with h|h|h
    ·exact .inl (.inr ⟨rfl,h⟩)
    ·exact .inr (.inl (by rw[h]))
    ·exact .inr (.inr (.inr ⟨rfl,h⟩))
   ·exact .inr (.inr (.inl h))
abbrev Im:=List UInt8×(Int×Option (List UInt8))×(Int×Option (List UInt8))×Int×Bool
abbrev tyR:Ty:=.P .S (.P (.P (.I .i64) (.L .Y)) (.P (.P (.I .i64) (.L .Y)) (.P (.I .i64) .B)))
abbrev Nn:Ty:=.P .S (.P (.P (.I .i64) (.H .Y)) (.P (.P (.I .i64) (.H .Y)) (.P (.I .i64) .B)))
def upR (r:Row):Im:=(r.1,((r.2.1.1,some r.2.1.2),((r.2.2.1.1,some r.2.2.1.2),r.2.2.2)))
def Qo (r:Row):Im:=(r.1,((r.2.1.1,none),((r.2.2.1.1,none),r.2.2.2)))
theorem Ze0:∀l:List Row,cvL tyR Nn l=some (l.map upR)
 | []=>rfl
 | r::l=>by
  have e:cv tyR Nn r=some (upR r):=rfl;simp only[cvL,e,Ze0 l,Ke]
theorem Zez:∀l:List Row,cvL Nn tyR (l.map upR)=some l
 | []=>rfl
 | r::l=>by
  have e:cv Nn tyR (upR r)=some r:=rfl;simp only[Ke,cvL,e,Zez l]
def mvR (l:List Row) (k:Nat):List Im:=mvW tyR 0 k l
theorem Yq8 (l:List Row) (k:Nat):mvR l k=(l.take k).map Qo++(l.drop k).map upR:=by
 have e:mvR l k=(l.take k).map Qo++(l.drop (0+k)).map upR:=rfl;rw[e,Kr]
theorem Yq7 (l:List Row) (k:Nat):(mvR l k).drop (k+1)=(l.drop (k+1)).map upR:=by
 rw[Yq8,List.drop_append,Kvf (by simp;omega),Kl,Ko,Kua,<-Kfb,Kad];by_cases h:k<=l.length
 ·rw[Kmd h,show k+(k+1-k)=k+1 by omega]
 ·rw[Kvf (by omega),Kvf (by omega)]
theorem Yrb (l:List Row) (k:Nat) (h:k<=l.length):(mvW tyR 0 k l).length=l.length:=Zxz tyR 0 k l (by omega)
theorem Yq9 (l:List Row) (k n:Nat):cvL Nn tyR (Bp n (Dr (k+1) (mvW tyR 0 k l)))=some ((l.drop (k+1)).take n):=by
 have e:cvL Nn tyR (((mvR l k).drop (k+1)).take n)=some ((l.drop (k+1)).take n):=by
  rw[Yq7,<-Keb,Zez]
 exact e
def wrF (r:Row) (s:List Row×Bool) (x:Row):List Row×Bool :=
 let s1:=if (!s.2&&!(sLt x.1 r.1))=true then (s.1++[r],true) else s
 if sEq x.1 r.1=true then s1 else (s1.1++[x],s1.2)
def wrS (l:List Row) (r:Row) (i:Nat):List Row×Bool:=(l.take i).foldl (wrF r) ([],false)
def wrR (l:List Row) (r:Row):List Row:=if (wrS l r l.length).2=true then (wrS l r l.length).1 else (wrS l r l.length).1++[r]
def hsS (l:List Row) (r:Row) (i:Nat):List Im:=(l.take i).map (fun x=>if sEq x.1 r.1=true then upR x else Qo x)++(l.drop i).map upR
theorem Zis {l:List Row}{r:Row}{i:Nat}(h:i<l.length):wrS l r (i+1)=wrF r (wrS l r i) l[i]:=by
 unfold wrS;rw[Kbc h,Kzd];rfl
theorem Xj (l:List Row) (r:Row):∀i,i<=l.length->(wrS l r i).1.length+(if (wrS l r i).2=true then 0 else 1)<=i+1
 | 0,_=>by simp [wrS]
 | i+1,h=>by
  have ih:=Xj l r i (by omega);rw[Zis (by omega)];generalize wrS l r i=s at ih;obtain⟨o,p⟩:=s;unfold wrF;cases p<;>cases sLt l[i].1 r.1<;>cases sEq l[i].1 r.1<;>simp at ih ⊢<;>omega
theorem Zq7 (l:List Row) (r:Row):∀i,i<=l.length->∀x∈(wrS l r i).1,x=r\/x∈l
 | 0,_,x,hx=>by simp [wrS]at hx
 | i+1,h,x,hx=>by
  have ih:=Zq7 l r i (by omega);rw[Zis (by omega)]at hx;generalize wrS l r i=s at ih hx;obtain⟨o,p⟩:=s;have hm:=Kcb (show i<l.length by omega);have key:x∈o\/x=r\/x=l[i]:=by
   revert hx
   unfold wrF;cases p<;>cases sLt l[i].1 r.1<;>cases sEq l[i].1 r.1<;>simp<;>intro hx<;>first|exact .inl hx|(rcases hx with h|h|h<;>simp [h])|(rcases hx with h|h<;>simp [h])
  rcases key with h|h|h
  ·exact ih x h
  ·exact .inl h
  ·exact .inr (h ▸ hm)
theorem Yxk (l:List Row) (r:Row):(wrR l r).length<=l.length+1:=by
 have:=Xj l r l.length (Kc _);unfold wrR;split
 ·omega
 ·rename_i h;rw[if_neg h]at this;simp;omega
theorem Yxl {l:List Row}{r x:Row}(h:x∈wrR l r):x=r\/x∈l:=by
 unfold wrR at h;split at h
 ·exact Zq7 l r _ (Kc _) x h
 ·rcases Kda.1 h with h|h
  ·exact Zq7 l r _ (Kc _) x h
  ·exact .inl (by simpa using h)
theorem Zfx {l:List Row}{r:Row}{i:Nat}(h:i<=l.length):(hsS l r i).length=l.length:=by
 simp only[hsS,Kt,Ko,Kua,Kma];omega
theorem Zmg {l:List Row}{r:Row}{i:Nat}(h:i<l.length):(hsS l r i)[i]? = some (upR l[i]):=by
 unfold hsS;rw[Kia (by simp;omega)];simp only[Ko,Kua];rw[show i-min i l.length=0 by omega,Kba,Kdb,Kga,Ku h];rfl
theorem Zv8 {l:List Row}{r:Row}{i:Nat}(h:i<l.length):(hsS l r i).set i (if sEq l[i].1 r.1=true then upR l[i] else Qo l[i])=hsS l r (i+1):=by
 unfold hsS;rw[Ktf _ _ (by simp;omega),Kwb h,Kbc h];simp only[Ko,Kua,Ke,Kx,Ktb,Kva];rw[show i-min i l.length=0 by omega];rfl
theorem Zv7 {l:List Row}{r:Row}{i:Nat}(h:i<l.length) (he:sEq l[i].1 r.1=true):hsS l r i=hsS l r (i+1):=by
 rw[<-Zv8 h,if_pos he];apply Kyc;intro j;rw[Kya];split
 ·rename_i e;subst e;rw[if_pos (by rw[Zfx (by omega)];exact h)];exact Zmg h
 ·rfl
theorem Zv6 {l:List Row}{r:Row}{i:Nat}(h:i<l.length) (he:sEq l[i].1 r.1=false):(hsS l r i).set i (Qo l[i])=hsS l r (i+1):=by
 rw[<-Zv8 h,if_neg (by simp [he])]
theorem Yt7 {l:List Row}{r:Row}(hl:l.length<=1048576) (hr:smR 1048576 r):Yh (l.map upR,r)=some (wrR l r):=by
 have hc:=Zba hr;have lp:Aw (Zdw (l.map upR,r)) (l.map upR,([],(false,0)))=some (.inl (wrS l r l.length)):=by
  refine I0 (fun i=>(hsS l r i,((wrS l r i).1,((wrS l r i).2,(i:Int))))) l.length _ (fun i hi=>?_) ?_ _ (by simp [hsS,wrS])
  ·have hln:(hsS l r i).length=l.length:=Zfx (by omega);have hat:=Zmg (r:=r) hi;have hw:=Xj l r i (by omega);have hat2:∀X,((hsS l r i).set i X)[i]? = some X:=fun X=>Kvc (by omega);have hg:=Zv6 (r:=r) hi;have hsm:=Zv7 (r:=r) hi;rw[Zdw];simp only[Zis hi,wrF];rw[A5 (by rw[Ak,hln];omega),Ad];simp only[Sy,Z2,G3,hat,Aa,Bo,hat2,Kzc,Al];generalize wrS l r i=s at hw;obtain⟨o,p⟩:=s;simp only at hw;have r1:A0 (o.length+1) 96=true:=Bi (by split at hw<;>omega)
   have r2:A0 ((o++[r]).length+1) 96=true:=Bi (by simp;split at hw<;>omega)
   have e1:(upR l[i]).1=l[i].1:=rfl;have e2:Hi (upR l[i]).2.1.2=true:=rfl;have e3:Hi (upR l[i]).2.2.1.2=true:=rfl;have e4:(l[i].1,((upR l[i]).2.1.1,Jn (upR l[i]).2.1.2),((upR l[i]).2.2.1.1,Jn (upR l[i]).2.2.1.2),(upR l[i]).2.2.2)=l[i]:=rfl;have e5:(l[i].1,((upR l[i]).2.1.1,none),((upR l[i]).2.2.1.1,none),(upR l[i]).2.2.2)=Qo l[i]:=rfl;simp only[e1,e2,e3,e4,e5,Az,hc,Aa,Cz (show i<9223372036854775807 by omega)];cases p<;>cases hlt:sLt l[i].1 r.1<;>cases heq:sEq l[i].1 r.1 <;>
    simp only[Au,A3,Ad,Ac,Aa,r1,r2,Az,Ar,Kqc,Ksd,Kxd,Kxe,Kec,Kld,if_true,Kla,if_false] <;>
    first
     | rw[<-hsm heq]
     | rw[hg heq]
  ·rw[Zdw];simp only;rw[A6 (by rw[Ak,Zfx (Kc _)];omega),Ac]
 rw[Yh];simp only;rw[lp,Ar,hc,Aa];have hw:=Xj l r l.length (Kc _);unfold wrR;cases hp:(wrS l r l.length).2 with
 | true=>rw[Au,Ac,Ar,if_pos rfl]
 | false =>
  rw[hp]at hw;rw[A3,Ad,Bi (by simp at hw;omega),Az,Ar,if_neg (by simp)];rfl
theorem Ypl {l:List Row}{r:Row}(hl:l.length<=1048576) (hr:smR 1048576 r):Xy (l.map upR,r)=some (wrR l r):=by
 have hc:=Zmi hr;have lp:Aw (Zdq (l.map upR,r)) ([],(false,(l.map upR,0)))=some (.inl (wrS l r l.length)):=by
  refine I0 (fun i=>((wrS l r i).1,((wrS l r i).2,(hsS l r i,(i:Int))))) l.length _ (fun i hi=>?_) ?_ _ (by simp [hsS,wrS])
  ·have hln:(hsS l r i).length=l.length:=Zfx (by omega);have hat:=Zmg (r:=r) hi;have hw:=Xj l r i (by omega);have hat2:∀X,((hsS l r i).set i X)[i]? = some X:=fun X=>Kvc (by omega);have hg:=Zv6 (r:=r) hi;have hsm:=Zv7 (r:=r) hi;rw[Zdq];simp only[Zis hi,wrF];rw[A5 (by rw[Ak,Ko];omega),Ad];simp only[Sy,Z2,G3,hat,Aa,Bo,hat2,Kzc,Al];generalize wrS l r i=s at hw;obtain⟨o,p⟩:=s;simp only at hw;have r1:A0 (o.length+1) 96=true:=Bi (by split at hw<;>omega)
   have r2:A0 ((o++[r]).length+1) 96=true:=Bi (by simp;split at hw<;>omega)
   have e1:(upR l[i]).1=l[i].1:=rfl;have e2:Hi (upR l[i]).2.1.2=true:=rfl;have e3:Hi (upR l[i]).2.2.1.2=true:=rfl;have e4:(l[i].1,((upR l[i]).2.1.1,Jn (upR l[i]).2.1.2),((upR l[i]).2.2.1.1,Jn (upR l[i]).2.2.1.2),(upR l[i]).2.2.2)=l[i]:=rfl;have e5:(l[i].1,((upR l[i]).2.1.1,none),((upR l[i]).2.2.1.1,none),(upR l[i]).2.2.2)=Qo l[i]:=rfl;simp only[e1,e2,e3,e4,e5,Az,hc,Aa,Cz (show i<9223372036854775807 by omega)];cases p<;>cases hlt:sLt l[i].1 r.1<;>cases heq:sEq l[i].1 r.1 <;>
    simp only[Au,A3,Ad,Ac,Aa,r1,r2,Az,Ar,Kqc,Ksd,Kxd,Kxe,Kec,Kld,if_true,Kla,if_false] <;>
    first
     | rw[<-hsm heq]
     | rw[hg heq]
  ·rw[Zdq];simp only;rw[A6 (by rw[Ak,Ko];omega),Ac]
 rw[Xy];simp only;rw[lp,Ar,hc,Aa];have hw:=Xj l r l.length (Kc _);unfold wrR;cases hp:(wrS l r l.length).2 with
 | true=>rw[Au,Ac,Ar,if_pos rfl]
 | false =>
  rw[hp]at hw;rw[A3,Ad,Bi (by simp at hw;omega),Az,Ar,if_neg (by simp)];rfl
def G1 (key:List UInt8) (x:Row):Bool:=!(x.1==key)
def Hc (l:List Row) (key:List UInt8):List Row:=l.filter (G1 key)
abbrev Yds:=Int×List UInt8×Int×Int×Int×Bool×List UInt8×Int×Int×Int×Int
def U7 (r:Rec):Yds:=(r.1,(r.2.1.1,(r.2.1.2.1.1,(r.2.1.2.2.1.1,(r.2.1.2.2.2.1,(r.2.1.2.2.2.2,(r.2.2.1,(r.2.2.2.1,(r.2.2.2.2.1,(r.2.2.2.2.2.1,r.2.2.2.2.2.2))))))))))
def Zmt (r:Rec) (i:Nat):Int×List UInt8×Int×Int×Int×Bool×List UInt8×Int×Int×Int×Int×Int:=(r.1,(r.2.1.1,(r.2.1.2.1.1,(r.2.1.2.2.1.1,(r.2.1.2.2.2.1,(r.2.1.2.2.2.2,(r.2.2.1,(r.2.2.2.1,(r.2.2.2.2.1,(r.2.2.2.2.2.1,(r.2.2.2.2.2.2,(i:Int))))))))))))
theorem Yo2 {l:List Row}{r:Rec}(hl:l.length<=1048576):Zdc (l,r)=some (match l.findIdx? (fun x=>x.1==r.2.2.1) with|some i=>((i:Int),U7 r)|none=>(-1,U7 r)):=by
 rw[Zdc];exact Zl0 (Zmt r) l (fun x=>x.1==r.2.2.1) (fun i=>((i:Int),U7 r)) (-1,U7 r) (fun i hi=>by
  rw[Zjo];simp only[Zmt,Xm];rw[A5 (by rw[Ak];omega),Ad,Br hi,Aa,Aa,Zbb,Zsv,Cz (by omega)];rfl) (by
  rw[Zjo];simp only[Zmt];rw[A6 (by rw[Ak];omega),Ac];rfl) _ rfl
def Sh (r:Rec) (H:List Im) (i:Int) (j:Int):List Im×Int×List UInt8×Int×Int×Int×Bool×List UInt8×Int×Int×Int×Int×Int×Int:=(H,(r.1,(r.2.1.1,(r.2.1.2.1.1,(r.2.1.2.2.1.1,(r.2.1.2.2.2.1,(r.2.1.2.2.2.2,(r.2.2.1,(r.2.2.2.1,(r.2.2.2.2.1,(r.2.2.2.2.2.1,(r.2.2.2.2.2.2,(i,j)))))))))))))
def Zk0 (r:Rec) (H:List Im) (i:Int):List Im×Int×List UInt8×Int×Int×Int×Bool×List UInt8×Int×Int×Int×Int×Int:=(H,(r.1,(r.2.1.1,(r.2.1.2.1.1,(r.2.1.2.2.1.1,(r.2.1.2.2.2.1,(r.2.1.2.2.2.2,(r.2.2.1,(r.2.2.2.1,(r.2.2.2.2.1,(r.2.2.2.2.2.1,(r.2.2.2.2.2.2,i))))))))))))
def Zce (l:List Row) (key:List UInt8) (H:List Im) (i j:Nat):Prop:=H.length=l.length/\i<j/\j<=l.length/\i=(Hc (l.take j) key).length/\H.take i=(Hc (l.take j) key).map upR/\∀k,j<=k->H[k]? = (l.map upR)[k]?
theorem Yfv {l:List Row}{r:Rec}{H:List Im}{i j:Nat}(hl:l.length<=1048576) (h:Zce l r.2.2.1 H i j) (hj:j<l.length) :
  ∃(H':List Im) (i':Nat),Yt (l.map upR,r) (Sh r H (i:Int) (j:Int))=some (.inl (Sh r H' (i':Int) ((j+1:Nat):Int)))/\Zce l r.2.2.1 H' i' (j+1):=by
 obtain⟨h1,h2,h3,h4,h5,h6⟩:=h;have hjj:H[j]? = some (upR l[j]):=by rw[h6 j (Kc _),Kba,Ku hj];rfl
 have hii:H[i]? = some (H[i]'(by omega)):=Ku (by omega);have htk:l.take (j+1)=l.take j++[l[j]]:=Kbc hj;have e1:Hi (upR l[j]).2.1.2=true:=rfl;have e2:Hi (upR l[j]).2.2.1.2=true:=rfl;rw[Yt];simp only[Sh,Xm];rw[A5 (by rw[Ak];omega),Ad,Sy,hjj,Aa,e1,e2,Az,Az,Aa,Zbb];have e3:(upR l[j]).1=l[j].1:=rfl;rw[e3];cases hp:(l[j].1==r.2.2.1) with
 | true =>
  refine⟨H,i, ?_,h1,by omega,by omega, ?_, ?_,fun k hk=>h6 k (by omega)⟩
  ·rw[Au,Ac,Ar,Cz (by omega)]
  ·rw[htk];simp only[Hc,Kbe]at h4 ⊢;simp [G1,hp];exact h4
  ·rw[htk];simp only[Hc,Kbe]at h5 ⊢;rw[h5];simp [G1,hp]
 | false =>
  refine⟨(H.set i (upR l[j])).set j (Qo l[j]),i+1, ?_,by simp [h1],by omega,by omega, ?_, ?_,fun k hk=>?_⟩
  ·have e4:nNe i j=true:=by simp [nNe];omega
   rw[A3,Ad,Sy,hii,Aa];simp only[G3,e4,Az,Z2,hjj,Aa,Yrc,Ar,Bo,Cz (show j<9223372036854775807 by omega),Cz (show i<9223372036854775807 by omega)];rfl
  ·rw[htk];simp only[Hc,Kbe]at h4 ⊢;simp [G1,hp];exact h4
  ·have e5:(H.set i (upR l[j])).take (i+1)=H.take i++[upR l[j]]:=by
    rw[Kbc (by rw[Kde];omega),Kue (Kc i),List.getElem_set_self]
   rw[Kue (by omega),e5,htk];simp only[Hc,Kbe]at h5 ⊢;rw[h5];simp [G1,hp]
  ·rw[Kfd (by omega),Kfd (by omega)];exact h6 k (by omega)
theorem Yfo (H:List Im) (L:List Row) (i n:Nat) (hi:i<=H.length) (h:H.take i=L.map upR) (z:Im):cvL Nn tyR (Bp (i-0) (Al (Bp i H) (Iz n z)))=some L:=by
 have e:Bp (i-0) (Al (Bp i H) (Iz n z))=L.map upR:=by
  simp only[Bp,Al,Kwc];rw[List.take_append_of_le_length (by simp;omega),List.take_take,Nat.min_self,h]
 rw[e,Zez]
theorem Yot {l : List Row} {r : Rec} (hl : l.length ≤ 1048576) : Yn (l.map upR, r) = some (Hc l r.2.2.1, U7 r) := by
  rw [Yn];simp only;rw [Zez, Aa, Yo2 hl, Aa];cases hf : l.findIdx? (fun x => x.1 == r.2.2.1) with
  | none =>
    simp only [Ok, Ad, Aa];rw [Kag] at hf;have : Hc l r.2.2.1 = l := Kkd.2 fun x hx => by simp [G1, hf x hx]
    rw [this]
  | some k =>
    rw [Kzf] at hf;obtain ⟨hk, hk1, hk2⟩ := hf;simp only;rw [Dk (by omega), Ac];have hd0 : Hc (l.take (k + 1)) r.2.2.1 = l.take k := by
      rw [Kbc hk];unfold Hc;rw [Kbe];have e1 : (l.take k).filter (G1 r.2.2.1) = l.take k := Kkd.2 fun x hx => by
        obtain ⟨j, hj, rfl⟩ := Kpc hx;rw [Kua] at hj;have := hk2 j (by omega);rw [Kxf];simp only [G1];simpa using this
      have e2 : ([l[k]] : List Row).filter (G1 r.2.2.1) = [] := by simp [G1, hk1]
      rw [e1, e2, Kw]
    obtain ⟨out, q1, i, H, rfl, q2⟩ := M5 (step := Yt (l.map upR, r)) (fun n s => ∃ H i, s = Sh r H ((i : Nat) : Int) ((k + 1 + n : Nat) : Int) ∧ Zce l r.2.2.1 H i (k + 1 + n)) (l.length - (k + 1)) (fun o => ∃ i H, o = .inl (Zk0 r H ((i : Nat) : Int)) ∧ Zce l r.2.2.1 H i l.length)
      (fun n s hn hs => by
        obtain ⟨H, i, rfl, hi⟩ := hs;obtain ⟨H', i', g1, g2⟩ := Yfv hl hi (by omega);exact .inl ⟨_, g1, H', i', by rw [show k + 1 + (n + 1) = k + 1 + n + 1 by omega], by rw [show k + 1 + (n + 1) = k + 1 + n + 1 by omega]; exact g2⟩)
      (fun s hs => by
        obtain ⟨H, i, rfl, hi⟩ := hs;have e : k + 1 + (l.length - (k + 1)) = l.length := by omega
        rw [e] at hi ⊢;refine ⟨.inl (Zk0 r H (i : Int)), ?_, i, H, rfl, hi⟩;rw [Yt];simp only [Sh];rw [A6 (by rw [Ak, hi.1]; omega), Ac];rfl)
      (Sh r (l.map upR) ((k : Nat) : Int) ((k + 1 + 0 : Nat) : Int)) ⟨_, _, rfl, by simp, by omega, by omega, by rw [Kga, hd0]; simp; omega, by rw [Kga, hd0, Keb], fun _ _ => rfl⟩
    have q1' := q1;simp only [Sh, Kga] at q1';simp only [U7];rw [Cz (by omega), q1', Ar];obtain ⟨g1, g2, g3, g4, g5, g6⟩ := q2;simp only [Zk0];have c1 : De (i : Int) (Ah H) (Ah H) = true := by simp [De, Ah]; omega
    have c2 : nEq (nOf (i : Int) + (nOf (Ah H) - nOf (i : Int))) H.length = true := by
      rw [Ak, G3, G3]; simp [nEq]; omega
    have c3 : ∀ z : Im, (Al (Bp (nOf (i : Int)) H) (Iz (nOf (H.length : Int) - nOf (i : Int)) z)).length = H.length := fun z => by
      rw [G3, G3]; simp [Al, Bp, Iz]; omega
    have c4 : De 0 (i : Int) (Ah H) = true := by simp [De, Ah]; omega
    have c5 : Jm 0 (nOf (i : Int) - 0) H.length = true := by rw [G3]; simp [Jm]; omega
    rw [Kjc] at g5;rw [c1, Az, c2, Az];simp only [Ak, c3];rw [Ak] at c4;rw [c4, Az, c5, Az];simp only [G3];rw [Yfo H (Hc l r.2.2.1) i _ (by omega) g5, Aa]
end
end Go.Vs
