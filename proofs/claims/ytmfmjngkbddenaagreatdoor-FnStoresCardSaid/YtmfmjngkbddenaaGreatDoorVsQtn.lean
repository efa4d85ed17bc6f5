import Derived.Test.YtmfmjngkbddenaaGreatDoorVsW5
import Derived.Test.YtmfmjngkbddenaaGreatDoorVsQtm
set_option linter.all false
namespace Go.Vs
noncomputable section
def Ix {α:Type}(lt:α->α->Bool) (m:α) (s:List α×Bool) (x:α):List α×Bool :=
 let s1:=if (!s.2&&!(lt x m))=true then (s.1++[m],true) else s
 if (lt x m||lt m x)=true then (s1.1++[x],s1.2) else s1
def Oq {α:Type}(lt:α->α->Bool) (l:List α) (m:α):List α:=l.filter (fun x=>lt x m)++m::l.filter (fun x=>lt m x)
def Vl {α:Type}(m:α) (s:List α×Bool):List α:=if s.2=true then s.1 else s.1++[m]
structure Ord {α:Type} (lt:α->α->Bool):Prop where
 irr:∀a,lt a a=false
 tr:∀a b c,lt a b=true->lt b c=true->lt a c=true
 np:∀x m y,lt x m=false->lt x y=true->lt m y=true
section
variable {α:Type} {lt:α->α->Bool}
theorem Ord.asy (o:Ord lt){a b:α}(h:lt a b=true):lt b a=false:=by
 cases k:lt b a with
 | false=>rfl
 | true=>have:=o.tr _ _ _ h k;rw[o.irr]at this;cases this
theorem Zf5 (m:α):∀(l:List α) (acc:List α),l.foldl (Ix lt m) (acc,true)=(acc++l.filter (fun x=>lt x m||lt m x),true)
 | [],acc=>by simp
 | x::l,acc=>by
  simp only[Krc,Ktc];have:Ix lt m (acc,true) x=if (lt x m||lt m x)=true then (acc++[x],true) else (acc,true):=by simp [Ix]
  rw[this];split
  ·rw[Zf5 m l];simp
  ·rw[Zf5 m l]
theorem Zmz (o:Ord lt) (m:α):∀(l:List α) (acc:List α),l.Pairwise (fun a b=>lt a b=true) ->
  Vl m (l.foldl (Ix lt m) (acc,false))=acc++Oq lt l m
 | [],acc,_=>by simp [Oq,Vl]
 | x::l,acc,h=>by
  rw[List.pairwise_cons]at h;obtain⟨hx,hl⟩:=h;simp only[Krc];cases h1:lt x m with
  | true =>
   have:Ix lt m (acc,false) x=(acc++[x],false):=by simp [Ix,h1]
   rw[this,Zmz o m l _ hl];simp [Oq,h1,o.asy h1]
  | false =>
   have ha:∀y∈l,lt m y=true:=fun y hy=>o.np x m y h1 (hx y hy);have e1:l.filter (fun x=>lt x m)=[]:=List.filter_eq_nil_iff.2 fun y hy=>by rw[o.asy (ha y hy)];simp
   have e2:l.filter (fun x=>lt m x)=l:=Kkd.2 fun y hy=>ha y hy;have e3:l.filter (fun x=>lt x m||lt m x)=l:=Kkd.2 fun y hy=>by rw[ha y hy];simp
   cases h2:lt m x with
   | true =>
    have:Ix lt m (acc,false) x=(acc++[m]++[x],true):=by simp [Ix,h1,h2]
    rw[this,Zf5,e3];simp [Oq,h1,h2,e1,e2,Vl]
   | false =>
    have:Ix lt m (acc,false) x=(acc++[m],true):=by simp [Ix,h1,h2]
    rw[this,Zf5,e3];simp [Oq,h1,h2,e1,e2,Vl]
theorem Zwr {l:List α}{m:α}(o:Ord lt) (h:∀x∈l,lt x m=true):Oq lt l m=l++[m]:=by
 unfold Oq;rw[Kkd.2 h,List.filter_eq_nil_iff.2 fun y hy=>by rw[o.asy (h y hy)];simp]
theorem Zet {ok:α->Bool}(o:Ord lt){l:List α}:Gs ok lt l=true ↔ (∀x∈l,ok x=true)/\l.Pairwise (fun a b=>lt a b=true):=by
 constructor
 ·intro h;refine⟨fun x hx=>by obtain⟨i,hi,rfl⟩:=Kpc hx;exact Zer h hi, ?_⟩;rw[Kwg];intro i j hi hj hij;exact Zko o.tr h j i hij hj
 ·rintro ⟨h1,h2⟩;rw[Kwg]at h2;unfold Gs;rw[Kna];intro i hi;rw[Kvb]at hi;cases i with
  | zero=>rw[Va hi];exact h1 _ (Kcb hi)
  | succ j=>rw[R9 hi,h1 _ (Kcb hi),h2 j (j+1) (by omega) hi (by omega)];rfl
end
theorem Zgz:Ord Gj where
 irr a:=Tr a.1
 tr a b c h1 h2:=Zpe (b:=b.1) h1 h2
 np x m y h1 h2:=by
  unfold Gj at h1 h2 ⊢;rcases Yaj x.1 m.1 with h|h|h
  ·rw[h]at h1;cases h1
  ·rw[<-h];exact h2
  ·exact Zpe h h2
theorem Zgy:Ord Gf where
 irr a:=by simp [Gf]
 tr a b c h1 h2:=by simp only[Gf,decide_eq_true_eq]at *;omega
 np x m y h1 h2:=by simp only[Gf,decide_eq_true_eq,decide_eq_false_iff_not]at *;omega
theorem Yxi (r:Row):wrF r=Ix Gj r:=by
 funext s x;unfold wrF Ix Gj;have:sEq x.1 r.1=!(sLt x.1 r.1||sLt r.1 x.1):=by
  rcases Yaj x.1 r.1 with h|h|h
  ·rw[h,Bool.true_or];simp only[sEq,Kqc,beq_eq_false_iff_ne];intro e;rw[e,Tr]at h;cases h
  ·rw[h,Tr];simp [sEq]
  ·rw[h,Krf];simp only[sEq,Kqc,beq_eq_false_iff_ne];intro e;rw[e,Tr]at h;cases h
 rw[this];cases sLt x.1 r.1<;>cases sLt r.1 x.1<;>rfl
theorem Yq4 (m:Bu):mkF m=Ix Gf m:=by
 funext s x;unfold mkF Ix Gf;have e1:iGe x.1 m.1=!decide (x.1<m.1):=by simp only[iGe];rw[Kdc];simp
 have e2:iNe x.1 m.1=(decide (x.1<m.1)||decide (m.1<x.1)):=by
  simp only[iNe];rw[Kdc];simp only[bne_iff_ne,Kmb,decide_eq_true_eq];omega
 rw[e1,e2]
theorem Yxj {l:List Row}(h:l.Pairwise (fun a b=>Gj a b=true)) (r:Row):wrR l r=Oq Gj l r:=by
 have:=Zmz Zgz r l [] h;have e:wrR l r=Vl r ((l.take l.length).foldl (wrF r) ([],false)):=rfl;rw[e,Kjc,Yxi];simpa using this
theorem Yq5 {l:List Bu}(h:l.Pairwise (fun a b=>Gf a b=true)) (m:Bu):mkR l m=Oq Gf l m:=by
 have:=Zmz Zgy m l [] h;have e:mkR l m=Vl m ((l.take l.length).foldl (mkF m) ([],false)):=rfl;rw[e,Kjc,Yq4];simpa using this
theorem Yvo {t:Tab}(h1:∀x∈t.1,Bn x=true) (h2:t.1.Pairwise (fun a b=>Gj a b=true)) (h3:∀x∈t.2.2,F2 x=true) (h4:t.2.2.Pairwise (fun a b=>Gf a b=true)) (h5:t.1.length<=8) (h6:0<=t.2.1/\t.2.1<=7):Ca t=true:=by
 simp only[Ca,(Zet Zgz).2 ⟨h1,h2⟩,(Zet Zgy).2 ⟨h3,h4⟩,decide_eq_true h5,decide_eq_true h6,Kod]
theorem Yb0 {t:Tab}(h:Ca t=true):(∀x∈t.1,Bn x=true)/\t.1.Pairwise (fun a b=>Gj a b=true)/\(∀x∈t.2.2,F2 x=true)/\t.2.2.Pairwise (fun a b=>Gf a b=true)/\t.1.length<=8/\0<=t.2.1/\t.2.1<=7:=by
 obtain⟨o1,o2,o3,o4,o5,o6⟩:=Zbm h;obtain⟨a,b⟩:=(Zet Zgz).1 o1;obtain⟨c,d⟩:=(Zet Zgy).1 o2;exact⟨a,b,c,d,o3,o4,o5⟩
theorem Yec {t:Tab}{r:Rec}(hf:(Da t r).2=true):Da t r=(G4 t r,true)/\Ca t=true/\Cd r=true/\Ca (G4 t r)=true:=by
 unfold Da at hf ⊢;split at hf
 ·rename_i hc;rw[if_pos hc];simp only[Kd]at hc;exact⟨rfl,hc.1,hc.2.1,hc.2.2⟩
 ·cases hf
def O7 (t:Tab):Nat->Tab
 | 0=>([],0,[])
 | k+1=>(t.1.take k,t.2.1,t.2.2.take (k-t.1.length))
theorem Zyz {t:Tab}(h:Ca t=true):∀i,Ca (O7 t i)=true
 | 0=>rfl
 | k+1=>by
  obtain⟨a,b,c,d,e,f⟩:=Yb0 h;exact Yvo (fun x hx=>a x (Kjb hx)) (b.sublist (Kbg _ _)) (fun x hx=>c x (Kjb hx)) (d.sublist (Kbg _ _)) (by simp only[O7,Kua];omega) f
theorem Yb7 {α:Type}{lt:α->α->Bool}{l:List α}(h:l.Pairwise (fun a b=>lt a b=true)){k:Nat}(hk:k<l.length):∀x∈l.take k,lt x l[k]=true:=by
 intro x hx;obtain⟨j,hj,rfl⟩:=Kpc hx;rw[Kua]at hj;rw[Kxf];rw[Kwg]at h;exact h j k (by omega) hk (by omega)
theorem Yr6 {t:Tab}(h:Ca t=true) (i:Nat) (hi:i<(C2 t).length):Cd (C2 t)[i]=true/\G4 (O7 t i) (C2 t)[i]=O7 t (i+1):=by
 obtain⟨a,b,c,d,e,f⟩:=Yb0 h;cases i with
 | zero =>
  have e0:(C2 t)[0]=Pk t.2.1:=rfl;rw[e0];refine⟨?_, ?_⟩
  ·simp only[Cd,Pk];have:Fl 3 ([],(0,[]),(0,[]),0,false) [] t.2.1=true:=by
    unfold Fl;rw[if_neg (by decide),if_neg (by decide),if_pos rfl,decide_eq_true (show 0<=t.2.1/\t.2.1<=7 from f)];rfl
   rw[this];rfl
  ·show ((Em _ _).1,((Em _ _).2,Hl _ _))=_;simp [Em,Hl,Pk,O7]
 | succ k =>
  rw[Tl]at hi;by_cases hk:k<t.1.length
  ·have e0:(C2 t)[k+1]'(by rw[Tl];omega)=Wq t.1[k]:=by
    simp only[C2,Kpe];rw[List.getElem_append_left (by simpa using hk),Kvg]
   rw[e0];refine⟨?_, ?_⟩
   ·have:=a _ (Kcb hk);simp only[Cd,Wq];unfold Fl;rw[if_pos rfl,this];rfl
   ·show ((Em _ _).1,((Em _ _).2,Hl _ _))=_;have e1:wrR (t.1.take k) t.1[k]=t.1.take (k+1):=by
     rw[Yxj (b.sublist (Kbg _ _)),Zwr Zgz (Yb7 b hk),Kbc hk]
    simp only[Em,Hl,Wq,O7,if_true,e1,show k-t.1.length=0 by omega,show k+1-t.1.length=0 by omega]
  ·have hj:k-t.1.length<t.2.2.length:=by omega
   have e0:(C2 t)[k+1]'(by rw[Tl];omega)=L6 t.2.2[k-t.1.length]:=by
    simp only[C2,Kpe];rw[List.getElem_append_right (by simp;omega)];simp only[Kvg,Ko]
   rw[e0];have hm:=c _ (Kcb hj);have hw:t.2.2[k-t.1.length].1≠0:=by
    simp only[F2,Kd,decide_eq_true_eq]at hm;omega
   refine⟨?_, ?_⟩
   ·simp only[Cd,L6];have:Fl 4 ([],(0,[]),(0,[]),0,false) [] 0=true:=rfl;rw[this,Kec];unfold Mj;rw[if_neg hw];simp only[F2,Kd,decide_eq_true_eq]at hm;simp only[decide_eq_true_eq];omega
   ·show ((Em _ _).1,((Em _ _).2,Hl _ _))=_;have e1:mkR (t.2.2.take (k-t.1.length)) t.2.2[k-t.1.length]=t.2.2.take (k+1-t.1.length):=by
     rw[Yq5 (d.sublist (Kbg _ _)),Zwr Zgy (Yb7 d hj),show k+1-t.1.length=k-t.1.length+1 by omega,Kbc hj]
    have e2:t.1.take k=t.1.take (k+1):=by rw[Kib (by omega),Kib (by omega)]
    have hb:∀(T:Tab) (m:Bu),Em T (L6 m)=(T.1,T.2.1):=fun T m=>by
     unfold Em;rw[if_neg (show ¬(L6 m).1=1 from by show ¬(4:Int)=1;decide),if_neg (show ¬(L6 m).1=2 from by show ¬(4:Int)=2;decide),if_neg (show ¬(L6 m).1=3 from by show ¬(4:Int)=3;decide)]
    have hmk:∀T:Tab,Hl T (L6 t.2.2[k-t.1.length])=mkR T.2.2 t.2.2[k-t.1.length]:=fun T=>by
     unfold Hl;rw[if_neg (show ¬(L6 t.2.2[k-t.1.length]).2.2.2.2.1=0 from hw)];rfl
    rw[hb,hmk];show (t.1.take k,(t.2.1,mkR (t.2.2.take (k-t.1.length)) t.2.2[k-t.1.length]))=_;rw[e1,e2];rfl
theorem Yr5 (t:Tab):O7 t (C2 t).length=t:=by
 rw[Tl,show 1+t.1.length+t.2.2.length=(t.1.length+t.2.2.length)+1 by omega];simp only[O7];rw[Kib (by omega),Kib (by omega)]
theorem Yed {t:Tab}{r:Rec}(h:Ca t=true) (hr:Cd r=true) (hn:Ca (G4 t r)=true):Da t r=(G4 t r,true):=by
 unfold Da;rw[if_pos (by rw[h,hr,hn];rfl)]
def sn (g:Int) (j:Nat):Nat:=2+30*(g%2).toNat+j
def hn (g:Int):Nat:=(g%2).toNat
theorem Zo2 {g:Int}(hg:0<=g):Dy g 2=(hn g:Int):=by
 obtain⟨n,rfl⟩:=Kpb hg;rw[show Dy (n:Int) 2=((n%2:Nat):Int) from rfl];unfold hn;omega
theorem Zbg {g:Int}{j:Nat}(hg:0<=g) (hj:j<30):Dt g (j:Int)=(sn g j:Int):=by
 unfold Dt sn;have h2:hn g<2:=by unfold hn;omega
 rw[Zo2 hg,show D8 .i64 30 (hn g:Int)=30*(hn g:Int) from Ue (by omega) (by omega),show Aj .i64 2 (30*(hn g:Int))=2+30*(hn g:Int) from C0 (by omega) (by omega),C0 (by omega) (by omega)];unfold hn;omega
theorem W4 {g:Int}{j:Nat}(hj:j<30):sn g j<62:=by unfold sn;omega
theorem W3 {g g':Int}{j:Nat}:sn g j≠hn g':=by unfold sn hn;omega
theorem Ybh {g:Int}{i j:Nat}(hi:i<30) (hj:j<30):sn (g+1) i≠sn g j:=by unfold sn;omega
theorem Zh3 {g:Int}{i j:Nat}(h:sn g i=sn g j):i=j:=by unfold sn at h;omega
theorem Yuz {g:Int}{j:Nat}:sn (g+1+1) j=sn g j:=by unfold sn;omega
theorem Yoe {g:Int}:hn (g+1)≠hn g:=by unfold hn;omega
theorem Yof {g:Int}:hn (g+1+1)=hn g:=by unfold hn;omega
theorem Zv {g:Int}:hn g<2:=by unfold hn;omega
theorem Jk {S:List (List UInt8)}{n m:Nat}{b:List UInt8}(h:n<S.length):(S.set n b).getD m []=if m=n then b else S.getD m []:=by
 simp only[Kwe,Kya];by_cases e:n=m
 ·subst e;simp [h]
 ·rw[if_neg e,if_neg (fun h=>e h.symm)]
def N3 (b:List UInt8) (g:Int):Prop:=∀x,Gx b=some x->x.1<g
theorem N3.mono {b:List UInt8}{g g':Int}(h:N3 b g) (hg:g<=g'):N3 b g':=fun x hx=>by have:=h x hx;omega
structure Hold (S:List (List UInt8)) (g:Int) (t:Tab) (p:Nat):Prop where
 len:S.length=62
 gen:1<=g/\g<=60000
 tab:Ca t=true
 pl:p<=30
 run:∃T:Nat->Tab,T 0=Ig/\T p=t/\∀j,j<p->∃r,Cd r=true/\Da (T j) r=(T (j+1),true)/\S.getD (sn g j) []=C7 g j r
 free:∀j,p<=j->j<30->N3 (S.getD (sn g j) []) g
 oth:∀j,j<30->N3 (S.getD (sn (g+1) j) []) (g+1)
 head:∃n:Nat,n<=p/\S.getD (hn g) []=Eo g n
 ohead:(En (S.getD (hn (g+1)) [])).2.2=true->(En (S.getD (hn (g+1)) [])).1<g
theorem Zg6 {d:Dv}{n:Nat}(h:dOk d=true) (hc:d.2.1=[]) (hn:n<d.1.length):rdD d (n:Int)=d.1.getD n []:=by
 have h':Cj d.1 d.2.1 d.2.2.1=true:=h;unfold rdD;rw[Zy9 h' hn,hc];simp [rdL,hn]
theorem Yoj {d:Dv}{g:Int}{t:Tab}{p:Nat}(h:dOk d=true) (hc:d.2.1=[]) (H:Hold d.1 g t p) (T:Nat->Tab) (hT:T p=t) (hr:∀j,j<p->∃r,Cd r=true/\Da (T j) r=(T (j+1),true)/\d.1.getD (sn g j) []=C7 g j r):∀k i:Nat,p-i=k->i<=p->Hq d g (30-i) i (T i)=(t,(p:Int)):=by
 have hp:=H.pl;have hg:=H.gen;have hl:=H.len;intro k
 induction k with
 | zero =>
  intro i hi hip;have e:i=p:=by omega
  subst e;rw[hT];by_cases h30:i=30
  ·subst h30;rfl
  rw[show 30-i=(30-(i+1))+1 by omega];have hN:Mf d g i t=none:=by
   unfold Mf;rw[Zbg (by omega) (by omega),Zg6 h hc (by rw[hl];exact W4 (by omega))];cases hx:Gx (d.1.getD (sn g i) []) with
   | none=>rfl
   | some x =>
    have:=H.free i (Kc _) (by omega) x hx;simp only;rw[if_neg (by intro hh;omega)]
  unfold Hq;rw[hN]
 | succ k ih =>
  intro i hi hip;rw[show 30-i=(30-(i+1))+1 by omega];obtain⟨r,r1,r2,r3⟩:=hr i (by omega);have hN:Mf d g i (T i)=some (T (i+1)):=by
   unfold Mf;rw[Zbg (by omega) (by omega),Zg6 h hc (by rw[hl];exact W4 (by omega)),r3,Zvj r1 (by omega) (by omega) (by omega) (by omega)];simp only;rw[r2,if_pos ⟨trivial,trivial,rfl⟩]
  unfold Hq;rw[hN];exact ih (i+1) (by omega) (by omega)
theorem Zv3 {d:Dv}{g:Int}{t:Tab}{p:Nat}(h:dOk d=true) (hc:d.2.1=[]) (H:Hold d.1 g t p):I4 d g=(t,(p:Int)):=by
 obtain⟨T,h0,hT,hr⟩:=H.run;unfold I4;rw[if_pos H.gen,<-h0];exact Yoj h hc H T hT hr p 0 (by omega) (by omega)
theorem Zv4 {d:Dv}{g:Int}{t:Tab}{p:Nat}(h:dOk d=true) (hc:d.2.1=[]) (H:Hold d.1 g t p):RightS (d,(t,(g,(p:Int)))):=⟨h,H.len,.inr hc,H.tab,H.gen,by have:=H.pl;simp only;omega⟩
theorem Zyk {d:Dv}{g:Int}{t:Tab}{p:Nat}{s:Bv}(h:dOk d=true) (hc:d.2.1=[]) (H:Hold d.1 g t p) (hs:s.2.2.1<g):H8 d (hn g:Int) s=(d,(t,(g,(p:Int)))):=by
 obtain⟨n,n1,n2⟩:=H.head;have hp:=H.pl;have hg:=H.gen;have hk:K2 g n=true:=by unfold K2;rw[decide_eq_true hg,decide_eq_true (by omega)];rfl
 have e:En (rdD d (hn g:Int))=(g,(n:Int),true):=by
  rw[Zg6 h hc (by rw[H.len];have:=Zv (g:=g);omega),n2];unfold Eo;rw[if_pos hk,Zvi hk]
 unfold H8;rw[e];simp only;rw[Zv3 h hc H];rw[if_pos ⟨trivial,Zo2 (by omega),hs,by simp only;omega⟩]
theorem Zyj {d:Dv}{g:Int}{t:Tab}{p:Nat}{s:Bv}(h:dOk d=true) (hc:d.2.1=[]) (H:Hold d.1 g t p):H8 d (hn (g+1):Int) s=s\/(s.2.2.1<(H8 d (hn (g+1):Int) s).2.2.1/\(H8 d (hn (g+1):Int) s).2.2.1<g):=by
 have e:=Zg6 (n:=hn (g+1)) h hc (by rw[H.len];have:=Zv (g:=g+1);omega);have ho:=H.ohead;unfold H8;split
 ·rename_i hh;rw[e]at hh ⊢;exact .inr ⟨hh.2.2.1,ho hh.1⟩
 ·exact .inl rfl
theorem Yoi {d:Dv}{g:Int}{t:Tab}{p:Nat}(h:dOk d=true) (hc:d.2.1=[]) (H:Hold d.1 g t p):oAt d 2=(d,(t,(g,(p:Int)))):=by
 have hg:=H.gen;show H8 d ((1:Nat):Int) (H8 d ((0:Nat):Int) T2)=_;by_cases e:hn g=0
 ·have e1:hn (g+1)=1:=by unfold hn at e ⊢;omega
  have a:=Zyk (s:=T2) h hc H (show (0:Int)<g by omega);rw[e]at a;rw[a];rcases Zyj (s:=(d,(t,(g,(p:Int))))) h hc H with b|b
  ·rw[e1]at b;exact b
  ·simp only at b;omega
 ·have e0:hn g=1:=by have:=Zv (g:=g);omega
  have e1:hn (g+1)=0:=by unfold hn at e0 ⊢;omega
  have hs:(H8 d ((0:Nat):Int) T2).2.2.1<g:=by
   rcases Zyj (s:=T2) h hc H with b|b
   ·rw[e1]at b;rw[b];show (0:Int)<g;omega
   ·rw[e1]at b;exact b.2
  have a:=Zyk (s:=H8 d ((0:Nat):Int) T2) h hc H hs;rw[e0]at a;exact a
theorem Yol {d:Dv}{g:Int}{t:Tab}{p:Nat}(h:dOk d=true) (hc:d.2.1=[]) (H:Hold d.1 g t p):Zal d=(H6 (d,(t,(g,(p:Int)))),true):=by
 unfold Zal;rw[Yoi h hc H,if_pos (Tn (Zv4 h hc H))]
end
end Go.Vs
