import Derived.Test.YtmfmjngkbddenaaGreatDoorVsQtm
set_option linter.all false
namespace Go.Vs
noncomputable section
def I0 {α:Type}(lt:α->α->Bool) (m:α) (s:List α×Bool) (x:α):List α×Bool :=
 let s1:=if (!s.2&&!(lt x m))=true then (s.1++[m],true) else s
 if (lt x m||lt m x)=true then (s1.1++[x],s1.2) else s1
def Ou {α:Type}(lt:α->α->Bool) (l:List α) (m:α):List α:=l.filter (fun x=>lt x m)++m::l.filter (fun x=>lt m x)
def Vx {α:Type}(m:α) (s:List α×Bool):List α:=if s.2=true then s.1 else s.1++[m]
structure Ord {α:Type} (lt:α->α->Bool):Prop where
 irr:∀a,lt a a=false
 tr:∀a b c,lt a b=true->lt b c=true->lt a c=true
 np:∀x m y,lt x m=false->lt x y=true->lt m y=true
section
variable {α:Type} {lt:α->α->Bool}
theorem Ord.asy (o:Ord lt){a b:α}(h:lt a b=true):lt b a=false:=by
 cases k:lt b a with
 | false=>rfl
 | true=>have:=o.tr _ _ _ h k;rw[o.irr]at this;cases this
theorem Zgf (m:α):∀(l:List α) (acc:List α),l.foldl (I0 lt m) (acc,true)=(acc++l.filter (fun x=>lt x m||lt m x),true)
 | [],acc=>by simp
 | x::l,acc=>by
  simp only[Ktc,Kuc];have:I0 lt m (acc,true) x=if (lt x m||lt m x)=true then (acc++[x],true) else (acc,true):=by simp [I0]
  rw[this];split
  ·rw[Zgf m l];simp
  rw[Zgf m l]
theorem Znf (o:Ord lt) (m:α):∀(l:List α) (acc:List α),l.Pairwise (fun a b=>lt a b=true) ->
  Vx m (l.foldl (I0 lt m) (acc,false))=acc++Ou lt l m
 | [],acc,_=>by simp [Ou,Vx]
 | x::l,acc,h=>by
  rw[List.pairwise_cons]at h;obtain⟨hx,hl⟩:=h;simp only[Ktc];cases h1:lt x m with
  | true =>
   have:I0 lt m (acc,false) x=(acc++[x],false):=by simp [I0,h1]
   rw[this,Znf o m l _ hl];simp [Ou,h1,o.asy h1]
  | false =>
   have ha:∀y∈l,lt m y=true:=fun y hy=>o.np x m y h1 (hx y hy);have e1:l.filter (fun x=>lt x m)=[]:=List.filter_eq_nil_iff.2 fun y hy=>by rw[o.asy (ha y hy)];simp
   have e2:l.filter (fun x=>lt m x)=l:=Kmd.2 fun y hy=>ha y hy;have e3:l.filter (fun x=>lt x m||lt m x)=l:=Kmd.2 fun y hy=>by rw[ha y hy];simp
   cases h2:lt m x with
   | true =>
    have:I0 lt m (acc,false) x=(acc++[m]++[x],true):=by simp [I0,h1,h2]
    rw[this,Zgf,e3];simp [Ou,h1,h2,e1,e2,Vx]
   | false =>
    have:I0 lt m (acc,false) x=(acc++[m],true):=by simp [I0,h1,h2]
    rw[this,Zgf,e3];simp [Ou,h1,h2,e1,e2,Vx]
theorem Zw3 {l:List α}{m:α}(o:Ord lt) (h:∀x∈l,lt x m=true):Ou lt l m=l++[m]:=by
 unfold Ou;rw[Kmd.2 h,List.filter_eq_nil_iff.2 fun y hy=>by rw[o.asy (h y hy)];simp]
theorem Ze3 {ok:α->Bool}(o:Ord lt){l:List α}:Gu ok lt l=true ↔ (∀x∈l,ok x=true)/\l.Pairwise (fun a b=>lt a b=true):=by
 constructor
 ·intro h;refine⟨fun x hx=>by obtain⟨i,hi,rfl⟩:=Krc hx;exact Ze1 h hi, ?_⟩;rw[Kxg];intro i j hi hj hij;exact Zkz o.tr h j i hij hj
 rintro ⟨h1,h2⟩;rw[Kxg]at h2;unfold Gu;rw[Kna];intro i hi;rw[Kvb]at hi;cases i with
 | zero=>rw[Vj hi];exact h1 _ (Kcb hi)
 | succ j=>rw[Sj hi,h1 _ (Kcb hi),h2 j (j+1) (by omega) hi (by omega)];rfl
end
theorem Zg8:Ord Gk where
 irr a:=T4 a.1
 tr a b c h1 h2:=Zpv (b:=b.1) h1 h2
 np x m y h1 h2:=by
  unfold Gk at h1 h2 ⊢;rcases Yax x.1 m.1 with h|h|h
  ·rw[h]at h1;cases h1
  ·rw[<-h];exact h2
  exact Zpv h h2
theorem Zg7:Ord Gg where
 irr a:=by simp [Gg]
 tr a b c h1 h2:=by simp only[Gg,decide_eq_true_eq]at *;omega
 np x m y h1 h2:=by simp only[Gg,decide_eq_true_eq,decide_eq_false_iff_not]at *;omega
theorem Yxz (r:Row):wrF r=I0 Gk r:=by
 funext s x;unfold wrF I0 Gk;have:sEq x.1 r.1=!(sLt x.1 r.1||sLt r.1 x.1):=by
  rcases Yax x.1 r.1 with h|h|h
  ·rw[h,Bool.true_or];simp only[sEq,Ksc,beq_eq_false_iff_ne];intro e;rw[e,T4]at h;cases h
  ·rw[h,T4];simp [sEq]
  rw[h,Krf];simp only[sEq,Ksc,beq_eq_false_iff_ne];intro e;rw[e,T4]at h;cases h
 rw[this];cases sLt x.1 r.1<;>cases sLt r.1 x.1<;>rfl
theorem Yro (m:Bv):mkF m=I0 Gg m:=by
 funext s x;unfold mkF I0 Gg;have e1:iGe x.1 m.1=!decide (x.1<m.1):=by simp only[iGe];rw[Kdc];simp
 have e2:iNe x.1 m.1=(decide (x.1<m.1)||decide (m.1<x.1)):=by
  simp only[iNe];rw[Kdc];simp only[bne_iff_ne,Kmb,decide_eq_true_eq];omega
 rw[e1,e2]
theorem Yx0 {l:List Row}(h:l.Pairwise (fun a b=>Gk a b=true)) (r:Row):wrR l r=Ou Gk l r:=by
 have:=Znf Zg8 r l [] h;have e:wrR l r=Vx r ((l.take l.length).foldl (wrF r) ([],false)):=rfl;rw[e,Kkc,Yxz];simpa using this
theorem Yrp {l:List Bv}(h:l.Pairwise (fun a b=>Gg a b=true)) (m:Bv):mkR l m=Ou Gg l m:=by
 have:=Znf Zg7 m l [] h;have e:mkR l m=Vx m ((l.take l.length).foldl (mkF m) ([],false)):=rfl;rw[e,Kkc,Yro];simpa using this
theorem Yv4 {t:Tab}(h1:∀x∈t.1,Bo x=true) (h2:t.1.Pairwise (fun a b=>Gk a b=true)) (h3:∀x∈t.2.2,F2 x=true) (h4:t.2.2.Pairwise (fun a b=>Gg a b=true)) (h5:t.1.length<=8) (h6:0<=t.2.1/\t.2.1<=7):B7 t=true:=by
 simp only[B7,(Ze3 Zg8).2 ⟨h1,h2⟩,(Ze3 Zg7).2 ⟨h3,h4⟩,decide_eq_true h5,decide_eq_true h6,Kqd]
theorem Ycd {t:Tab}(h:B7 t=true):(∀x∈t.1,Bo x=true)/\t.1.Pairwise (fun a b=>Gk a b=true)/\(∀x∈t.2.2,F2 x=true)/\t.2.2.Pairwise (fun a b=>Gg a b=true)/\t.1.length<=8/\0<=t.2.1/\t.2.1<=7:=by
 obtain⟨o1,o2,o3,o4,o5,o6⟩:=Zbw h;obtain⟨a,b⟩:=(Ze3 Zg8).1 o1;obtain⟨c,d⟩:=(Ze3 Zg7).1 o2;exact⟨a,b,c,d,o3,o4,o5⟩
theorem Yes {t:Tab}{r:Rec}(hf:(Cj t r).2=true):Cj t r=(G6 t r,true)/\B7 t=true/\Cf r=true/\B7 (G6 t r)=true:=by
 unfold Cj at hf ⊢;split at hf
 ·rename_i hc;rw[if_pos hc];simp only[Kd]at hc;exact⟨rfl,hc.1,hc.2.1,hc.2.2⟩
 cases hf
def Pb (t:Tab):Nat->Tab
 | 0=>([],0,[])
 | k+1=>(t.1.take k,t.2.1,t.2.2.take (k-t.1.length))
theorem Zzc {t:Tab}(h:B7 t=true):∀i,B7 (Pb t i)=true
 | 0=>rfl
 | k+1=>by
  obtain⟨a,b,c,d,e,f⟩:=Ycd h;exact Yv4 (fun x hx=>a x (Kjb hx)) (b.sublist (Kbg _ _)) (fun x hx=>c x (Kjb hx)) (d.sublist (Kbg _ _)) (by simp only[Pb,Kua];omega) f
theorem Yck {α:Type}{lt:α->α->Bool}{l:List α}(h:l.Pairwise (fun a b=>lt a b=true)){k:Nat}(hk:k<l.length):∀x∈l.take k,lt x l[k]=true:=by
 intro x hx;obtain⟨j,hj,rfl⟩:=Krc hx;rw[Kua]at hj;rw[Kxf];rw[Kxg]at h;exact h j k (by omega) hk (by omega)
theorem Zze {t:Tab}(h:B7 t=true) (i:Nat) (hi:i<(A8 t).length):Cf (A8 t)[i]=true/\G6 (Pb t i) (A8 t)[i]=Pb t (i+1):=by
 obtain⟨a,b,c,d,e,f⟩:=Ycd h;cases i with
 | zero =>
  have e0:(A8 t)[0]=Jw t.2.1:=rfl;rw[e0];refine⟨?_, ?_⟩
  ·simp only[Cf,Jw];have:Fl 3 ([],(0,[]),(0,[]),0,false) [] t.2.1=true:=by
    unfold Fl;rw[if_neg (by decide),if_neg (by decide),if_pos rfl,decide_eq_true (show 0<=t.2.1/\t.2.1<=7 from f)];rfl
   rw[this];rfl
  show ((En _ _).1,((En _ _).2,Hq _ _))=_;simp [En,Hq,Jw,Pb]
 | succ k =>
  rw[Tz]at hi;by_cases hk:k<t.1.length
  ·have e0:(A8 t)[k+1]'(by rw[Tz];omega)=W3 t.1[k]:=by
    simp only[A8,Kqe];rw[List.getElem_append_left (by simpa using hk),Kwg]
   rw[e0];refine⟨?_, ?_⟩
   ·have:=a _ (Kcb hk);simp only[Cf,W3];unfold Fl;rw[if_pos rfl,this];rfl
   show ((En _ _).1,((En _ _).2,Hq _ _))=_;have e1:wrR (t.1.take k) t.1[k]=t.1.take (k+1):=by
    rw[Yx0 (b.sublist (Kbg _ _)),Zw3 Zg8 (Yck b hk),Kbc hk]
   simp only[En,Hq,W3,Pb,if_true,e1,show k-t.1.length=0 by omega,show k+1-t.1.length=0 by omega]
  have hj:k-t.1.length<t.2.2.length:=by omega
  have e0:(A8 t)[k+1]'(by rw[Tz];omega)=L7 t.2.2[k-t.1.length]:=by
   simp only[A8,Kqe];rw[List.getElem_append_right (by simp;omega)];simp only[Kwg,Ko]
  rw[e0];have hm:=c _ (Kcb hj);have hw:t.2.2[k-t.1.length].1≠0:=by
   simp only[F2,Kd,decide_eq_true_eq]at hm;omega
  refine⟨?_, ?_⟩
  ·simp only[Cf,L7];have:Fl 4 ([],(0,[]),(0,[]),0,false) [] 0=true:=rfl;rw[this,Kec];unfold Ml;rw[if_neg hw];simp only[F2,Kd,decide_eq_true_eq]at hm;simp only[decide_eq_true_eq];omega
  show ((En _ _).1,((En _ _).2,Hq _ _))=_;have e1:mkR (t.2.2.take (k-t.1.length)) t.2.2[k-t.1.length]=t.2.2.take (k+1-t.1.length):=by
   rw[Yrp (d.sublist (Kbg _ _)),Zw3 Zg7 (Yck d hj),show k+1-t.1.length=k-t.1.length+1 by omega,Kbc hj]
  have e2:t.1.take k=t.1.take (k+1):=by rw[Kib (by omega),Kib (by omega)]
  have hb:∀(T:Tab) (m:Bv),En T (L7 m)=(T.1,T.2.1):=fun T m=>by
   unfold En;rw[if_neg (show ¬(L7 m).1=1 from by show ¬(4:Int)=1;decide),if_neg (show ¬(L7 m).1=2 from by show ¬(4:Int)=2;decide),if_neg (show ¬(L7 m).1=3 from by show ¬(4:Int)=3;decide)]
  have hmk:∀T:Tab,Hq T (L7 t.2.2[k-t.1.length])=mkR T.2.2 t.2.2[k-t.1.length]:=fun T=>by
   unfold Hq;rw[if_neg (show ¬(L7 t.2.2[k-t.1.length]).2.2.2.2.1=0 from hw)];rfl
  rw[hb,hmk];show (t.1.take k,(t.2.1,mkR (t.2.2.take (k-t.1.length)) t.2.2[k-t.1.length]))=_;rw[e1,e2];rfl
theorem Ysp (t:Tab):Pb t (A8 t).length=t:=by
 rw[Tz,show 1+t.1.length+t.2.2.length=(t.1.length+t.2.2.length)+1 by omega];simp only[Pb];rw[Kib (by omega),Kib (by omega)]
theorem Yet {t:Tab}{r:Rec}(h:B7 t=true) (hr:Cf r=true) (hn:B7 (G6 t r)=true):Cj t r=(G6 t r,true):=by
 unfold Cj;rw[if_pos (by rw[h,hr,hn];rfl)]
def sn (g:Int) (j:Nat):Nat:=2+30*(g%2).toNat+j
def hn (g:Int):Nat:=(g%2).toNat
theorem Zhj {g:Int}(hg:0<=g):De g 2=(hn g:Int):=by
 obtain⟨n,rfl⟩:=Kob hg;rw[show De (n:Int) 2=((n%2:Nat):Int) from rfl];unfold hn;omega
theorem Pg {g:Int}{j:Nat}(hg:0<=g) (hj:j<30):Df g (j:Int)=(sn g j:Int):=by
 unfold Df sn;have h2:hn g<2:=by unfold hn;omega
 rw[Zhj hg,show Dd .i64 30 (hn g:Int)=30*(hn g:Int) from Mn (by omega) (by omega),show Aj .i64 2 (30*(hn g:Int))=2+30*(hn g:Int) from Cz (by omega) (by omega),Cz (by omega) (by omega)];unfold hn;omega
theorem Ri {g:Int}{j:Nat}(hj:j<30):sn g j<62:=by unfold sn;omega
theorem Uc {g g':Int}{j:Nat}:sn g j≠hn g':=by unfold sn hn;omega
theorem Zqf {g:Int}{i j:Nat}(hi:i<30) (hj:j<30):sn (g+1) i≠sn g j:=by unfold sn;omega
theorem Zbt {g:Int}{i j:Nat}(h:sn g i=sn g j):i=j:=by unfold sn at h;omega
theorem Yvf {g:Int}{j:Nat}:sn (g+1+1) j=sn g j:=by unfold sn;omega
theorem Yow {g:Int}:hn (g+1)≠hn g:=by unfold hn;omega
theorem Yox {g:Int}:hn (g+1+1)=hn g:=by unfold hn;omega
theorem V6 {g:Int}:hn g<2:=by unfold hn;omega
theorem Jl {S:List (List UInt8)}{n m:Nat}{b:List UInt8}(h:n<S.length):(S.set n b).getD m []=if m=n then b else S.getD m []:=by
 simp only[Kld,Kya];by_cases e:n=m
 ·subst e;simp [h]
 rw[if_neg e,if_neg (fun h=>e h.symm)]
def Lr (b:List UInt8) (g:Int):Prop:=∀x,Gz b=some x->x.1<g
theorem Lr.mono {b:List UInt8}{g g':Int}(h:Lr b g) (hg:g<=g'):Lr b g':=fun x hx=>by have:=h x hx;omega
structure Core (S:List (List UInt8)) (g:Int) (t:Tab) (p:Nat):Prop where
 len:S.length=62
 gen:1<=g/\g<=60000
 tab:B7 t=true
 pl:p<=30
 run:∃T:Nat->Tab,T 0=Ij/\T p=t/\∀j,j<p->∃r,Cf r=true/\Cj (T j) r=(T (j+1),true)/\S.getD (sn g j) []=Ck g j r
 free:∀j,p<=j->j<30->Lr (S.getD (sn g j) []) g
 head:∃n:Nat,n<=p/\S.getD (hn g) []=D1 g n
 ohead:(Eo (S.getD (hn (g+1)) [])).2.2=true->(Eo (S.getD (hn (g+1)) [])).1<g
structure Hold (S:List (List UInt8)) (g:Int) (t:Tab) (p:Nat):Prop extends Core S g t p where
 oth:∀j,j<30->Lr (S.getD (sn (g+1) j) []) (g+1)
structure Weak (S:List (List UInt8)) (g:Int) (t:Tab) (p:Nat):Prop extends Core S g t p where
 oth1:∀j,j<30->Lr (S.getD (sn (g+1) j) []) (g+1+1)
 oth2:∀j,(A8 t).length<=j->j<30->Lr (S.getD (sn (g+1) j) []) (g+1)
theorem Hold.weak {S:List (List UInt8)}{g:Int}{t:Tab}{p:Nat}(h:Hold S g t p):Weak S g t p:=⟨h.toCore,fun j hj=>(h.oth j hj).mono (by omega),fun j _ hj=>h.oth j hj⟩
theorem Zhg {d:Dv}{n:Nat}(h:dOk d=true) (hc:d.2.1=[]) (hn:n<d.1.length):rdD d (n:Int)=d.1.getD n []:=by
 have h':Ce d.1 d.2.1 d.2.2.1=true:=h;unfold rdD;rw[Zzo h' hn,hc];simp [rdL,hn]
theorem Yo0 {d:Dv}{g:Int}{t:Tab}{p:Nat}(h:dOk d=true) (hc:d.2.1=[]) (H:Core d.1 g t p) (T:Nat->Tab) (hT:T p=t) (hr:∀j,j<p->∃r,Cf r=true/\Cj (T j) r=(T (j+1),true)/\d.1.getD (sn g j) []=Ck g j r):∀k i:Nat,p-i=k->i<=p->Ht d g (30-i) i (T i)=(t,(p:Int)):=by
 have hp:=H.pl;have hg:=H.gen;have hl:=H.len;intro k
 induction k with
 | zero =>
  intro i hi hip;have e:i=p:=by omega
  subst e;rw[hT];by_cases h30:i=30
  ·subst h30;rfl
  rw[show 30-i=(30-(i+1))+1 by omega];have hN:Mg d g i t=none:=by
   unfold Mg;rw[Pg (by omega) (by omega),Zhg h hc (by rw[hl];exact Ri (by omega))];cases hx:Gz (d.1.getD (sn g i) []) with
   | none=>rfl
   | some x =>
    have:=H.free i (Kc _) (by omega) x hx;simp only;rw[if_neg (by intro hh;omega)]
  unfold Ht;rw[hN]
 | succ k ih =>
  intro i hi hip;rw[show 30-i=(30-(i+1))+1 by omega];obtain⟨r,r1,r2,r3⟩:=hr i (by omega);have hN:Mg d g i (T i)=some (T (i+1)):=by
   unfold Mg;rw[Pg (by omega) (by omega),Zhg h hc (by rw[hl];exact Ri (by omega)),r3,Zmj r1 (by omega) (by omega) (by omega) (by omega)];simp only;rw[r2,if_pos ⟨trivial,trivial,rfl⟩]
  unfold Ht;rw[hN];exact ih (i+1) (by omega) (by omega)
theorem Yo2 {d:Dv}{g:Int}{t:Tab}{p:Nat}(h:dOk d=true) (hc:d.2.1=[]) (H:Core d.1 g t p):Js d g=(t,(p:Int)):=by
 obtain⟨T,h0,hT,hr⟩:=H.run;unfold Js;rw[if_pos H.gen,<-h0];exact Yo0 h hc H T hT hr p 0 (by omega) (by omega)
theorem Zf4 {d:Dv}{g:Int}{t:Tab}{p:Nat}(h:dOk d=true) (hc:d.2.1=[]) (H:Core d.1 g t p):RightS (d,(t,(g,(p:Int)))):=⟨h,H.len,.inr hc,H.tab,H.gen,by have:=H.pl;simp only;omega⟩
theorem Zyx {d:Dv}{g:Int}{t:Tab}{p:Nat}{s:Bw}(h:dOk d=true) (hc:d.2.1=[]) (H:Core d.1 g t p) (hs:s.2.2.1<g):Ib d (hn g:Int) s=(d,(t,(g,(p:Int)))):=by
 obtain⟨n,n1,n2⟩:=H.head;have hp:=H.pl;have hg:=H.gen;have hk:K3 g n=true:=by unfold K3;rw[decide_eq_true hg,decide_eq_true (by omega)];rfl
 have e:Eo (rdD d (hn g:Int))=(g,(n:Int),true):=by
  rw[Zhg h hc (by rw[H.len];have:=V6 (g:=g);omega),n2];unfold D1;rw[if_pos hk,Zvx hk]
 unfold Ib;rw[e];simp only;rw[Yo2 h hc H];rw[if_pos ⟨trivial,Zhj (by omega),hs,by simp only;omega⟩]
theorem Zyw {d:Dv}{g:Int}{t:Tab}{p:Nat}{s:Bw}(h:dOk d=true) (hc:d.2.1=[]) (H:Core d.1 g t p):Ib d (hn (g+1):Int) s=s\/(s.2.2.1<(Ib d (hn (g+1):Int) s).2.2.1/\(Ib d (hn (g+1):Int) s).2.2.1<g):=by
 have e:=Zhg (n:=hn (g+1)) h hc (by rw[H.len];have:=V6 (g:=g+1);omega);have ho:=H.ohead;unfold Ib;split
 ·rename_i hh;rw[e]at hh ⊢;exact .inr ⟨hh.2.2.1,ho hh.1⟩
 exact .inl rfl
theorem Yoz {d:Dv}{g:Int}{t:Tab}{p:Nat}(h:dOk d=true) (hc:d.2.1=[]) (H:Core d.1 g t p):oAt d 2=(d,(t,(g,(p:Int)))):=by
 have hg:=H.gen;show Ib d ((1:Nat):Int) (Ib d ((0:Nat):Int) Ud)=_;by_cases e:hn g=0
 ·have e1:hn (g+1)=1:=by unfold hn at e ⊢;omega
  have a:=Zyx (s:=Ud) h hc H (show (0:Int)<g by omega);rw[e]at a;rw[a];rcases Zyw (s:=(d,(t,(g,(p:Int))))) h hc H with b|b
  ·rw[e1]at b;exact b
  simp only at b;omega
 have e0:hn g=1:=by have:=V6 (g:=g);omega
 have e1:hn (g+1)=0:=by unfold hn at e0 ⊢;omega
 have hs:(Ib d ((0:Nat):Int) Ud).2.2.1<g:=by
  rcases Zyw (s:=Ud) h hc H with b|b
  ·rw[e1]at b;rw[b];show (0:Int)<g;omega
  rw[e1]at b;exact b.2
 have a:=Zyx (s:=Ib d ((0:Nat):Int) Ud) h hc H hs;rw[e0]at a;exact a
theorem Yo1 {d:Dv}{g:Int}{t:Tab}{p:Nat}(h:dOk d=true) (hc:d.2.1=[]) (H:Core d.1 g t p):Ma d=(Gf (d,(t,(g,(p:Int)))),true):=by
 unfold Ma;rw[Yoz h hc H,if_pos (T2 (Zf4 h hc H))]
end
end Go.Vs
